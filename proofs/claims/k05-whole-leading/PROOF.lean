import PyProof.Rows.All
import Wide.All
import OpenK.AllK
import Wide.FinOn
import HandS.ForList
import HandS.Comp
import HandS.ExcCtx
import HandS.HotCalls
import HandS.ExcIs
import HandS.IsInst
import HandS.WordsExc
import KE.RegKIsAll
import PySem.Challenge.RW_rayround_k05_whole_leading
set_option Elab.async false
namespace RR
abbrev P := Int × Int
abbrev T := P × P
def cr (p q : P) : Int := p.1 * q.2 - p.2 * q.1
def led (t : T) (p : P) : P := (t.1.1 * p.1 + t.1.2 * p.2, t.2.1 * p.1 + t.2.2 * p.2)
def bck (t : T) : T := ((cr t.1 t.2 * t.2.2, -cr t.1 t.2 * t.1.2), (-cr t.1 t.2 * t.2.1, cr t.1 t.2 * t.1.1))
def thn (a b : T) : T := (((led b (led a (1, 0))).1, (led b (led a (0, 1))).1), ((led b (led a (1, 0))).2, (led b (led a (0, 1))).2))
def both (a b : T) : T := (((led b (a.1.1, a.2.1)).1, (led b (a.1.2, a.2.2)).1), ((led b (a.1.1, a.2.1)).2, (led b (a.1.2, a.2.2)).2))
def lead (o r ot rt : P) : T := thn (bck ((o.1, r.1), (o.2, r.2))) ((ot.1, rt.1), (ot.2, rt.2))
def Un (d : Int) : Prop := d = 1 ∨ d = -1
theorem Un.sq {d : Int} (h : Un d) : d * d = 1 := by
  rcases h with h | h <;> subst h <;> rfl
theorem cr_led (t : T) (o r : P) : cr (led t o) (led t r) = cr t.1 t.2 * cr o r := by
  simp only [cr, led]
  grind
theorem Un.mul {a b : Int} (h : Un a) (k : Un b) : Un (a * b) := by
  rcases h with h | h <;> rcases k with k | k <;> subst h <;> subst k <;> simp [Un]
theorem lead_one {o r : P} (ot rt : P) (h : Un (cr o r)) : led (lead o r ot rt) o = ot := by
  have s := h.sq
  obtain ⟨o1, o2⟩ := o; obtain ⟨r1, r2⟩ := r; obtain ⟨a1, a2⟩ := ot; obtain ⟨b1, b2⟩ := rt
  simp only [cr] at s
  simp only [lead, thn, bck, led, cr, Prod.mk.injEq]
  constructor <;> grind
theorem lead_other {o r : P} (ot rt : P) (h : Un (cr o r)) : led (lead o r ot rt) r = rt := by
  have s := h.sq
  obtain ⟨o1, o2⟩ := o; obtain ⟨r1, r2⟩ := r; obtain ⟨a1, a2⟩ := ot; obtain ⟨b1, b2⟩ := rt
  simp only [cr] at s
  simp only [lead, thn, bck, led, cr, Prod.mk.injEq]
  constructor <;> grind
theorem lead_det {o r ot rt : P} (h : Un (cr o r)) (k : Un (cr ot rt)) : Un (cr (lead o r ot rt).1 (lead o r ot rt).2) := by
  have e : cr (lead o r ot rt).1 (lead o r ot rt).2 = (cr o r * cr o r) * (cr o r * cr ot rt) := by
    obtain ⟨o1, o2⟩ := o; obtain ⟨r1, r2⟩ := r; obtain ⟨a1, a2⟩ := ot; obtain ⟨b1, b2⟩ := rt
    simp only [lead, thn, bck, led, cr]
    grind
  rw [e, h.sq, Int.one_mul]
  exact h.mul k
theorem lead_self {o r : P} (t : T) (h : Un (cr o r)) : lead o r (led t o) (led t r) = t := by
  have s := h.sq
  obtain ⟨o1, o2⟩ := o; obtain ⟨r1, r2⟩ := r; obtain ⟨⟨a1, a2⟩, ⟨b1, b2⟩⟩ := t
  simp only [cr] at s
  simp only [lead, thn, bck, led, cr, Prod.mk.injEq]
  refine ⟨⟨?_, ?_⟩, ?_, ?_⟩ <;> grind
theorem both_det (a b : T) : cr (both a b).1 (both a b).2 = cr a.1 a.2 * cr b.1 b.2 := by
  simp only [both, cr, led]
  grind
/-! sizes -/
def Bd (n x : Int) : Prop := -n ≤ x ∧ x ≤ n
theorem Bd.mono {m n x : Int} (h : Bd m x) (k : m ≤ n) : Bd n x := ⟨by have := h.1; omega, by have := h.2; omega⟩
theorem Bd.mul {m n x y : Int} (h : Bd m x) (k : Bd n y) : Bd (m * n) (x * y) := by
  have h0 : x.natAbs ≤ m.natAbs := by have := h.1; have := h.2; omega
  have k0 : y.natAbs ≤ n.natAbs := by have := k.1; have := k.2; omega
  have hm : 0 ≤ m := by have := h.1; have := h.2; omega
  have hn : 0 ≤ n := by have := k.1; have := k.2; omega
  have e : (x * y).natAbs ≤ (m * n).natAbs := by rw [Int.natAbs_mul, Int.natAbs_mul]; exact Nat.mul_le_mul h0 k0
  have p : 0 ≤ m * n := Int.mul_nonneg hm hn
  constructor <;> omega
theorem Bd.add {m n x y : Int} (h : Bd m x) (k : Bd n y) : Bd (m + n) (x + y) := ⟨by have := h.1; have := k.1; omega, by have := h.2; have := k.2; omega⟩
theorem Bd.lo {n x : Int} (h : Bd n x) (k : n < 2 ^ 64) : -(2 ^ 64) < x ∧ x < 2 ^ 64 := ⟨by have := h.1; omega, by have := h.2; omega⟩
def BP (n : Int) (p : P) : Prop := Bd n p.1 ∧ Bd n p.2
def BT (n : Int) (t : T) : Prop := BP n t.1 ∧ BP n t.2
theorem led_bd {m n : Int} {t : T} {p : P} (h : BT m t) (k : BP n p) : BP (2 * (m * n)) (led t p) := by
  have e : 2 * (m * n) = m * n + m * n := by omega
  rw [e]
  exact ⟨(h.1.1.mul k.1).add (h.1.2.mul k.2), (h.2.1.mul k.1).add (h.2.2.mul k.2)⟩
theorem Un.bd {d : Int} (h : Un d) : Bd 1 d := by rcases h with h | h <;> subst h <;> constructor <;> decide
end RR
set_option Elab.async false
set_option linter.all false
set_option maxRecDepth 100000
set_option maxHeartbeats 4000000
/-! What runs while ONE KNOWN exception p is handled: a def that gets p itself, isinstance of p, a list comprehension over a range. -/
namespace HP
open PySem PySem.Spec PyProof.Rows L2 L2H
abbrev St := L2.St

/-! ### isinstance of the handled exception, in any context that pins it -/
theorem call_isP {X : Cx} {p : Addr × Obj} {D : Addr} (hp : p ∈ X.pn) (C : ExcC X.K D) (hz : Zc (.ref D) none p.2) (hf : ∃ vs, p.2.data = .fields vs) : CallR X (.builtin "isinstance") (rIsE X.K D p.1) := by
  rintro pins s σ H _ us Q I r ⟨c, cv, b, rfl, same, kit, q⟩
  obtain ⟨u1, u2, rfl, r1, r2⟩ := vals2 r
  obtain rfl : u1 = Value.ref p.1 := r1
  obtain rfl := same _ r2
  have at_p := (I.pin p (List.mem_append_left _ hp)).1
  have inst : PySem.W.InstAt s.heap p.1 p.2 D none := by
    obtain ⟨a, cls, dict, data, slots⟩ := p
    obtain ⟨e1, e2⟩ := hz
    obtain ⟨vs, e3⟩ := hf
    cases e1
    cases e2
    cases e3
    exact ⟨at_p, rfl, rfl, trivial⟩
  refine PySem.W.kia_one (PySem.W.handS_kitx_exc C.hg C.hk C.hs C.hd C.ha C.hn C.ht C.hm) I.kIn inst kit (by intro z; cases z) fun tk => ?_
  exact ⟨V.bl b, H, I.tok tk, rfl, q⟩

/-! ### a def that is called with the exception -/
structure FnP (P : Program) (w : World) (K : PySem.W.Frag) (mg : Str → Option Value) (base : Heap) (k : Nat) (f : Addr) (fd : FuncData) (ps : List Str) (p : Addr × Obj) (sp : Sp) : Prop where
  len : ∀ vs H Q, sp vs H Q E0 → vs.length = ps.length
  run : ∀ (A : Around) (outer : List Env) (s : Shared) (H : Hp) (us : List Value) (vs : List V) (Q : VK), RoomH k A → Hot1 A p → PinOk outer H s p → Env0 P w K mg base A outer s H → BindsTo s fd ⟨us, []⟩ (ps.zip us) → Vals vs us → sp vs H Q E0 →
    codeAny (model P w) A (.call (.ref f) ⟨us, []⟩) (CR CX0 outer P w H s Q E0) s
section
variable {P : Program} {w : World} {K : PySem.W.Frag} {mg : Str → Option Value} {base : Heap}
theorem fnP_of {x qual : Str} {st : Stmt} {f : Addr} {fd : FuncData} {N ps : List Str} {k : Nat} {p : Addr × Obj} {sp : Sp} (F : Fun K x qual st f fd) (S : FnScope N ps (defScope st)) (len : ∀ vs H Q, sp vs H Q E0 → vs.length = ps.length)
    (body : ∀ (cdv : Value) (A : Around) (outer : List Env) (s : Shared) (H : Hp) (vs : List V) (Q : VK), Hot1 A p → RoomH k (A.deeper (envOfC qual (defScope st) s.heap.objs.size f cdv)) → sp vs H Q E0 →
      ∃ t, PSs (cxH CX0 P w K mg base N qual (defScope st) f cdv A outer s H E0 p) (defBody st) t ∧ t { nx := fun _ H' => Q .non H', rt := Q } (start N vs) H) :
    FnP P w K mg base (k + 1) f fd ps p sp := by
  obtain ⟨_, _, _, _, _, _, cdv, _, _, rfl, stands, code⟩ := F.ex
  refine ⟨len, fun A outer s H us vs Q room hot pin e0 binds rel h => ?_⟩
  have old : ∀ b o, base.get? b = some o → s.heap.get? b = some o := fun b o e => (e0.bs b o e).1
  have KS : K.In s.heap := e0.mod.kin.keeps old
  have kinds : ∀ y ∈ ps.zip us, (defScope st).names.lookup y.1 = some .local ∨ ((defScope st).names.lookup y.1 = some .cell ∧ ((cellsFrom (s.heap.objs.size + 1) (defScope st).names []).lookup y.1).isSome = true) := by
    rintro ⟨n, v⟩ hy
    exact (S.par n (List.of_mem_zip hy).1).imp id fun q => ⟨q, PySem.W.cellsFrom_some _ _ _ (Or.inl q)⟩
  refine codeAny_call_function room.depth (KS _ _ stands) rfl S.co S.gen rfl (PySem.W.codeRec_of KS code) (binds _ _ _ _ (wpAny_newFunctionEnv_cells S.kind kinds ?_))
  rintro _ rfl s1 x
  refine ⟨(e0.mod.nolimit.keeps old).keeps x.toInCall.keep, codeAny_func ?_⟩
  obtain ⟨t, ht, hq⟩ := body cdv A outer s H vs Q hot (room.deeper _) h
  refine wpAny_mono (ht.run [] s1 _ H _ (inv_startH S pin e0 (len _ _ _ h) rel x) hq) ?_ fun _ _ z => z
  rintro (u | _ | _ | _) s' hs
  all_goals first
    | exact (hs.elim fun _ a => a.elim fun _ b => b.2.elim)
    | (obtain ⟨v, _, H', J, rv, q⟩ := hs
       exact ⟨v, H', J.os, J.bare, J.base, J.hok, rv, q⟩)
    | (obtain ⟨_, H', J, q⟩ := hs
       exact ⟨V.non, H', J.os, J.bare, J.base, J.hok, rfl, q⟩)
end
def tCallP (sp : Sp) (t : TA) : TE := fun σ H Q => t σ H fun vs H1 => sp vs H1 Q E0
section
variable {X : Cx} {k : Nat} {f : Addr} {fd : FuncData} {ps : List Str} {p : Addr × Obj} {sp : Sp} {x : Str} {q pos : Pos} {e : Expr} {es : List Expr} {t : TA}
theorem pe_callP (F : FnP X.prog X.w X.K X.mg X.base k f fd ps p sp) (room : RoomH k X.A) (hot : Hot1 X.A p) (hp : p ∈ X.pn) (hg : Gl X x) (hm : X.mg x = some (.ref f)) (hk : PySem.W.keepIn X.K (.ref f) = true) (hb : Binds X.K fd ps []) (ha : PA X (e :: es) t)
    (hdb : (x == ("__debug__" : Str)) = false := by decide) (he : starEach (e :: es) X.env = (false, eval e X.env) :: starEach es X.env := by rfl) (hpl : (backTo pos (starEach es X.env)).any (·.1) = false := by rfl) :
    PE X (.Call (.Name x q) (e :: es) [] pos) (tCallP sp t) := by
  constructor
  intro pins s σ H Q I h
  refine wpAny_Call_Name_kw (ld_glob I hg hm (PySem.W.callWith_K (h₀ := X.base) I.ok.mod.kin hk (thn (ha.run pos pins s σ H _ I h) ?_) he hpl) hdb)
  rintro us s1 ⟨vs, H1, I1, r, q1⟩
  have P1 := I1.pin p (List.mem_append_left _ hp)
  have pin : PinOk X.stack H1 s1 p := ⟨P1.1, P1.2.1, fun hm => (List.mem_cons.mp (I1.stkSub _ hm)).elim P1.2.2.1 P1.2.2.2.1, P1.2.2.2.2⟩
  have b := hb s1 us I1.kIn (by rw [List.append_nil, ← r.length]; exact F.len _ _ _ q1)
  rw [List.append_nil] at b
  refine ⟨I1.kIn, wpAny_call (codeAny_mono (F.run X.A X.stack s1 H1 us vs Q room hot pin I1.env0 b r q1) ?_)⟩
  rintro (_ | (u | _ | _ | _)) s' hs
  all_goals first
    | exact I1.after hs
    | exact False.elim hs
end

/-! ### a list comprehension over a range -/
/-- a comprehension's block that goes on pinning p -/
abbrev blkP (X : Cx) (p : Addr × Obj) (s : Shared) (H : Hp) (scope : Scope) (ce : Env) (fp : List Addr) : Cx := { X.blk s H scope ce fp with pn := [p] }
section
variable {X : Cx} {p : Addr × Obj} {σ : St} {H H' : Hp} {s s' : Shared} {scope : Scope} {ce : Env} {fp : List Addr}
theorem blkP_in (I : Inv (X.blk s H scope ce fp) [] σ H' s') (e : s'.heap.get? p.1 = some p.2) (n : H' p.1 = none) (nl : p.1 ≠ ce.locals) (nf : p.1 ∉ frs X.stack) (nc : ∀ v, p.2.data ≠ .cell v) : Inv (blkP X p s H scope ce fp) [] σ H' s' := by
  obtain ⟨a1, a2, a3, a4, a5, a6, a7, a8, a9, a10, a11, a12, a13, a14, a15, a16, a17, a18⟩ := I.ok
  refine ⟨⟨a1, a2, a3, a4, a5, a6, a7, a8, a9, a10, a11, a12, a13, a14, a15, a16, a17, a18⟩, I.os, I.bare, I.base, I.loc, I.cell, I.free, I.freeC, fun q hq => ?_, I.hok, I.len⟩
  have : q = p := by simpa using hq
  subst this
  exact ⟨e, n, nl, nf, nc⟩
end
section
variable {X : Cx} {p : Addr × Obj} {elt tg iter : Expr} {ifs : List Expr} {scope : Scope} {own : List (Str × Nat)} {pos : Pos} {wi : TI} {g : TG} {tt : TT} {te : TE}
theorem pe_lcP (hot : Hot1 X.A p) (hp : p ∈ X.pn) (hN : X.N.Nodup) (hi : PIH X tg iter wi) (ok : BlkOk X.N X.env.scope scope own)
    (hg : ∀ (s : Shared) (H : Hp) (C : Addr) (cl : List (Str × Addr)) (fp : List Addr), PG (blkP X p s H scope (compEnvC scope cl C X.env) fp) tg g)
    (ht : ∀ (s : Shared) (H : Hp) (C : Addr) (cl : List (Str × Addr)) (fp : List Addr), PTs (blkP X p s H scope (compEnvC scope cl C X.env) fp) ifs tt)
    (he : ∀ (s : Shared) (H : Hp) (C : Addr) (cl : List (Str × Addr)) (fp : List Addr), PE (blkP X p s H scope (compEnvC scope cl C X.env) fp) elt te)
    (hs : ∀ x, foldedSetIterable iter X.env x = pure x := by intro _; rfl) :
    PE X (.ListComp elt [⟨tg, iter, ifs, 0⟩] scope pos) (tLc wi g tt te (own.map (·.2))) := by
  constructor
  intro pins s σ H Q I h
  rw [eval_ListComp]
  have caught : ∀ y ∈ scope.names, y.2 = .free → ∃ c, X.env.cells.lookup y.1 = some c := fun y hy e => I.ok.has _ (ok.free y hy e)
  refine wpAny_comprehension_free (use := none) rfl hs (closure_ok caught) ok.kind (fun y hy e => (ok.uniq y hy).trans (congrArg some e)) (thn (hi.run pins s σ H _ I h) ?_)
  intro xv s1 hx
  refine thn hx ?_
  rintro _ s2 ⟨it, fp, tn, J, H2, rfl, I2, T, st2, f2, q⟩
  refine wpAny_newObj_type (newEnv_comp ?_) (Nat.zero_le _)
  -- the new list stands at D
  generalize eD : s2.heap.objs.size = D
  obtain ⟨W, ⟨m0, w0⟩, turn⟩ := q D (I2.hok.fresh (Nat.le_of_eq eD))
  generalize e3 : ({ s2 with heap := s2.heap.push { cls := .type "list", data := .seq ([] : List Value).toArray } } : Shared) = s3
  have h3 : s3.heap = s2.heap.push { cls := .type "list", data := .seq ([] : List Value).toArray } := e3 ▸ rfl
  have k3 : ∀ b o, s2.heap.get? b = some o → s3.heap.get? b = some o := fun b o e => h3 ▸ Heap.get?_push_of_some _ e
  have I3 : Inv X pins σ (upd H2 D (.lst [])) s3 := by
    subst e3
    refine I2.laid (t' := s2.toks) (fun b o e => Heap.get?_push_of_some _ e) (Nat.le_of_eq eD) ⟨Nat.zero_le _, [], 0, .nil, ?_⟩
    subst eD
    exact Heap.get?_push_size _ rfl
  have f3 : ∀ b ∈ fp, FpOk X pins (upd H2 D (.lst [])) b ∧ b < s3.heap.objs.size := by
    intro b hb
    obtain ⟨o, e, _⟩ := T.obj _ _ st2 b hb
    have lt := Heap.lt_size e
    refine ⟨⟨(upd_ne (Nat.ne_of_lt (eD ▸ lt))).trans (f2 b hb).1, (f2 b hb).2⟩, ?_⟩
    rw [h3, Heap.size_push]
    exact Nat.lt_succ_of_lt lt
  have B4 := block_start I3 ok hN f3
  generalize ecl : cellsFrom (s3.heap.objs.size + 1) scope.names (cloFrom X.env.cells scope.names []) = cl at B4
  have pg := hg s3 (upd H2 D (.lst [])) s3.heap.objs.size cl fp
  have pt := ht s3 (upd H2 D (.lst [])) s3.heap.objs.size cl fp
  have pe := he s3 (upd H2 D (.lst [])) s3.heap.objs.size cl fp
  show codeAny _ _ (.compStart (.ListComp elt [⟨tg, iter, ifs, 0⟩] scope pos) 0 (.ref it) (.ref D) (compEnvC scope cl s3.heap.objs.size X.env)) (compPost (model X.prog X.w) X.A X.xe none (EP X pins σ Q) (.ref D) s3.heap.objs.size) { s3 with heap := pushCells (s3.heap.push { cls := .type "dict", data := .dict #[] }) scope.names }
  generalize ece : compEnvC scope cl s3.heap.objs.size X.env = ce at B4 pg pt pe ⊢
  have cL : ce.locals = s3.heap.objs.size := ece ▸ rfl
  generalize eH : upd H2 D (.lst []) = H3 at I3 B4 pg pt pe w0 f3
  have k4 : ∀ b o, s3.heap.get? b = some o → (pushCells (s3.heap.push { cls := .type "dict", data := .dict #[] }) scope.names).get? b = some o := fun b o e => pushCells_keeps _ _ _ _ (Heap.get?_push_of_some _ e)
  generalize e4 : ({ s3 with heap := pushCells (s3.heap.push { cls := .type "dict", data := .dict #[] }) scope.names } : Shared) = s4 at B4 ⊢
  have k4' : ∀ b o, s3.heap.get? b = some o → s4.heap.get? b = some o := fun b o e => e4 ▸ k4 b o e
  have st4 : tn 0 s4.heap := T.keep _ _ _ st2 fun b _ o e => k4' b o (k3 b o e)
  -- p goes on being pinned
  have pI := I3.pin p (List.mem_append_left _ hp)
  have I4 : Inv (blkP X p s3 H3 scope ce fp) [] (wipe σ (own.map (·.2))) H3 s4 :=
    blkP_in B4 (k4' _ _ pI.1) pI.2.1 (fun z => Nat.lt_irrefl _ (by have lt := Heap.lt_size pI.1; rw [z, cL] at lt; exact lt)) (fun hm => (List.mem_cons.mp (I3.stkSub _ hm)).elim pI.2.2.1 pI.2.2.2.1) pI.2.2.2.2
  have hotB : HotC (blkP X p s3 H3 scope ce fp) := ⟨p, hot, List.mem_singleton.mpr rfl⟩
  have stat : ∀ {τ : St} {H' : Hp} {s' : Shared}, Inv (blkP X p s3 H3 scope ce fp) [] τ H' s' → (∀ b ∈ fp, H' b = none) → ∀ b ∈ fp, FpOk (blkP X p s3 H3 scope ce fp) [] H' b := by
    intro τ H' s' J none_ b hb
    refine ⟨none_ b hb, (J.ok.exf b hb).1, J.ok.exfs b hb, Or.inl hb, fun x c e => (J.ok.exf b hb).2 x c e, fun q hq => ?_⟩
    have : q = p := by simpa using hq
    subst this
    exact (f3 b hb).1.2.2.2.2.2 q (List.mem_append_left _ hp)
  have loop : codeAny (model X.prog X.w) X.A (.compLoop (.ListComp elt [⟨tg, iter, ifs, 0⟩] scope pos) 0 (.ref it) (.ref D) ce) (compPost (model X.prog X.w) X.A X.xe none (EP X pins σ Q) (.ref D) s3.heap.objs.size) s4 := by
    refine compLoop_any (fun n s' => ∃ i H', Inv (blkP X p s3 H3 scope ce fp) [] (wipe σ (own.map (·.2))) H' s' ∧ tn i s'.heap ∧ (∀ b ∈ fp, H' b = none) ∧ W i n H') ?_ m0 ⟨0, H3, I4, st4, fun b hb => (f3 b hb).1.1, w0⟩
    rintro n s5 ⟨i, H5, I5, st5, n5, w5⟩
    rcases turn i n H5 w5 with ⟨stop, qq⟩ | ⟨go, Nx, hNx, step⟩
    · refine thnF (T.done (blkP X p s3 H3 scope ce fp) rfl rfl rfl hotB i [] s5 _ H5 (fun _ _ => False) I5 (stat I5 n5) st5 stop) ?_
      rintro _ s6 ⟨rfl, I6⟩
      obtain ⟨m, ns, _⟩ := I6.loc
      have fr := I6.free
      replace ns : s6.heap.Ns ce.locals m := ns
      replace fr : H5 ce.locals = none := fr
      rw [cL] at ns fr
      have I7 : Inv X pins σ H5 s6 := I3.call' (ch := fp) I6.os I6.base I6.hok I6.bare fun b hb => ⟨(f3 b hb).1.2.2.2.1, (f3 b hb).1.2.1, (f3 b hb).1.2.2.2.2.1, (f3 b hb).1.2.2.2.2.2⟩
      obtain ⟨z0, z1, z2, z3, z4, z5⟩ : FpOk X pins H5 s3.heap.objs.size := I3.fpOk (Nat.le_refl _) fr
      exact ⟨m, ns, fun h'' sb => ⟨.ref D, H5, I7.turned (t' := s6.toks) (fun b o hb e => (sb.2 b hb).trans e) z0 z1 z3 z4 z5, rfl, qq⟩⟩
    · refine thnF (T.item (blkP X p s3 H3 scope ce fp) rfl rfl rfl hotB i [] s5 _ H5 (fun _ _ => False) I5 (stat I5 n5) st5 go) ?_
      rintro _ s6 ⟨u, rfl, h6⟩
      refine thnF h6 ?_
      rintro _ s7 ⟨x, H7, I7, r7, y7, st7, n7⟩
      refine thnF (pg.run _ s7 _ H7 x u _ (I7.pinned (stat I7 n7) (T.obj _ _ st7)) r7 (step x H7 y7)) ?_
      rintro _ s8 ⟨τ, H8, I8, same, q8⟩
      refine thnF (pt.run _ s8 τ H8 _ I8 q8) ?_
      rintro b s9 ⟨H9, I9, q9⟩
      -- the iterator's objects stand as they stood, the slots too but the block's own
      have fin : ∀ {s' : Shared} {H' : Hp}, Inv (blkP X p s3 H3 scope ce fp) ([] ++ pinsAt fp s7.heap) τ H' s' → Nx H' → ∃ m, m < n ∧ ∃ i H', Inv (blkP X p s3 H3 scope ce fp) [] (wipe σ (own.map (·.2))) H' s' ∧ tn i s'.heap ∧ (∀ b ∈ fp, H' b = none) ∧ W i m H' := by
        intro s' H' I' nx
        obtain ⟨m', lt, w'⟩ := hNx H' nx
        have kept : ∀ b ∈ fp, ∀ o, s7.heap.get? b = some o → s'.heap.get? b = some o ∧ H' b = none := fun b hb o e =>
          have z := I'.pin (b, o) (List.mem_append_right _ (List.mem_append_right _ (mem_pinsAt hb e)))
          ⟨z.1, z.2.1⟩
        refine ⟨m', lt, i + 1, H', (I'.unpinned (pins := [])).weak ?_ (fun j v e => ?_), T.keep _ _ _ st7 fun b hb o e => (kept b hb o e).1, fun b hb => ?_, w'⟩
        · rw [← same, wipe_length]
        · rw [← same] at e
          exact (wipe_some e).1
        · obtain ⟨o, e, _⟩ := T.obj _ _ st7 b hb
          exact (kept b hb o e).2
      cases b
      · exact fin I9 q9
      · refine thnF (pe.run _ s9 τ H9 _ I9 q9) ?_
        rintro z s10 ⟨yv, H10, I10, r10, acc, hD, lt, nx⟩
        exact app_ok (X := blkP X p s3 H3 scope ce fp) I10 hD lt r10 fun s11 I11 => fin I11 nx
  exact codeAny_compStart_list loop (T.self X.A 0 _ _ _ st4 loop)
end
end HP
set_option Elab.async false
set_option linter.all false
set_option maxRecDepth 100000
set_option maxHeartbeats 4000000
namespace RR
open PySem PySem.Spec PyProof.Rows L2 HP
/-! ### the text by places -/
def top (i : Nat) : Stmt := PySem.Challenge.pw_rayround_k05_whole_leading.main.body.getD i (.Pass ⟨0, 0, 0, 0⟩)
abbrev sCrossed : Stmt := top 18
abbrev sSpans : Stmt := top 19
abbrev sTurned : Stmt := top 20
abbrev sBack : Stmt := top 21
abbrev sThen : Stmt := top 22
abbrev sLeading : Stmt := top 23
abbrev sBag : Stmt := top 25
abbrev sDigit : Stmt := top 26
abbrev sLed : Stmt := top 27
abbrev sBoth : Stmt := top 28
abbrev sTurning : Stmt := top 29
abbrev sClasses : Stmt := top 30
abbrev sTwo : Stmt := top 31
abbrev sCross : Stmt := top 32
abbrev sFlat : Stmt := top 33
abbrev sRefused : Stmt := top 34
abbrev sLeads : Stmt := top 35
abbrev sLaw : Stmt := top 36

/-! ### what stands where -/
def PairAt (H : Hp) (a : Addr) (p : P) : Prop := H a = some (.tup [.int p.1, .int p.2])
def TurnAt (H : Hp) (a : Addr) (t : T) : Prop := ∃ b c, H a = some (.tup [.ref b, .ref c]) ∧ PairAt H b t.1 ∧ PairAt H c t.2
def TwoAt (H : Hp) (a : Addr) (o r : P) : Prop := ∃ b c, H a = some (.lst [.ref b, .ref c]) ∧ PairAt H b o ∧ PairAt H c r
def BagAt (H : Hp) (a : Addr) : Prop := ∃ m n : Int, H a = some (.lst [.int m, .int n]) ∧ 0 ≤ n ∧ n < 2147483648
/-- all but what stands at l is as it was -/
def But (l : Addr) (H H' : Hp) : Prop := ∀ b o, b ≠ l → H b = some o → H' b = some o
theorem pair_on {H H' : Hp} (s : Same H H') {a : Addr} {p : P} (h : PairAt H a p) : PairAt H' a p := s _ _ h
theorem turn_on {H H' : Hp} (s : Same H H') {a : Addr} {t : T} (h : TurnAt H a t) : TurnAt H' a t :=
  let ⟨b, c, x, y, z⟩ := h
  ⟨b, c, s _ _ x, s _ _ y, s _ _ z⟩
theorem two_on {H H' : Hp} (s : Same H H') {a : Addr} {o r : P} (h : TwoAt H a o r) : TwoAt H' a o r :=
  let ⟨b, c, x, y, z⟩ := h
  ⟨b, c, s _ _ x, s _ _ y, s _ _ z⟩
theorem bag_on {H H' : Hp} (s : Same H H') {a : Addr} (h : BagAt H a) : BagAt H' a :=
  let ⟨m, n, x, y, z⟩ := h
  ⟨m, n, s _ _ x, y, z⟩
theorem same_new {H : Hp} {p : Addr} {o : HO} (n : H p = none) : Same H (upd H p o) := fun b u e => by
  rw [upd_ne (ne_of_none e n)]
  exact e
theorem But.of {l : Addr} {H H' : Hp} (s : Same H H') : But l H H' := fun b o _ e => s b o e
theorem But.trans {l : Addr} {H H1 H2 : Hp} (a : But l H H1) (b : But l H1 H2) : But l H H2 := fun c o n e => b c o n (a c o n e)
theorem not_bag {H : Hp} {l a : Addr} {xs : List V} (h : BagAt H l) (e : H a = some (.tup xs)) : a ≠ l := fun z => by
  obtain ⟨m, n, x, _⟩ := h
  rw [z, x] at e
  cases e
theorem But.pair {l a : Addr} {H H' : Hp} {p : P} (k : But l H H') (b : BagAt H l) (h : PairAt H a p) : PairAt H' a p := k _ _ (not_bag b h) h
theorem But.turn {l a : Addr} {H H' : Hp} {t : T} (k : But l H H') (b : BagAt H l) (h : TurnAt H a t) : TurnAt H' a t :=
  let ⟨c, d, x, y, z⟩ := h
  ⟨c, d, k _ _ (not_bag b x) x, k.pair b y, k.pair b z⟩
theorem But.two {l a : Addr} {H H' : Hp} {o r : P} (k : But l H H') (b : BagAt H l) (n : a ≠ l) (h : TwoAt H a o r) : TwoAt H' a o r :=
  let ⟨c, d, x, y, z⟩ := h
  ⟨c, d, k _ _ n x, k.pair b y, k.pair b z⟩
/-- changes at a new place alone -/
theorem But.same {l : Addr} {H H1 H2 : Hp} (s : Same H H1) (n : H l = none) (k : But l H1 H2) : Same H H2 := fun b o e => k b o (ne_of_none e n) (s b o e)
theorem upd_but {l : Addr} {H : Hp} {o : HO} : But l H (upd H l o) := fun b u n e => (upd_ne n).trans e
theorem free_of {H H' : Hp} (s : Same H H') {l : Addr} (h : H' l = none) : H l = none := Same.free s h

/-! ### displays of pairs and turnings -/
theorem rd_next {D : Ends} {σ : L2.St} {H : Hp} (h : D.nx σ H) : tNext D σ H := h
theorem rd_seq {t u : TS} {D : Ends} {σ : L2.St} {H : Hp} (h : t { D with nx := u D } σ H) : tSeq t u D σ H := h
theorem rd_ret {te : TE} {D : Ends} {σ : L2.St} {H : Hp} (h : te σ H D.rt) : tRet te D σ H := h
theorem rd_set {te : TE} {i : Nat} {D : Ends} {σ : L2.St} {H : Hp} (h : te σ H fun x H1 => D.nx (σ.set i (some x)) H1) : tAsg te (gName i) D σ H := h
theorem line2 : 2 ≤ sizeLine := by decide
/-- a display of two ints -/
theorem rd_pair {σ : L2.St} {H : Hp} {Q : VK} {ta tb : TE} (x y : Int) (ha : ∀ R : VK, R (V.int x) H → ta σ H R) (hb : ∀ R : VK, R (V.int y) H → tb σ H R) (q : ∀ H' p, Same H H' → H p = none → PairAt H' p (x, y) → Q (.ref p) H') :
    tTup (tCons ta (tCons tb tNil)) σ H Q :=
  ha _ (hb _ ⟨line2, fun p n => q _ p (same_new n) n upd_same⟩)
/-- a display of two such -/
theorem rd_turn {σ : L2.St} {H : Hp} {Q : VK} {ta tb tc td : TE} (a b c d : Int) (ha : ∀ (H' : Hp) (R : VK), Same H H' → R (V.int a) H' → ta σ H' R) (hb : ∀ (H' : Hp) (R : VK), Same H H' → R (V.int b) H' → tb σ H' R)
    (hc : ∀ (H' : Hp) (R : VK), Same H H' → R (V.int c) H' → tc σ H' R) (hd : ∀ (H' : Hp) (R : VK), Same H H' → R (V.int d) H' → td σ H' R)
    (q : ∀ H' p, Same H H' → H p = none → TurnAt H' p ((a, b), (c, d)) → Q (.ref p) H') :
    tTup (tCons (tTup (tCons ta (tCons tb tNil))) (tCons (tTup (tCons tc (tCons td tNil))) tNil)) σ H Q := by
  show tTup (tCons ta (tCons tb tNil)) σ H (fun v H1 => tTup (tCons tc (tCons td tNil)) σ H1 fun v2 H2 => ([v, v2] : List V).length ≤ sizeLine ∧ ∀ p, H2 p = none → Q (.ref p) (upd H2 p (.tup [v, v2])))
  refine rd_pair a b (fun R h => ha _ R (Same.refl H) h) (fun R h => hb _ R (Same.refl H) h) fun H1 p s1 n1 h1 => ?_
  refine rd_pair c d (fun R h => hc _ R s1 h) (fun R h => hd _ R s1 h) fun H2 r s2 n2 h2 => ?_
  refine ⟨line2, fun f n3 => ?_⟩
  have s3 : Same H2 (upd H2 f (.tup [V.ref p, V.ref r])) := same_new n3
  exact q _ f (s1.trans (s2.trans s3)) (free_of (s1.trans s2) n3) ⟨p, r, upd_same, pair_on (s2.trans s3) h1, pair_on s3 h2⟩
theorem at0 {v : V} {xs : List V} : atI (v :: xs) 0 = some v := atI_nat (xs := v :: xs) (j := 0) rfl
theorem at1 {u v : V} {xs : List V} : atI (u :: v :: xs) 1 = some v := atI_nat (xs := u :: v :: xs) (j := 1) rfl
def unB (d : Int) : Bool := decide (d = 1) || decide (d = -1)
theorem unB_iff {d : Int} : unB d = true ↔ Un d := by unfold unB Un; simp
theorem inV_un (d : Int) : inV (.int d) [.int 1, .int (-1)] = unB d := by
  have e : ∀ x : Int, eqV (.int x) (.int d) = decide (d = x) := fun x => by
    show decide _ = decide _
    exact decide_eq_decide.mpr ⟨fun h => h.symm, fun h => h.symm⟩
  show (eqV (.int 1) (.int d) || (eqV (.int (-1)) (.int d) || false)) = unB d
  rw [e, e, Bool.or_false]
  rfl
/-- .. in (1, -1): the pair is laid, looked through -/
theorem rd_in {K : PySem.W.Frag} {σ : L2.St} {H : Hp} {Q : VK} {d : Int} (neg : Bool) (q : ∀ H', Same H H' → Q (.bl (if neg then !unB d else unB d)) H') :
    tTup (tCons (tC (.int 1)) (tCons (tUn (rU fun i => .int (-i)) (tC (.int 1))) tNil)) σ H fun y H2 => rIn K neg (.int d) y H2 Q := by
  refine rd_pair 1 (-1) (fun _ h => h) (fun _ h => ⟨_, rfl, h⟩) fun H' p s n h => ?_
  refine ⟨p, _, rfl, Or.inr (SqT.of h), rfl, rfl, ?_⟩
  rw [inV_un]
  exact q H' s

/-! ### the promises -/
abbrev big : Int := 1000000000
theorem BP.small {p : P} (h : BP big p) : (-(2 ^ 64) < p.1 ∧ p.1 < 2 ^ 64) ∧ (-(2 ^ 64) < p.2 ∧ p.2 < 2 ^ 64) := ⟨h.1.lo (by decide), h.2.lo (by decide)⟩
def spCrossed : Sp := fun vs H Q _ => ∃ (a b : Addr) (p q : P), vs = [.ref a, .ref b] ∧ PairAt H a p ∧ PairAt H b q ∧ BP big p ∧ Q (.int (cr p q)) H
def spSpans : Sp := fun vs H Q _ => ∃ (a b : Addr) (p q : P), vs = [.ref a, .ref b] ∧ PairAt H a p ∧ PairAt H b q ∧ BP big p ∧ ∀ H', Same H H' → Q (.bl (unB (cr p q))) H'
def spTurned : Sp := fun vs H Q _ => ∃ (a b : Addr) (t : T) (p : P), vs = [.ref a, .ref b] ∧ TurnAt H a t ∧ PairAt H b p ∧ BT big t ∧ ∀ H' c, Same H H' → H c = none → PairAt H' c (led t p) → Q (.ref c) H'
def spBack : Sp := fun vs H Q _ => ∃ (a : Addr) (t : T), vs = [.ref a] ∧ TurnAt H a t ∧ BT big t ∧ Un (cr t.1 t.2) ∧ ∀ H' c, Same H H' → H c = none → TurnAt H' c (bck t) → Q (.ref c) H'
def spThen : Sp := fun vs H Q _ => ∃ (a b : Addr) (t u : T), vs = [.ref a, .ref b] ∧ TurnAt H a t ∧ TurnAt H b u ∧ BT big t ∧ BT big u ∧ ∀ H' c, Same H H' → H c = none → TurnAt H' c (thn t u) → Q (.ref c) H'
def spLeading (CT : Addr) : Sp := fun vs H Q E => ∃ (a b c d : Addr) (o r ot rt : P), vs = [.ref a, .ref b, .ref c, .ref d] ∧ PairAt H a o ∧ PairAt H b r ∧ PairAt H c ot ∧ PairAt H d rt ∧ BP big o ∧ BP big r ∧ BP big ot ∧ BP big rt ∧
  (Un (cr o r) → Un (cr ot rt) → ∀ H' f, Same H H' → H f = none → TurnAt H' f (lead o r ot rt) → Q (.ref f) H') ∧
  (¬ (Un (cr o r) ∧ Un (cr ot rt)) → ∀ H', Same H H' → E (.ref CT) none H')
def spBag (K : PySem.W.Frag) : Sp := fun vs H Q _ => ∃ (a : Addr) (ns : List Int) (k : Int), vs = [.ref a, .int k] ∧ SqL K H a (ns.map V.int) ∧ 0 ≤ k ∧ k < 64 ∧ ∀ H' c, Same H H' → H c = none → BagAt H' c → Q (.ref c) H'
def spDigit : Sp := fun vs H Q _ => ∃ (a : Addr) (n : Int), vs = [.ref a, .int n] ∧ BagAt H a ∧ 0 < n ∧ n ≤ 1000000 ∧ ∀ H' d, But a H H' → BagAt H' a → 0 ≤ d → d < n → Q (.int d) H'
def spBoth : Sp := fun vs H Q _ => ∃ (a b : Addr) (t u : T), vs = [.ref a, .ref b] ∧ TurnAt H a t ∧ TurnAt H b u ∧ BT big u ∧ ∀ H' c, Same H H' → H c = none → TurnAt H' c (both t u) → Q (.ref c) H'
def spTurning : Sp := fun vs H Q _ => ∃ (a : Addr), vs = [.ref a] ∧ BagAt H a ∧ ∀ H' c t, But a H H' → H c = none → BagAt H' a → TurnAt H' c t → Un (cr t.1 t.2) → BT 216 t → Q (.ref c) H'
def spTwo : Sp := fun vs H Q _ => ∃ (a : Addr), vs = [.ref a] ∧ BagAt H a ∧ ∀ H' c o r, But a H H' → H c = none → BagAt H' a → TwoAt H' c o r → Un (cr o r) → BP 432 o → BP 432 r → Q (.ref c) H'
def spFlat : Sp := fun vs H Q _ => ∃ (a : Addr), vs = [.ref a] ∧ BagAt H a ∧ ∀ H' c o r, But a H H' → H c = none → BagAt H' a → TwoAt H' c o r → ¬ Un (cr o r) → BP 2000000 o → BP 2000000 r → Q (.ref c) H'
def spClasses (a : Addr) : Sp := fun vs H Q _ => vs = [.ref a] ∧ ∀ H' c, Same H H' → H' c = some (.lst [.int 1]) → Q (.ref c) H'
def spRefused : Sp := fun vs H Q _ => ∃ (a b : Addr) (o r ot rt : P), vs = [.ref a, .ref b] ∧ TwoAt H a o r ∧ TwoAt H b ot rt ∧ BP big o ∧ BP big r ∧ BP big ot ∧ BP big rt ∧ ¬ (Un (cr o r) ∧ Un (cr ot rt)) ∧ ∀ H', Same H H' → Q (.bl true) H'
def spLeads : Sp := fun vs H Q _ => ∃ (f a b : Addr) (t : T) (o r ot rt : P), vs = [.ref f, .ref a, .ref b] ∧ TurnAt H f t ∧ TwoAt H a o r ∧ TwoAt H b ot rt ∧ BT big t ∧ Un (cr t.1 t.2) ∧ led t o = ot ∧ led t r = rt ∧ ∀ H', Same H H' → Q (.bl true) H'
def spLaw (K : PySem.W.Frag) : Sp := fun vs H Q _ => ∃ (a : Addr) (ns : List Int), vs = [.ref a] ∧ SqL K H a (ns.map V.int) ∧ ∀ H', Q (.bl true) H'
/-- what the top has written: where each def stands, that the built-in names are the built-in ones -/
structure Txt (K : PySem.W.Frag) (mg : Str → Option Value) : Prop where
  len : mg "len" = none
  abs : mg "abs" = none
  int : mg "int" = none
  range : mg "range" = none
  max : mg "max" = none
  min : mg "min" = none
  isi : mg "isinstance" = none
  tup : mg "tuple" = none
  ve : mg "ValueError" = none
/-- a def as its callers see it -/
structure Def (K : PySem.W.Frag) (mg : Str → Option Value) (x : Str) (st : Stmt) (ps : List Str) (f : Addr) (fd : FuncData) : Prop where
  F : Fun K x x st f fd
  g : mg x = some (.ref f)
  b : Binds K fd ps []
section
variable {P : Program} {w : World} {K : PySem.W.Frag} {mg : Str → Option Value} {base : Heap}
/-! ### crossed, _law_cross -/
theorem scCrossed : FnScope ["one", "other"] ["one", "other"] (defScope sCrossed) := ⟨rfl, rfl, rfl, by decide +kernel, rfl, by decide +kernel, by decide +kernel⟩
theorem ok_crossed {f : Addr} {fd : FuncData} (D : Def K mg "crossed" sCrossed ["one", "other"] f fd) : FnOk P w K mg base CX0 1 f fd ["one", "other"] spCrossed := by
  refine D.F.ok scCrossed (fun vs H Q E h => ?_) (fun cdv A outer s H vs Q E hr h => ?_)
  · obtain ⟨a, b, p, q, rfl, _⟩ := h
    rfl
  · obtain ⟨a, b, p, q, rfl, ha, hb, s, k⟩ := h
    obtain ⟨s1, s2⟩ := s.small
    refine ⟨_, pss_one (ps_ret (pe_op op_sub (pe_op op_mul (pe_ix ix_tup (pv 0) pe_int (fun _ _ => rfl)) (pe_ix ix_tup (pv 1) pe_int (fun _ _ => rfl)))
      (pe_op op_mul (pe_ix ix_tup (pv 0) pe_int (fun _ _ => rfl)) (pe_ix ix_tup (pv 1) pe_int (fun _ _ => rfl))))), ?_⟩
    refine ⟨_, rfl, a, _, _, _, rfl, rfl, SqT.of ha, at0, _, rfl, b, _, _, _, rfl, rfl, SqT.of hb, at1, _, _, rfl, rfl, .inl s1, ?_⟩
    refine ⟨_, rfl, a, _, _, _, rfl, rfl, SqT.of ha, at1, _, rfl, b, _, _, _, rfl, rfl, SqT.of hb, at0, _, _, rfl, rfl, .inl s2, ?_⟩
    exact ⟨_, _, rfl, rfl, k⟩
theorem scCross : FnScope ["_law_one", "_law_other"] ["_law_one", "_law_other"] (defScope sCross) := ⟨rfl, rfl, rfl, by decide +kernel, rfl, by decide +kernel, by decide +kernel⟩
theorem ok_cross {f : Addr} {fd : FuncData} (D : Def K mg "_law_cross" sCross ["_law_one", "_law_other"] f fd) : FnOk P w K mg base CX0 1 f fd ["_law_one", "_law_other"] spCrossed := by
  refine D.F.ok scCross (fun vs H Q E h => ?_) (fun cdv A outer s H vs Q E hr h => ?_)
  · obtain ⟨a, b, p, q, rfl, _⟩ := h
    rfl
  · obtain ⟨a, b, p, q, rfl, ha, hb, s, k⟩ := h
    obtain ⟨s1, s2⟩ := s.small
    refine ⟨_, pss_one (ps_ret (pe_op op_sub (pe_op op_mul (pe_ix ix_tup (pv 0) pe_int (fun _ _ => rfl)) (pe_ix ix_tup (pv 1) pe_int (fun _ _ => rfl)))
      (pe_op op_mul (pe_ix ix_tup (pv 0) pe_int (fun _ _ => rfl)) (pe_ix ix_tup (pv 1) pe_int (fun _ _ => rfl))))), ?_⟩
    refine ⟨_, rfl, a, _, _, _, rfl, rfl, SqT.of ha, at0, _, rfl, b, _, _, _, rfl, rfl, SqT.of hb, at1, _, _, rfl, rfl, .inl s1, ?_⟩
    refine ⟨_, rfl, a, _, _, _, rfl, rfl, SqT.of ha, at1, _, rfl, b, _, _, _, rfl, rfl, SqT.of hb, at0, _, _, rfl, rfl, .inl s2, ?_⟩
    exact ⟨_, _, rfl, rfl, k⟩
/-! ### spans -/
theorem scSpans : FnScope ["one", "other"] ["one", "other"] (defScope sSpans) := ⟨rfl, rfl, rfl, by decide +kernel, rfl, by decide +kernel, by decide +kernel⟩
theorem ok_spans {f fC : Addr} {fd fdC : FuncData} (D : Def K mg "spans" sSpans ["one", "other"] f fd) (C : Def K mg "crossed" sCrossed ["one", "other"] fC fdC) : FnOk P w K mg base CX0 2 f fd ["one", "other"] spSpans := by
  have GC : FnOk P w K mg base CX0 1 fC fdC ["one", "other"] spCrossed := ok_crossed C
  refine D.F.ok scSpans (fun vs H Q E h => ?_) (fun cdv A outer s H vs Q E hr h => ?_)
  · obtain ⟨a, b, p, q, rfl, _⟩ := h
    rfl
  · obtain ⟨a, b, p, q, rfl, ha, hb, s, k⟩ := h
    refine ⟨_, pss_one (ps_ret (pe_cmpR op_in_seq (pe_call GC hr rfl C.g C.F.kp C.b .nil pass0 (pa_cons (pv 0) (pa_cons (pv 1) pa_nil))) (pe_tup (pa_cons pe_int (pa_cons (pe_un un_neg pe_int) pa_nil))) rfl)), ?_⟩
    refine ⟨_, rfl, _, rfl, a, b, p, q, rfl, ha, hb, s, ?_⟩
    exact rd_in (K := K) false fun H' s' => k H' s'
/-! ### turned, _law_led -/
theorem scTurned : FnScope ["turning", "pair", "first", "second"] ["turning", "pair"] (defScope sTurned) := ⟨rfl, rfl, rfl, by decide +kernel, rfl, by decide +kernel, by decide +kernel⟩
theorem ok_turned {f : Addr} {fd : FuncData} (D : Def K mg "turned" sTurned ["turning", "pair"] f fd) : FnOk P w K mg base CX0 1 f fd ["turning", "pair"] spTurned := by
  refine D.F.ok scTurned (fun vs H Q E h => ?_) (fun cdv A outer s H vs Q E hr h => ?_)
  · obtain ⟨a, b, t, p, rfl, _⟩ := h
    rfl
  · obtain ⟨a, b, t, p, rfl, ⟨c, d, ht, hc, hd⟩, hb, ⟨s1, s2⟩, k⟩ := h
    obtain ⟨l1, l2⟩ := s1.small
    obtain ⟨l3, l4⟩ := s2.small
    refine ⟨_, pss_cons (ps_asg (pv 0) (pg_tup rfl (pgs_cons (pg_name (i := 2) scTurned.nd rfl (Or.inl rfl)) (pgs_cons (pg_name (i := 3) scTurned.nd rfl (Or.inl rfl)) pgs_nil))))
      (pss_one (ps_ret (pe_tup (pa_cons (pe_op op_add (pe_op op_mul (pe_ix ix_tup (pv 2) pe_int (fun _ _ => rfl)) (pe_ix ix_tup (pv 1) pe_int (fun _ _ => rfl)))
          (pe_op op_mul (pe_ix ix_tup (pv 2) pe_int (fun _ _ => rfl)) (pe_ix ix_tup (pv 1) pe_int (fun _ _ => rfl))))
        (pa_cons (pe_op op_add (pe_op op_mul (pe_ix ix_tup (pv 3) pe_int (fun _ _ => rfl)) (pe_ix ix_tup (pv 1) pe_int (fun _ _ => rfl)))
          (pe_op op_mul (pe_ix ix_tup (pv 3) pe_int (fun _ _ => rfl)) (pe_ix ix_tup (pv 1) pe_int (fun _ _ => rfl)))) pa_nil))))), ?_⟩
    refine ⟨_, rfl, a, _, rfl, SqT.of ht, rfl, _, _, rfl, _, _, rfl, rfl, ?_⟩
    dsimp only
    refine rd_ret ?_
    refine rd_pair (t.1.1 * p.1 + t.1.2 * p.2) (t.2.1 * p.1 + t.2.2 * p.2) (fun R q => ?_) (fun R q => ?_) k
    · exact ⟨_, rfl, c, _, _, _, rfl, rfl, SqT.of hc, at0, _, rfl, b, _, _, _, rfl, rfl, SqT.of hb, at0, _, _, rfl, rfl, .inl l1, _, rfl, c, _, _, _, rfl, rfl, SqT.of hc, at1, _, rfl, b, _, _, _, rfl, rfl, SqT.of hb, at1, _, _, rfl, rfl, .inl l2, _, _, rfl, rfl, q⟩
    · exact ⟨_, rfl, d, _, _, _, rfl, rfl, SqT.of hd, at0, _, rfl, b, _, _, _, rfl, rfl, SqT.of hb, at0, _, _, rfl, rfl, .inl l3, _, rfl, d, _, _, _, rfl, rfl, SqT.of hd, at1, _, rfl, b, _, _, _, rfl, rfl, SqT.of hb, at1, _, _, rfl, rfl, .inl l4, _, _, rfl, rfl, q⟩
end
end RR
set_option Elab.async false
set_option linter.all false
set_option maxRecDepth 100000
set_option maxHeartbeats 4000000
namespace RR
open PySem PySem.Spec PyProof.Rows L2 HP
section
variable {P : Program} {w : World} {K : PySem.W.Frag} {mg : Str → Option Value} {base : Heap}
/-! ### _law_led -/
theorem scLed : FnScope ["_law_turning_here", "_law_pair", "_law_first", "_law_second"] ["_law_turning_here", "_law_pair"] (defScope sLed) := ⟨rfl, rfl, rfl, by decide +kernel, rfl, by decide +kernel, by decide +kernel⟩
theorem ok_led {f : Addr} {fd : FuncData} (D : Def K mg "_law_led" sLed ["_law_turning_here", "_law_pair"] f fd) : FnOk P w K mg base CX0 1 f fd ["_law_turning_here", "_law_pair"] spTurned := by
  refine D.F.ok scLed (fun vs H Q E h => ?_) (fun cdv A outer s H vs Q E hr h => ?_)
  · obtain ⟨a, b, t, p, rfl, _⟩ := h
    rfl
  · obtain ⟨a, b, t, p, rfl, ⟨c, d, ht, hc, hd⟩, hb, ⟨s1, s2⟩, k⟩ := h
    obtain ⟨l1, l2⟩ := s1.small
    obtain ⟨l3, l4⟩ := s2.small
    refine ⟨_, pss_cons (ps_asg (pv 0) (pg_tup rfl (pgs_cons (pg_name (i := 2) scLed.nd rfl (Or.inl rfl)) (pgs_cons (pg_name (i := 3) scLed.nd rfl (Or.inl rfl)) pgs_nil))))
      (pss_one (ps_ret (pe_tup (pa_cons (pe_op op_add (pe_op op_mul (pe_ix ix_tup (pv 2) pe_int (fun _ _ => rfl)) (pe_ix ix_tup (pv 1) pe_int (fun _ _ => rfl)))
          (pe_op op_mul (pe_ix ix_tup (pv 2) pe_int (fun _ _ => rfl)) (pe_ix ix_tup (pv 1) pe_int (fun _ _ => rfl))))
        (pa_cons (pe_op op_add (pe_op op_mul (pe_ix ix_tup (pv 3) pe_int (fun _ _ => rfl)) (pe_ix ix_tup (pv 1) pe_int (fun _ _ => rfl)))
          (pe_op op_mul (pe_ix ix_tup (pv 3) pe_int (fun _ _ => rfl)) (pe_ix ix_tup (pv 1) pe_int (fun _ _ => rfl)))) pa_nil))))), ?_⟩
    refine ⟨_, rfl, a, _, rfl, SqT.of ht, rfl, _, _, rfl, _, _, rfl, rfl, ?_⟩
    dsimp only
    refine rd_ret ?_
    refine rd_pair (t.1.1 * p.1 + t.1.2 * p.2) (t.2.1 * p.1 + t.2.2 * p.2) (fun R q => ?_) (fun R q => ?_) k
    · exact ⟨_, rfl, c, _, _, _, rfl, rfl, SqT.of hc, at0, _, rfl, b, _, _, _, rfl, rfl, SqT.of hb, at0, _, _, rfl, rfl, .inl l1, _, rfl, c, _, _, _, rfl, rfl, SqT.of hc, at1, _, rfl, b, _, _, _, rfl, rfl, SqT.of hb, at1, _, _, rfl, rfl, .inl l2, _, _, rfl, rfl, q⟩
    · exact ⟨_, rfl, d, _, _, _, rfl, rfl, SqT.of hd, at0, _, rfl, b, _, _, _, rfl, rfl, SqT.of hb, at0, _, _, rfl, rfl, .inl l3, _, rfl, d, _, _, _, rfl, rfl, SqT.of hd, at1, _, rfl, b, _, _, _, rfl, rfl, SqT.of hb, at1, _, _, rfl, rfl, .inl l4, _, _, rfl, rfl, q⟩
/-! ### back -/
theorem scBack : FnScope ["turning", "first", "second", "sign"] ["turning"] (defScope sBack) := ⟨rfl, rfl, rfl, by decide +kernel, rfl, by decide +kernel, by decide +kernel⟩
theorem ok_back {f fC : Addr} {fd fdC : FuncData} (D : Def K mg "back" sBack ["turning"] f fd) (C : Def K mg "crossed" sCrossed ["one", "other"] fC fdC) : FnOk P w K mg base CX0 2 f fd ["turning"] spBack := by
  have GC : FnOk P w K mg base CX0 1 fC fdC ["one", "other"] spCrossed := ok_crossed C
  refine D.F.ok scBack (fun vs H Q E h => ?_) (fun cdv A outer s H vs Q E hr h => ?_)
  · obtain ⟨a, t, rfl, _⟩ := h
    rfl
  · obtain ⟨a, t, rfl, ⟨b, c, ht, hb, hc⟩, ⟨s1, s2⟩, un, k⟩ := h
    have l1 : -(2 ^ 64) < cr t.1 t.2 ∧ cr t.1 t.2 < 2 ^ 64 := un.bd.lo (by decide)
    have l2 : -(2 ^ 64) < -cr t.1 t.2 ∧ -cr t.1 t.2 < 2 ^ 64 := by omega
    refine ⟨_, pss_cons (ps_asg (pv 0) (pg_tup rfl (pgs_cons (pg_name (i := 1) scBack.nd rfl (Or.inl rfl)) (pgs_cons (pg_name (i := 2) scBack.nd rfl (Or.inl rfl)) pgs_nil))))
      (pss_cons (ps_set (i := 3) scBack.nd rfl (Or.inl rfl) (pe_call GC hr rfl C.g C.F.kp C.b .nil pass0 (pa_cons (pv 1) (pa_cons (pv 2) pa_nil))))
      (pss_one (ps_ret (pe_tup (pa_cons (pe_tup (pa_cons (pe_op op_mul (pv 3) (pe_ix ix_tup (pv 2) pe_int (fun _ _ => rfl))) (pa_cons (pe_op op_mul (pe_un un_neg (pv 3)) (pe_ix ix_tup (pv 1) pe_int (fun _ _ => rfl))) pa_nil)))
        (pa_cons (pe_tup (pa_cons (pe_op op_mul (pe_un un_neg (pv 3)) (pe_ix ix_tup (pv 2) pe_int (fun _ _ => rfl))) (pa_cons (pe_op op_mul (pv 3) (pe_ix ix_tup (pv 1) pe_int (fun _ _ => rfl))) pa_nil))) pa_nil)))))), ?_⟩
    refine ⟨_, rfl, a, _, rfl, SqT.of ht, rfl, _, _, rfl, _, _, rfl, rfl, ?_⟩
    refine ⟨_, rfl, _, rfl, b, c, t.1, t.2, rfl, hb, hc, s1, ?_⟩
    dsimp only
    refine rd_ret ?_
    refine rd_turn (cr t.1 t.2 * t.2.2) (-cr t.1 t.2 * t.1.2) (-cr t.1 t.2 * t.2.1) (cr t.1 t.2 * t.1.1) (fun H' R s' q => ?_) (fun H' R s' q => ?_) (fun H' R s' q => ?_) (fun H' R s' q => ?_) k
    · exact ⟨_, rfl, _, rfl, c, _, _, _, rfl, rfl, SqT.of (s' _ _ hc), at1, _, _, rfl, rfl, .inl l1, q⟩
    · exact ⟨_, rfl, _, rfl, _, rfl, b, _, _, _, rfl, rfl, SqT.of (s' _ _ hb), at1, _, _, rfl, rfl, .inl l2, q⟩
    · exact ⟨_, rfl, _, rfl, _, rfl, c, _, _, _, rfl, rfl, SqT.of (s' _ _ hc), at0, _, _, rfl, rfl, .inl l2, q⟩
    · exact ⟨_, rfl, _, rfl, b, _, _, _, rfl, rfl, SqT.of (s' _ _ hb), at0, _, _, rfl, rfl, .inl l1, q⟩
/-! ### then -/
theorem scThen : FnScope ["one", "other", "columns"] ["one", "other"] (defScope sThen) := ⟨rfl, rfl, rfl, by decide +kernel, rfl, by decide +kernel, by decide +kernel⟩
theorem ok_then {f fT : Addr} {fd fdT : FuncData} (D : Def K mg "then" sThen ["one", "other"] f fd) (C : Def K mg "turned" sTurned ["turning", "pair"] fT fdT) : FnOk P w K mg base CX0 2 f fd ["one", "other"] spThen := by
  have GC : FnOk P w K mg base CX0 1 fT fdT ["turning", "pair"] spTurned := ok_turned C
  refine D.F.ok scThen (fun vs H Q E h => ?_) (fun cdv A outer s H vs Q E hr h => ?_)
  · obtain ⟨a, b, t, u, rfl, _⟩ := h
    rfl
  · obtain ⟨a, b, t, u, rfl, ht, hu, s1, s2, k⟩ := h
    refine ⟨_, pss_cons (ps_set (i := 2) scThen.nd rfl (Or.inl rfl) (pe_lst
        (pa_cons (pe_call GC hr rfl C.g C.F.kp C.b .nil pass0 (pa_cons (pv 1) (pa_cons (pe_call GC hr rfl C.g C.F.kp C.b .nil pass0 (pa_cons (pv 0) (pa_cons (pe_tup (pa_cons pe_int (pa_cons pe_int pa_nil))) pa_nil))) pa_nil)))
        (pa_cons (pe_call GC hr rfl C.g C.F.kp C.b .nil pass0 (pa_cons (pv 1) (pa_cons (pe_call GC hr rfl C.g C.F.kp C.b .nil pass0 (pa_cons (pv 0) (pa_cons (pe_tup (pa_cons pe_int (pa_cons pe_int pa_nil))) pa_nil))) pa_nil))) pa_nil))))
      (pss_one (ps_ret (pe_tup (pa_cons (pe_tup (pa_cons (pe_ix ix_tup (pe_ix ix_list (pv 2) pe_int (fun _ _ => rfl)) pe_int (fun _ _ => rfl)) (pa_cons (pe_ix ix_tup (pe_ix ix_list (pv 2) pe_int (fun _ _ => rfl)) pe_int (fun _ _ => rfl)) pa_nil)))
        (pa_cons (pe_tup (pa_cons (pe_ix ix_tup (pe_ix ix_list (pv 2) pe_int (fun _ _ => rfl)) pe_int (fun _ _ => rfl)) (pa_cons (pe_ix ix_tup (pe_ix ix_list (pv 2) pe_int (fun _ _ => rfl)) pe_int (fun _ _ => rfl)) pa_nil))) pa_nil))))), ?_⟩
    -- the first column
    refine ⟨_, rfl, _, rfl, line2, fun p1 n1 => ?_⟩
    have m1 := same_new (o := HO.tup [V.int 1, V.int 0]) n1
    refine ⟨a, p1, t, (1, 0), rfl, turn_on m1 ht, upd_same, s1, fun H1 c1 m2 n2 g1 => ?_⟩
    refine ⟨b, c1, u, _, rfl, turn_on (m1.trans m2) hu, g1, s2, fun H2 c2 m3 n3 g2 => ?_⟩
    have M2 := m1.trans (m2.trans m3)
    -- the second column
    refine ⟨_, rfl, _, rfl, line2, fun p2 n4 => ?_⟩
    have m4 := same_new (o := HO.tup [V.int 0, V.int 1]) n4
    refine ⟨a, p2, t, (0, 1), rfl, turn_on (M2.trans m4) ht, upd_same, s1, fun H3 c3 m5 n5 g3 => ?_⟩
    refine ⟨b, c3, u, _, rfl, turn_on (M2.trans (m4.trans m5)) hu, g3, s2, fun H4 c4 m6 n6 g4 => ?_⟩
    have M4 := M2.trans (m4.trans (m5.trans m6))
    -- columns
    refine ⟨line2, fun l n7 => ?_⟩
    have m7 := same_new (o := HO.lst [V.ref c2, V.ref c4]) n7
    have hl : (upd H4 l (HO.lst [V.ref c2, V.ref c4])) l = some (HO.lst [V.ref c2, V.ref c4]) := upd_same
    have h2 := pair_on (m4.trans (m5.trans (m6.trans m7))) g2
    have h4 := pair_on m7 g4
    have M := M4.trans m7
    dsimp only
    refine rd_ret ?_
    refine rd_turn (led u (led t (1, 0))).1 (led u (led t (0, 1))).1 (led u (led t (1, 0))).2 (led u (led t (0, 1))).2 (fun H' R s' q => ?_) (fun H' R s' q => ?_) (fun H' R s' q => ?_) (fun H' R s' q => ?_) (fun H' c' s' n' h' => k H' c' (M.trans s') (free_of M n') h')
    · exact ⟨_, rfl, l, _, _, _, rfl, rfl, SqL.of (s' _ _ hl), at0, c2, _, _, _, rfl, rfl, SqT.of (s' _ _ h2), at0, q⟩
    · exact ⟨_, rfl, l, _, _, _, rfl, rfl, SqL.of (s' _ _ hl), at1, c4, _, _, _, rfl, rfl, SqT.of (s' _ _ h4), at0, q⟩
    · exact ⟨_, rfl, l, _, _, _, rfl, rfl, SqL.of (s' _ _ hl), at0, c2, _, _, _, rfl, rfl, SqT.of (s' _ _ h2), at1, q⟩
    · exact ⟨_, rfl, l, _, _, _, rfl, rfl, SqL.of (s' _ _ hl), at1, c4, _, _, _, rfl, rfl, SqT.of (s' _ _ h4), at1, q⟩
end
end RR
set_option Elab.async false
set_option linter.all false
set_option maxRecDepth 100000
set_option maxHeartbeats 4000000
namespace RR
open PySem PySem.Spec PyProof.Rows L2 HP
/-- NoTurning, at CT -/
structure TxtE (K : PySem.W.Frag) (mg : Str → Option Value) (CT : Addr) : Prop where
  gT : mg "NoTurning" = some (.ref CT)
  xT : PySem.W.excIn K CT [.type "ValueError", .type "Exception", .type "BaseException", .type "object"] "ValueError.__new__" = true
  kT : PySem.W.keepIn K (.ref CT) = true
  bT : PySem.W.subIn K (.ref CT) (.type "BaseException") = some true
  tT : PySem.W.typeIn K (.ref CT) = some (.type "type")
section
variable {P : Program} {w : World} {K : PySem.W.Frag} {mg : Str → Option Value} {base : Heap}
/-- a def that may raise; the context of what it raises is told -/
theorem okN {x qual : Str} {st : Stmt} {f : Addr} {fd : FuncData} {N ps : List Str} {k : Nat} {sp : Sp} (F : Fun K x qual st f fd) (S : FnScope N ps (defScope st)) (len : ∀ vs H Q E, sp vs H Q E → vs.length = ps.length)
    (body : ∀ (cdv : Value) (A : Around) (outer : List Env) (s : Shared) (H : Hp) (vs : List V) (Q : VK) (E : XK), Room k (A.deeper (envOfC qual (defScope st) s.heap.objs.size f cdv)) → sp vs H Q E →
      ∃ t, PSs (cxOf (L2N.CX P w) P w K mg base N qual (defScope st) f cdv A outer s H E) (defBody st) t ∧ t { nx := fun _ H' => Q .non H', rt := Q } (start N vs) H) : FnOk P w K mg base (L2N.CX P w) (k + 1) f fd ps sp := by
  obtain ⟨_, _, _, _, _, _, cdv, _, _, rfl, stands, code⟩ := F.ex
  exact fn_of stands code S len fun A outer s H vs Q E hr h => body cdv A outer s H vs Q E hr h
theorem unB_false {d : Int} (h : ¬ Un d) : unB d = false := by
  cases e : unB d
  · rfl
  · exact (h (unB_iff.mp e)).elim
/-! ### leading -/
theorem scLeading : FnScope ["one", "other", "one_to", "other_to", "here", "there"] ["one", "other", "one_to", "other_to"] (defScope sLeading) := ⟨rfl, rfl, rfl, by decide +kernel, rfl, by decide +kernel, by decide +kernel⟩
theorem ok_leading {f fC fS fT fB fH CT : Addr} {fd fdC fdS fdT fdB fdH : FuncData} (D : Def K mg "leading" sLeading ["one", "other", "one_to", "other_to"] f fd) (X : TxtE K mg CT) (C : Def K mg "crossed" sCrossed ["one", "other"] fC fdC)
    (S : Def K mg "spans" sSpans ["one", "other"] fS fdS) (T : Def K mg "turned" sTurned ["turning", "pair"] fT fdT) (B : Def K mg "back" sBack ["turning"] fB fdB) (H2 : Def K mg "then" sThen ["one", "other"] fH fdH) :
    FnOk P w K mg base (L2N.CX P w) 3 f fd ["one", "other", "one_to", "other_to"] (spLeading CT) := by
  have GS : FnOk P w K mg base CX0 2 fS fdS ["one", "other"] spSpans := ok_spans S C
  have GB : FnOk P w K mg base CX0 2 fB fdB ["turning"] spBack := ok_back B C
  have GH : FnOk P w K mg base CX0 2 fH fdH ["one", "other"] spThen := ok_then H2 T
  refine okN D.F scLeading (fun vs H Q E h => ?_) (fun cdv A outer s H vs Q E hr h => ?_)
  · obtain ⟨a, b, c, d, o, r, ot, rt, rfl, _⟩ := h
    rfl
  · obtain ⟨a, b, c, d, o, r, ot, rt, rfl, ha, hb, hc, hd, bo, br, bot, brt, yes, no⟩ := h
    refine ⟨_, pss_cons (ps_if (PW.pt (pw_or (pt_not (pt_val (pe_call GS hr rfl S.g S.F.kp S.b .nil pass0 (pa_cons (pv 0) (pa_cons (pv 1) pa_nil)))))
          (pw_or1 (pt_not (pt_val (pe_call GS hr rfl S.g S.F.kp S.b .nil pass0 (pa_cons (pv 2) (pa_cons (pv 3) pa_nil))))))))
        (pss_one (L2N.ps_raise rfl (L2N.takes_of rfl rfl rfl rfl) (L2N.pmk_own PySem.F.excBase_ValueError X.xT X.gT X.kT (raises_own X.bT X.tT) (by exact rfl)))) pss_nil)
      (pss_cons (ps_set (i := 4) scLeading.nd rfl (Or.inl rfl) (pe_tup (pa_cons (pe_tup (pa_cons (pe_ix ix_tup (pv 0) pe_int (fun _ _ => rfl)) (pa_cons (pe_ix ix_tup (pv 1) pe_int (fun _ _ => rfl)) pa_nil)))
        (pa_cons (pe_tup (pa_cons (pe_ix ix_tup (pv 0) pe_int (fun _ _ => rfl)) (pa_cons (pe_ix ix_tup (pv 1) pe_int (fun _ _ => rfl)) pa_nil))) pa_nil))))
      (pss_cons (ps_set (i := 5) scLeading.nd rfl (Or.inl rfl) (pe_tup (pa_cons (pe_tup (pa_cons (pe_ix ix_tup (pv 2) pe_int (fun _ _ => rfl)) (pa_cons (pe_ix ix_tup (pv 3) pe_int (fun _ _ => rfl)) pa_nil)))
        (pa_cons (pe_tup (pa_cons (pe_ix ix_tup (pv 2) pe_int (fun _ _ => rfl)) (pa_cons (pe_ix ix_tup (pv 3) pe_int (fun _ _ => rfl)) pa_nil))) pa_nil))))
      (pss_one (ps_ret (pe_call GH hr rfl H2.g H2.F.kp H2.b .nil pass0 (pa_cons (pe_call GB hr rfl B.g B.F.kp B.b .nil pass0 (pa_cons (pv 4) pa_nil)) (pa_cons (pv 5) pa_nil))))))), ?_⟩
    refine ⟨_, rfl, _, rfl, a, b, o, r, rfl, ha, hb, bo, fun H1 m1 => ⟨_, rfl, ?_⟩⟩
    by_cases u1 : Un (cr o r)
    · rw [unB_iff.mpr u1]
      refine iteF ?_
      refine ⟨_, rfl, _, rfl, c, d, ot, rt, rfl, pair_on m1 hc, pair_on m1 hd, bot, fun H2 m2 => ⟨_, rfl, ?_⟩⟩
      have M2 := m1.trans m2
      by_cases u2 : Un (cr ot rt)
      · rw [unB_iff.mpr u2]
        refine iteF (rd_next ?_)
        dsimp only
        refine rd_seq ?_
        refine rd_set ?_
        refine rd_turn o.1 r.1 o.2 r.2 (fun H' R s' q => ?_) (fun H' R s' q => ?_) (fun H' R s' q => ?_) (fun H' R s' q => ?_) (fun H3 p3 m3 n3 h3 => ?_)
        · exact ⟨_, rfl, a, _, _, _, rfl, rfl, SqT.of (s' _ _ (M2 _ _ ha)), at0, q⟩
        · exact ⟨_, rfl, b, _, _, _, rfl, rfl, SqT.of (s' _ _ (M2 _ _ hb)), at0, q⟩
        · exact ⟨_, rfl, a, _, _, _, rfl, rfl, SqT.of (s' _ _ (M2 _ _ ha)), at1, q⟩
        · exact ⟨_, rfl, b, _, _, _, rfl, rfl, SqT.of (s' _ _ (M2 _ _ hb)), at1, q⟩
        have M3 := M2.trans m3
        dsimp only
        refine rd_seq ?_
        refine rd_set ?_
        refine rd_turn ot.1 rt.1 ot.2 rt.2 (fun H' R s' q => ?_) (fun H' R s' q => ?_) (fun H' R s' q => ?_) (fun H' R s' q => ?_) (fun H4 p4 m4 n4 h4 => ?_)
        · exact ⟨_, rfl, c, _, _, _, rfl, rfl, SqT.of (s' _ _ (M3 _ _ hc)), at0, q⟩
        · exact ⟨_, rfl, d, _, _, _, rfl, rfl, SqT.of (s' _ _ (M3 _ _ hd)), at0, q⟩
        · exact ⟨_, rfl, c, _, _, _, rfl, rfl, SqT.of (s' _ _ (M3 _ _ hc)), at1, q⟩
        · exact ⟨_, rfl, d, _, _, _, rfl, rfl, SqT.of (s' _ _ (M3 _ _ hd)), at1, q⟩
        have M4 := M3.trans m4
        have u0 : cr (o.1, r.1) (o.2, r.2) = cr o r := by simp only [cr]; grind
        have b3 : BT big ((o.1, r.1), (o.2, r.2)) := ⟨⟨bo.1, br.1⟩, ⟨bo.2, br.2⟩⟩
        refine ⟨_, rfl, p3, _, rfl, turn_on m4 h3, b3, by rw [u0]; exact u1, fun H5 p5 m5 n5 h5 => ?_⟩
        refine ⟨_, rfl, p5, p4, _, _, rfl, h5, turn_on m5 h4, ?_, ⟨⟨bot.1, brt.1⟩, ⟨bot.2, brt.2⟩⟩, fun H6 p6 m6 n6 h6 => ?_⟩
        · have b1 : Bd 1 (cr (o.1, r.1) (o.2, r.2)) := by rw [u0]; exact u1.bd
          have b2 : Bd 1 (-cr (o.1, r.1) (o.2, r.2)) := by obtain ⟨x, y⟩ := b1; constructor <;> omega
          have e : (1 : Int) * big = big := by decide
          refine ⟨⟨?_, ?_⟩, ?_, ?_⟩
          · exact e ▸ b1.mul br.2
          · exact e ▸ b2.mul br.1
          · exact e ▸ b2.mul bo.2
          · exact e ▸ b1.mul bo.1
        · exact yes u1 u2 H6 p6 (M4.trans (m5.trans m6)) (free_of (M4.trans m5) n6) h6
      · rw [unB_false u2]
        refine iteT ?_
        exact no (fun z => u2 z.2) _ M2
    · rw [unB_false u1]
      refine iteT ?_
      exact no (fun z => u1 z.1) _ m1
/-! ### _law_both -/
theorem scBoth : FnScope ["_law_one", "_law_other", "_law_left", "_law_right"] ["_law_one", "_law_other"] (defScope sBoth) := ⟨rfl, rfl, rfl, by decide +kernel, rfl, by decide +kernel, by decide +kernel⟩
theorem ok_both {f fL : Addr} {fd fdL : FuncData} (D : Def K mg "_law_both" sBoth ["_law_one", "_law_other"] f fd) (C : Def K mg "_law_led" sLed ["_law_turning_here", "_law_pair"] fL fdL) : FnOk P w K mg base CX0 2 f fd ["_law_one", "_law_other"] spBoth := by
  have GC : FnOk P w K mg base CX0 1 fL fdL ["_law_turning_here", "_law_pair"] spTurned := ok_led C
  refine D.F.ok scBoth (fun vs H Q E h => ?_) (fun cdv A outer s H vs Q E hr h => ?_)
  · obtain ⟨a, b, t, u, rfl, _⟩ := h
    rfl
  · obtain ⟨a, b, t, u, rfl, ⟨x, y, ht, hx, hy⟩, hu, s2, k⟩ := h
    refine ⟨_, pss_cons (ps_set (i := 2) scBoth.nd rfl (Or.inl rfl) (pe_call GC hr rfl C.g C.F.kp C.b .nil pass0 (pa_cons (pv 1) (pa_cons
          (pe_tup (pa_cons (pe_ix ix_tup (pe_ix ix_tup (pv 0) pe_int (fun _ _ => rfl)) pe_int (fun _ _ => rfl)) (pa_cons (pe_ix ix_tup (pe_ix ix_tup (pv 0) pe_int (fun _ _ => rfl)) pe_int (fun _ _ => rfl)) pa_nil))) pa_nil))))
      (pss_cons (ps_set (i := 3) scBoth.nd rfl (Or.inl rfl) (pe_call GC hr rfl C.g C.F.kp C.b .nil pass0 (pa_cons (pv 1) (pa_cons
          (pe_tup (pa_cons (pe_ix ix_tup (pe_ix ix_tup (pv 0) pe_int (fun _ _ => rfl)) pe_int (fun _ _ => rfl)) (pa_cons (pe_ix ix_tup (pe_ix ix_tup (pv 0) pe_int (fun _ _ => rfl)) pe_int (fun _ _ => rfl)) pa_nil))) pa_nil))))
      (pss_one (ps_ret (pe_tup (pa_cons (pe_tup (pa_cons (pe_ix ix_tup (pv 2) pe_int (fun _ _ => rfl)) (pa_cons (pe_ix ix_tup (pv 3) pe_int (fun _ _ => rfl)) pa_nil)))
        (pa_cons (pe_tup (pa_cons (pe_ix ix_tup (pv 2) pe_int (fun _ _ => rfl)) (pa_cons (pe_ix ix_tup (pv 3) pe_int (fun _ _ => rfl)) pa_nil))) pa_nil)))))), ?_⟩
    refine ⟨_, rfl, _, rfl, a, _, _, _, rfl, rfl, SqT.of ht, at0, x, _, _, _, rfl, rfl, SqT.of hx, at0, _, rfl, a, _, _, _, rfl, rfl, SqT.of ht, at1, y, _, _, _, rfl, rfl, SqT.of hy, at0, line2, fun p1 n1 => ?_⟩
    have m1 := same_new (o := HO.tup [V.int t.1.1, V.int t.2.1]) n1
    refine ⟨b, p1, u, (t.1.1, t.2.1), rfl, turn_on m1 hu, upd_same, s2, fun H1 c1 m2 n2 g1 => ?_⟩
    have M1 := m1.trans m2
    refine ⟨_, rfl, _, rfl, a, _, _, _, rfl, rfl, SqT.of (M1 _ _ ht), at0, x, _, _, _, rfl, rfl, SqT.of (M1 _ _ hx), at1, _, rfl, a, _, _, _, rfl, rfl, SqT.of (M1 _ _ ht), at1, y, _, _, _, rfl, rfl, SqT.of (M1 _ _ hy), at1, line2, fun p2 n3 => ?_⟩
    have m3 := same_new (o := HO.tup [V.int t.1.2, V.int t.2.2]) n3
    refine ⟨b, p2, u, (t.1.2, t.2.2), rfl, turn_on (M1.trans m3) hu, upd_same, s2, fun H2 c2 m4 n4 g2 => ?_⟩
    have M := M1.trans (m3.trans m4)
    have h1 := pair_on (m3.trans m4) g1
    dsimp only
    refine rd_ret ?_
    refine rd_turn (led u (t.1.1, t.2.1)).1 (led u (t.1.2, t.2.2)).1 (led u (t.1.1, t.2.1)).2 (led u (t.1.2, t.2.2)).2 (fun H' R s' q => ?_) (fun H' R s' q => ?_) (fun H' R s' q => ?_) (fun H' R s' q => ?_) (fun H' c' s' n' h' => k H' c' (M.trans s') (free_of M n') h')
    · exact ⟨_, rfl, c1, _, _, _, rfl, rfl, SqT.of (s' _ _ h1), at0, q⟩
    · exact ⟨_, rfl, c2, _, _, _, rfl, rfl, SqT.of (s' _ _ g2), at0, q⟩
    · exact ⟨_, rfl, c1, _, _, _, rfl, rfl, SqT.of (s' _ _ h1), at1, q⟩
    · exact ⟨_, rfl, c2, _, _, _, rfl, rfl, SqT.of (s' _ _ g2), at1, q⟩
end
end RR
set_option Elab.async false
set_option linter.all false
set_option maxRecDepth 100000
set_option maxHeartbeats 4000000
namespace RR
open PySem PySem.Spec PyProof.Rows L2 HP
section
variable {P : Program} {w : World} {K : PySem.W.Frag} {mg : Str → Option Value} {base : Heap}
/-! ### _law_bag -/
theorem scBag : FnScope ["_law_script", "_law_k", "_law_cell", "_law_state"] ["_law_script", "_law_k"] (defScope sBag) := ⟨rfl, rfl, rfl, by decide +kernel, rfl, by decide +kernel, by decide +kernel⟩
theorem ok_bag {f : Addr} {fd : FuncData} (D : Def K mg "_law_bag" sBag ["_law_script", "_law_k"] f fd) (T : Txt K mg) : FnOk P w K mg base CX0 1 f fd ["_law_script", "_law_k"] (spBag K) := by
  refine D.F.ok scBag (fun vs H Q E h => ?_) (fun cdv A outer s H vs Q E hr h => ?_)
  · obtain ⟨a, ns, k, rfl, _⟩ := h
    rfl
  · obtain ⟨a, ns, i, rfl, hS, i0, i1, k⟩ := h
    refine ⟨_, pss_cons (ps_set (i := 2) scBag.nd rfl (Or.inl rfl) pe_int)
      (pss_cons (ps_if (pt_cmpR op_lt (pv 1) (pe_callB call_len_seq (by rfl) T.len PySem.boot_len (pa_cons (pv 0) pa_nil)) (nomark _))
        (pss_one (ps_set (i := 2) scBag.nd rfl (Or.inl rfl) (pe_callB call_abs (by rfl) T.abs (by decide +kernel) (pa_cons (pe_ix ix_list (pv 0) (pv 1) (fun _ _ => rfl)) pa_nil)))) pss_nil)
      (pss_cons (ps_set (i := 3) scBag.nd rfl (Or.inl rfl) (pe_op op_add pe_int (pe_op op_mod
          (pe_op op_add (pe_op op_add (pe_op op_add (pe_op op_mod (pv 2) pe_int) (pe_op op_mul (pe_op op_mul pe_int (pv 1)) (pv 1))) (pe_op op_mul pe_int (pv 1))) pe_int) pe_int)))
      (pss_one (ps_ret (pe_lst (pa_cons (pe_op op_mul (pv 2) (pe_callTy call_int1 (by rfl) T.int (by decide +kernel) (pa_cons (pe_cmpR op_ge (pv 2) (pe_op op_pow pe_int pe_int) (nomark _)) pa_nil))) (pa_cons (pv 3) pa_nil))))))), ?_⟩
    -- whatever the cell
    have tail : ∀ z : Int, tSeq (tAsg (tOp (rI0 fun i j => V.int (i + j)) (tC (.int 1)) (tOp (rI (fun _ j => 0 < j) fun i j => V.int (i % j)) (tOp (rI0 fun i j => V.int (i + j)) (tOp (rI0 fun i j => V.int (i + j)) (tOp (rI0 fun i j => V.int (i + j)) (tOp (rI (fun _ j => 0 < j) fun i j => V.int (i % j)) (tVar 2) (tC (.int 2147483647)))
          (tOp (rI CMul fun i j => V.int (i * j)) (tOp (rI CMul fun i j => V.int (i * j)) (tC (.int 7919)) (tVar 1)) (tVar 1))) (tOp (rI CMul fun i j => V.int (i * j)) (tC (.int 11)) (tVar 1))) (tC (.int 5))) (tC (.int 2147483646)))) (gName 3))
        (tRet (tLst (tCons (tOp (rI CMul fun i j => V.int (i * j)) (tVar 2) (tCB (fun xs H Q => (∃ i, xs = [V.int i] ∧ Q (.int i) H) ∨ ∃ k, xs = [V.bl k] ∧ Q (.int (if k then 1 else 0)) H) (tCons (tOp (rI0 fun i j => V.bl (decide (i ≥ j))) (tVar 2) (tOp (rI CPow fun i j => V.int (i ^ j.toNat)) (tC (.int 10)) (tC (.int 18)))) tNil))) (tCons (tVar 3) tNil))))
        { nx := fun _ H' => Q .non H', rt := Q } [some (.ref a), some (.int i), some (.int z), none] H := by
      intro z
      refine ⟨_, rfl, _, _, rfl, rfl, (by show (0 : Int) < 2147483647; decide), _, rfl, _, _, rfl, rfl, .inl (by decide), _, rfl, _, _, rfl, rfl, .inr (by omega), _, _, rfl, rfl, _, rfl, _, _, rfl, rfl, .inl (by decide), _, _, rfl, rfl, _, _, rfl, rfl, _, _, rfl, rfl, (by show (0 : Int) < 2147483646; decide), _, _, rfl, rfl, ?_⟩
      refine ⟨_, rfl, _, rfl, _, _, rfl, rfl, ⟨by decide, by decide, by decide⟩, _, _, rfl, rfl, .inr ⟨_, rfl, ?_⟩⟩
      refine ⟨_, _, rfl, rfl, .inr (by split <;> decide), _, rfl, line2, fun p n => ?_⟩
      exact k _ p (same_new n) n ⟨_, _, upd_same, by omega, by omega⟩
    refine ⟨_, rfl, _, rfl, a, _, rfl, .inl hS, _, _, rfl, rfl, _, rfl, ?_⟩
    rw [List.length_map]
    refine ite2 (fun c => ?_) (fun _ => tail 0)
    have c' : i < (ns.length : Int) := of_decide_eq_true c
    obtain ⟨j, rfl⟩ : ∃ j : Nat, i = (j : Int) := ⟨i.toNat, by omega⟩
    have lt : j < ns.length := by omega
    have hx : atI (ns.map V.int) (j : Int) = some (V.int ns[j]) := by
      refine atI_nat ?_
      rw [List.getElem?_map, List.getElem?_eq_getElem lt]
      rfl
    refine ⟨_, rfl, _, rfl, a, _, _, _, rfl, rfl, hS, hx, _, rfl, ?_⟩
    exact tail _
/-! ### _law_digit -/
theorem scDigit : FnScope ["_law_bag_here", "_law_many", "_law_found"] ["_law_bag_here", "_law_many"] (defScope sDigit) := ⟨rfl, rfl, rfl, by decide +kernel, rfl, by decide +kernel, by decide +kernel⟩
theorem ok_digit {f : Addr} {fd : FuncData} (D : Def K mg "_law_digit" sDigit ["_law_bag_here", "_law_many"] f fd) : FnOk P w K mg base CX0 1 f fd ["_law_bag_here", "_law_many"] spDigit := by
  refine D.F.ok scDigit (fun vs H Q E h => ?_) (fun cdv A outer s H vs Q E hr h => ?_)
  · obtain ⟨a, n, rfl, _⟩ := h
    rfl
  · obtain ⟨a, n, rfl, ⟨x, y, hb, y0, y1⟩, n0, n1, k⟩ := h
    refine ⟨_, pss_cons (ps_if (pt_cmpR op_gt (pe_ix ix_list (pv 0) pe_int (fun _ _ => rfl)) pe_int (nomark _))
        (pss_cons (ps_set (i := 2) scDigit.nd rfl (Or.inl rfl) (pe_op op_mod (pe_ix ix_list (pv 0) pe_int (fun _ _ => rfl)) (pv 1)))
          (pss_cons (ps_asg (pe_op op_fdiv (pe_ix ix_list (pv 0) pe_int (fun _ _ => rfl)) (pv 1)) (pg_sub (pv 0) pe_int set_list))
          (pss_one (ps_ret (pv 2))))) pss_nil)
      (pss_cons (ps_asg (pe_op op_mod (pe_op op_mul (pe_ix ix_list (pv 0) pe_int (fun _ _ => rfl)) pe_int) pe_int) (pg_sub (pv 0) pe_int set_list))
      (pss_one (ps_ret (pe_op op_mod (pe_op op_fdiv (pe_op op_mod (pe_op op_mul (pe_ix ix_list (pv 0) pe_int (fun _ _ => rfl)) pe_int) pe_int) pe_int) (pv 1))))), ?_⟩
    refine ⟨_, rfl, a, _, _, _, rfl, rfl, SqL.of hb, at0, _, _, rfl, rfl, _, rfl, ?_⟩
    refine ite2 (fun _ => ?_) (fun _ => ?_)
    · refine ⟨_, rfl, a, _, _, _, rfl, rfl, SqL.of hb, at0, _, rfl, _, _, rfl, rfl, n0, ?_⟩
      refine ⟨_, rfl, a, _, _, _, rfl, rfl, SqL.of hb, at0, _, rfl, _, _, rfl, rfl, ⟨n0, by omega⟩, ?_⟩
      refine ⟨_, rfl, a, _, _, 0, rfl, rfl, hb, rfl, ?_⟩
      refine ⟨_, rfl, ?_⟩
      exact k _ _ upd_but ⟨_, y, upd_same, y0, y1⟩ (Int.emod_nonneg _ (by omega)) (Int.emod_lt_of_pos _ n0)
    · have u0 := Int.emod_nonneg (y * 48271) (show (2147483647 : Int) ≠ 0 by decide)
      have u1 := Int.emod_lt_of_pos (y * 48271) (show (0 : Int) < 2147483647 by decide)
      refine ⟨_, rfl, a, _, _, _, rfl, rfl, SqL.of hb, at1, _, _, rfl, rfl, .inr (by decide), _, _, rfl, rfl, (by show (0 : Int) < 2147483647; decide), ?_⟩
      refine ⟨_, rfl, a, _, _, 1, rfl, rfl, hb, rfl, ?_⟩
      refine ⟨_, rfl, a, _, _, _, rfl, rfl, SqL.of upd_same, at1, _, _, rfl, rfl, .inr (by decide), _, _, rfl, rfl, (by show (0 : Int) < 2147483647; decide), _, _, rfl, rfl, ⟨by decide, by decide⟩, _, rfl, _, _, rfl, rfl, n0, ?_⟩
      exact k _ _ upd_but ⟨x, _, upd_same, u0, by omega⟩ (Int.emod_nonneg _ (by omega)) (Int.emod_lt_of_pos _ n0)
end
end RR
set_option Elab.async false
set_option linter.all false
set_option maxRecDepth 100000
set_option maxHeartbeats 4000000
namespace RR
open PySem PySem.Spec PyProof.Rows L2 HP
theorem But.free {l c : Addr} {H H' : Hp} (k : But l H H') (b : BagAt H' l) (n : H' c = none) : H c = none := by
  cases e : H c with
  | none => rfl
  | some o =>
    by_cases z : c = l
    · obtain ⟨_, _, x, _⟩ := b
      rw [z, x] at n
      cases n
    · rw [k c o z e] at n
      cases n
theorem BagAt.ne {H : Hp} {l c : Addr} (b : BagAt H l) (n : H c = none) : c ≠ l := fun z => by
  obtain ⟨_, _, x, _⟩ := b
  rw [z, x] at n
  cases n
theorem rd_lst4 {σ : L2.St} {H : Hp} {Q : VK} {t1 t2 t3 t4 : TE} (h : t1 σ H fun v1 H1 => t2 σ H1 fun v2 H2 => t3 σ H2 fun v3 H3 => t4 σ H3 fun v4 H4 => 4 ≤ sizeLine ∧ ∀ p, H4 p = none → Q (.ref p) (upd H4 p (.lst [v1, v2, v3, v4]))) :
    tLst (tCons t1 (tCons t2 (tCons t3 (tCons t4 tNil)))) σ H Q := h
theorem rd_lst2 {σ : L2.St} {H : Hp} {Q : VK} {t1 t2 : TE} (h : t1 σ H fun v1 H1 => t2 σ H1 fun v2 H2 => 2 ≤ sizeLine ∧ ∀ p, H2 p = none → Q (.ref p) (upd H2 p (.lst [v1, v2]))) : tLst (tCons t1 (tCons t2 tNil)) σ H Q := h
theorem line4 : 4 ≤ sizeLine := by decide
theorem both_bd {m : Int} {t u : T} (h : BT m t) (k : BT 3 u) : BT (2 * (3 * m)) (both t u) := by
  have x := led_bd k (show BP m (t.1.1, t.2.1) from ⟨h.1.1, h.2.1⟩)
  have y := led_bd k (show BP m (t.1.2, t.2.2) from ⟨h.1.2, h.2.2⟩)
  exact ⟨⟨x.1, y.1⟩, ⟨x.2, y.2⟩⟩
theorem bd_of {n x : Int} (h : -n ≤ x) (k : x ≤ n) : Bd n x := ⟨h, k⟩
theorem BP.mono {m n : Int} {p : P} (h : BP m p) (k : m ≤ n) : BP n p := ⟨h.1.mono k, h.2.mono k⟩
theorem BT.mono {m n : Int} {t : T} (h : BT m t) (k : m ≤ n) : BT n t := ⟨h.1.mono k, h.2.mono k⟩
section
variable {P : Program} {w : World} {K : PySem.W.Frag} {mg : Str → Option Value} {base : Heap}
/-! ### _law_turning -/
theorem scTurning : FnScope ["_law_bag_here", "_law_found", "_law_k", "_law_by", "_law_some"] ["_law_bag_here"] (defScope sTurning) := ⟨rfl, rfl, rfl, by decide +kernel, rfl, by decide +kernel, by decide +kernel⟩
theorem ok_turning {f fD fB fL : Addr} {fd fdD fdB fdL : FuncData} (D : Def K mg "_law_turning" sTurning ["_law_bag_here"] f fd) (X : Txt K mg) (G : Def K mg "_law_digit" sDigit ["_law_bag_here", "_law_many"] fD fdD)
    (B : Def K mg "_law_both" sBoth ["_law_one", "_law_other"] fB fdB) (L : Def K mg "_law_led" sLed ["_law_turning_here", "_law_pair"] fL fdL) : FnOk P w K mg base CX0 3 f fd ["_law_bag_here"] spTurning := by
  have GD : FnOk P w K mg base CX0 1 fD fdD ["_law_bag_here", "_law_many"] spDigit := ok_digit G
  have GB : FnOk P w K mg base CX0 2 fB fdB ["_law_one", "_law_other"] spBoth := ok_both B L
  refine D.F.ok scTurning (fun vs H Q E h => ?_) (fun cdv A outer s H vs Q E hr h => ?_)
  · obtain ⟨a, rfl, _⟩ := h
    rfl
  · obtain ⟨a, rfl, hb, k⟩ := h
    have hr1 : Room 1 _ := hr.mono (by decide)
    refine ⟨_, pss_cons (ps_set (i := 1) scTurning.nd rfl (Or.inl rfl) (pe_tup (pa_cons (pe_tup (pa_cons pe_int (pa_cons pe_int pa_nil))) (pa_cons (pe_tup (pa_cons pe_int (pa_cons pe_int pa_nil))) pa_nil))))
      (pss_cons (ps_for PassesOwn.never rfl (pi_range1 rfl X.range (pa_cons (pe_call GD hr1 rfl G.g G.F.kp G.b .nil pass0 (pa_cons (pv 0) (pa_cons pe_int pa_nil))) pa_nil)) (pg_name (i := 2) scTurning.nd rfl (Or.inl rfl))
        (pss_cons (ps_set (i := 3) scTurning.nd rfl (Or.inl rfl) (pe_op op_sub (pe_call GD hr1 rfl G.g G.F.kp G.b .nil pass0 (pa_cons (pv 0) (pa_cons pe_int pa_nil))) pe_int))
        (pss_cons (ps_set (i := 4) scTurning.nd rfl (Or.inl rfl) (pe_lst
          (pa_cons (pe_tup (pa_cons (pe_tup (pa_cons pe_int (pa_cons (pv 3) pa_nil))) (pa_cons (pe_tup (pa_cons pe_int (pa_cons pe_int pa_nil))) pa_nil)))
          (pa_cons (pe_tup (pa_cons (pe_tup (pa_cons pe_int (pa_cons pe_int pa_nil))) (pa_cons (pe_tup (pa_cons (pv 3) (pa_cons pe_int pa_nil))) pa_nil)))
          (pa_cons (pe_tup (pa_cons (pe_tup (pa_cons pe_int (pa_cons pe_int pa_nil))) (pa_cons (pe_tup (pa_cons pe_int (pa_cons pe_int pa_nil))) pa_nil)))
          (pa_cons (pe_tup (pa_cons (pe_tup (pa_cons pe_int (pa_cons (pe_un un_neg pe_int) pa_nil))) (pa_cons (pe_tup (pa_cons pe_int (pa_cons pe_int pa_nil))) pa_nil))) pa_nil))))))
        (pss_one (ps_set (i := 1) scTurning.nd rfl (Or.inl rfl) (pe_call GB hr rfl B.g B.F.kp B.b .nil pass0 (pa_cons (pv 1) (pa_cons (pe_ix ix_list (pv 4) (pe_call GD hr1 rfl G.g G.F.kp G.b .nil pass0 (pa_cons (pv 0) (pa_cons pe_int pa_nil))) (fun _ _ => rfl)) pa_nil))))))))
      (pss_one (ps_ret (pv 1)))), ?_⟩
    refine rd_seq ?_
    refine rd_set ?_
    refine rd_turn 1 0 0 1 (fun _ _ _ q => q) (fun _ _ _ q => q) (fun _ _ _ q => q) (fun _ _ _ q => q) (fun H1 p1 m1 n1 g1 => ?_)
    refine ⟨_, rfl, a, 4, rfl, bag_on m1 hb, by decide, by decide, fun H2 n e2 b2 n0 n4 => ⟨n, rfl, by omega, by omega, ?_⟩⟩
    refine for_range (lo := 0) (n := n.toNat) (fun i σ H' => ∃ (t : T) (c : Addr) (v2 v3 v4 : Option V), σ = [some (.ref a), some (.ref c), v2, v3, v4] ∧ But a H H' ∧ H c = none ∧ BagAt H' a ∧ TurnAt H' c t ∧ Un (cr t.1 t.2) ∧ BT (6 ^ i) t)
      ⟨((1, 0), (0, 1)), p1, none, none, none, rfl, (But.of m1).trans e2, n1, b2, e2.turn (bag_on m1 hb) g1, Or.inl rfl, ⟨bd_of (by decide) (by decide), bd_of (by decide) (by decide)⟩, ⟨bd_of (by decide) (by decide), bd_of (by decide) (by decide)⟩⟩ ?_ ?_
    · rintro i σ H3 hi ⟨t, c, v2, v3, v4, rfl, e3, nc, b3, g3, u3, s3⟩
      -- _law_by
      refine ⟨_, rfl, a, 7, rfl, b3, by decide, by decide, fun H4 d e4 b4 d0 d7 => ⟨_, _, rfl, rfl, ?_⟩⟩
      have g4 := e4.turn b3 g3
      -- _law_some
      dsimp only
      refine rd_seq ?_
      refine rd_set ?_
      refine rd_lst4 ?_
      refine rd_turn 1 (d - 3) 0 1 (fun _ _ _ q => q) (fun _ _ _ q => ⟨_, rfl, q⟩) (fun _ _ _ q => q) (fun _ _ _ q => q) (fun H5 p5 m5 n5 g5 => ?_)
      refine rd_turn 1 0 (d - 3) 1 (fun _ _ _ q => q) (fun _ _ _ q => q) (fun _ _ _ q => ⟨_, rfl, q⟩) (fun _ _ _ q => q) (fun H6 p6 m6 n6 g6 => ?_)
      refine rd_turn 0 1 1 0 (fun _ _ _ q => q) (fun _ _ _ q => q) (fun _ _ _ q => q) (fun _ _ _ q => q) (fun H7 p7 m7 n7 g7 => ?_)
      refine rd_turn 0 (-1) 1 0 (fun _ _ _ q => q) (fun _ _ _ q => ⟨_, rfl, q⟩) (fun _ _ _ q => q) (fun _ _ _ q => q) (fun H8 p8 m8 n8 g8 => ?_)
      refine ⟨line4, fun l n9 => ?_⟩
      have m9 := same_new (o := HO.lst [V.ref p5, V.ref p6, V.ref p7, V.ref p8]) n9
      have hl : (upd H8 l (HO.lst [V.ref p5, V.ref p6, V.ref p7, V.ref p8])) l = some (HO.lst [V.ref p5, V.ref p6, V.ref p7, V.ref p8]) := upd_same
      have M := m5.trans (m6.trans (m7.trans (m8.trans m9)))
      have b9 := bag_on M b4
      have nl : l ≠ a := (bag_on (m5.trans (m6.trans (m7.trans m8))) b4).ne n9
      generalize upd H8 l (HO.lst [V.ref p5, V.ref p6, V.ref p7, V.ref p8]) = H9 at m9 hl M b9 ⊢
      -- _law_found
      refine ⟨_, rfl, _, rfl, _, rfl, a, 4, rfl, b9, by decide, by decide, fun H10 j e10 b10 j0 j4 => ?_⟩
      have find : ∃ (u : Addr) (tu : T), atI [V.ref p5, V.ref p6, V.ref p7, V.ref p8] j = some (V.ref u) ∧ TurnAt H10 u tu ∧ Un (cr tu.1 tu.2) ∧ BT 3 tu := by
        have k5 := e10.turn b9 (turn_on (m6.trans (m7.trans (m8.trans m9))) g5)
        have k6 := e10.turn b9 (turn_on (m7.trans (m8.trans m9)) g6)
        have k7 := e10.turn b9 (turn_on (m8.trans m9) g7)
        have k8 := e10.turn b9 (turn_on m9 g8)
        have s1 : Bd 3 1 := bd_of (by decide) (by decide)
        have s0 : Bd 3 0 := bd_of (by decide) (by decide)
        have sn : Bd 3 (-1) := bd_of (by decide) (by decide)
        have sd : Bd 3 (d - 3) := bd_of (by omega) (by omega)
        rcases (by omega : j = ((0 : Nat) : Int) ∨ j = ((1 : Nat) : Int) ∨ j = ((2 : Nat) : Int) ∨ j = ((3 : Nat) : Int)) with e | e | e | e <;> rw [e]
        · exact ⟨p5, _, atI_nat rfl, k5, Or.inl (by simp [cr]), ⟨s1, sd⟩, s0, s1⟩
        · exact ⟨p6, _, atI_nat rfl, k6, Or.inl (by simp [cr]), ⟨s1, s0⟩, sd, s1⟩
        · exact ⟨p7, _, atI_nat rfl, k7, Or.inr (by simp [cr]), ⟨s0, s1⟩, s1, s0⟩
        · exact ⟨p8, _, atI_nat rfl, k8, Or.inl (by simp [cr]), ⟨s0, sn⟩, s1, s0⟩
      obtain ⟨u, tu, hu, gu, uu, su⟩ := find
      have E10 := e3.trans (e4.trans ((But.of M).trans e10))
      refine ⟨l, _, _, _, rfl, rfl, SqL.of (e10 _ _ nl hl), hu, c, u, t, tu, rfl, e10.turn b9 (turn_on M g4), gu, su.mono (by decide), fun H11 q m11 n11 g11 => ?_⟩
      refine ⟨_, q, _, _, _, rfl, E10.trans (But.of m11), E10.free b10 n11, bag_on m11 b10, g11, ?_, ?_⟩
      · rw [both_det]
        exact u3.mul uu
      · have z := both_bd s3 su
        have e : (2 : Int) * (3 * 6 ^ i) = 6 ^ (i + 1) := by rw [Int.pow_succ]; omega
        rw [e] at z
        exact z
    · rintro σ H3 ⟨t, c, v2, v3, v4, rfl, e3, nc, b3, g3, u3, s3⟩
      have le : (6 : Int) ^ n.toNat ≤ 216 := by
        rcases (by omega : n.toNat = 0 ∨ n.toNat = 1 ∨ n.toNat = 2 ∨ n.toNat = 3) with e | e | e | e <;> rw [e] <;> decide
      exact ⟨_, rfl, k H3 c t e3 nc b3 g3 u3 (s3.mono le)⟩
/-! ### _law_two -/
theorem scTwo : FnScope ["_law_bag_here", "_law_turning_here"] ["_law_bag_here"] (defScope sTwo) := ⟨rfl, rfl, rfl, by decide +kernel, rfl, by decide +kernel, by decide +kernel⟩
theorem ok_two {f fT fL : Addr} {fd fdT fdL : FuncData} (D : Def K mg "_law_two" sTwo ["_law_bag_here"] f fd) (C : Def K mg "_law_turning" sTurning ["_law_bag_here"] fT fdT) (GT : FnOk P w K mg base CX0 3 fT fdT ["_law_bag_here"] spTurning)
    (L : Def K mg "_law_led" sLed ["_law_turning_here", "_law_pair"] fL fdL) : FnOk P w K mg base CX0 4 f fd ["_law_bag_here"] spTwo := by
  have GL : FnOk P w K mg base CX0 1 fL fdL ["_law_turning_here", "_law_pair"] spTurned := ok_led L
  refine D.F.ok scTwo (fun vs H Q E h => ?_) (fun cdv A outer s H vs Q E hr h => ?_)
  · obtain ⟨a, rfl, _⟩ := h
    rfl
  · obtain ⟨a, rfl, hb, k⟩ := h
    have hr1 : Room 1 _ := hr.mono (by decide)
    refine ⟨_, pss_cons (ps_set (i := 1) scTwo.nd rfl (Or.inl rfl) (pe_call GT hr rfl C.g C.F.kp C.b .nil pass0 (pa_cons (pv 0) pa_nil)))
      (pss_one (ps_ret (pe_lst (pa_cons (pe_call GL hr1 rfl L.g L.F.kp L.b .nil pass0 (pa_cons (pv 1) (pa_cons (pe_tup (pa_cons pe_int (pa_cons pe_int pa_nil))) pa_nil)))
        (pa_cons (pe_call GL hr1 rfl L.g L.F.kp L.b .nil pass0 (pa_cons (pv 1) (pa_cons (pe_tup (pa_cons pe_int (pa_cons pe_int pa_nil))) pa_nil))) pa_nil))))), ?_⟩
    refine ⟨_, rfl, a, rfl, hb, fun H1 c t e1 n1 b1 g1 u1 s1 => ?_⟩
    refine ⟨_, rfl, line2, fun p2 n2 => ?_⟩
    have m2 := same_new (o := HO.tup [V.int 1, V.int 0]) n2
    refine ⟨c, p2, t, (1, 0), rfl, turn_on m2 g1, upd_same, s1.mono (by decide), fun H3 p3 m3 n3 g3 => ?_⟩
    have M3 := m2.trans m3
    refine ⟨_, rfl, line2, fun p4 n4 => ?_⟩
    have m4 := same_new (o := HO.tup [V.int 0, V.int 1]) n4
    refine ⟨c, p4, t, (0, 1), rfl, turn_on (M3.trans m4) g1, upd_same, s1.mono (by decide), fun H5 p5 m5 n5 g5 => ?_⟩
    have M5 := M3.trans (m4.trans m5)
    refine ⟨line2, fun l n6 => ?_⟩
    have m6 := same_new (o := HO.lst [V.ref p3, V.ref p5]) n6
    have M := M5.trans m6
    have i1 : BP 1 (1, 0) := ⟨bd_of (by decide) (by decide), bd_of (by decide) (by decide)⟩
    have i2 : BP 1 (0, 1) := ⟨bd_of (by decide) (by decide), bd_of (by decide) (by decide)⟩
    refine k _ l (led t (1, 0)) (led t (0, 1)) (e1.trans (But.of M)) (e1.free b1 (free_of M5 n6)) (bag_on M b1) ⟨p3, p5, upd_same, pair_on (m4.trans (m5.trans m6)) g3, pair_on m6 g5⟩ ?_ (led_bd s1 i1) (led_bd s1 i2)
    rw [cr_led]
    have e : cr (1, 0) (0, 1) = 1 := by decide
    rw [e, Int.mul_one]
    exact u1
/-! ### _law_flat -/
theorem scFlat : FnScope ["_law_bag_here", "_law_far", "_law_one", "_law_other"] ["_law_bag_here"] (defScope sFlat) := ⟨rfl, rfl, rfl, by decide +kernel, rfl, by decide +kernel, by decide +kernel⟩
theorem ok_flat {f fD fC : Addr} {fd fdD fdC : FuncData} (D : Def K mg "_law_flat" sFlat ["_law_bag_here"] f fd) (G : Def K mg "_law_digit" sDigit ["_law_bag_here", "_law_many"] fD fdD) (C : Def K mg "_law_cross" sCross ["_law_one", "_law_other"] fC fdC) :
    FnOk P w K mg base CX0 2 f fd ["_law_bag_here"] spFlat := by
  have GD : FnOk P w K mg base CX0 1 fD fdD ["_law_bag_here", "_law_many"] spDigit := ok_digit G
  have GC : FnOk P w K mg base CX0 1 fC fdC ["_law_one", "_law_other"] spCrossed := ok_cross C
  refine D.F.ok scFlat (fun vs H Q E h => ?_) (fun cdv A outer s H vs Q E hr h => ?_)
  · obtain ⟨a, rfl, _⟩ := h
    rfl
  · obtain ⟨a, rfl, hb, k⟩ := h
    refine ⟨_, pss_cons (ps_set (i := 1) scFlat.nd rfl (Or.inl rfl) (pe_ix ix_list (pe_lst (pa_cons pe_int (pa_cons pe_int (pa_cons (pe_op op_pow pe_int pe_int) pa_nil)))) (pe_call GD hr rfl G.g G.F.kp G.b .nil pass0 (pa_cons (pv 0) (pa_cons pe_int pa_nil))) (fun _ _ => rfl)))
      (pss_cons (ps_set (i := 2) scFlat.nd rfl (Or.inl rfl) (pe_tup (pa_cons (pe_op op_sub (pe_call GD hr rfl G.g G.F.kp G.b .nil pass0 (pa_cons (pv 0) (pa_cons (pv 1) pa_nil))) pe_int) (pa_cons (pe_op op_sub (pe_call GD hr rfl G.g G.F.kp G.b .nil pass0 (pa_cons (pv 0) (pa_cons (pv 1) pa_nil))) pe_int) pa_nil))))
      (pss_cons (ps_set (i := 3) scFlat.nd rfl (Or.inl rfl) (pe_tup (pa_cons (pe_op op_sub (pe_call GD hr rfl G.g G.F.kp G.b .nil pass0 (pa_cons (pv 0) (pa_cons (pv 1) pa_nil))) pe_int) (pa_cons (pe_op op_sub (pe_call GD hr rfl G.g G.F.kp G.b .nil pass0 (pa_cons (pv 0) (pa_cons (pv 1) pa_nil))) pe_int) pa_nil))))
      (pss_cons (ps_if (pt_cmpR op_in_seq (pe_call GC hr rfl C.g C.F.kp C.b .nil pass0 (pa_cons (pv 2) (pa_cons (pv 3) pa_nil))) (pe_tup (pa_cons pe_int (pa_cons (pe_un un_neg pe_int) pa_nil))) rfl)
        (pss_one (ps_set (i := 3) scFlat.nd rfl (Or.inl rfl) (pe_tup (pa_cons (pe_op op_mul pe_int (pe_ix ix_tup (pv 3) pe_int (fun _ _ => rfl))) (pa_cons (pe_op op_mul pe_int (pe_ix ix_tup (pv 3) pe_int (fun _ _ => rfl))) pa_nil))))) pss_nil)
      (pss_one (ps_ret (pe_lst (pa_cons (pv 2) (pa_cons (pv 3) pa_nil)))))))), ?_⟩
    -- _law_far
    refine ⟨_, _, rfl, rfl, ⟨by decide, by decide, by decide⟩, (by decide : 3 ≤ sizeLine), fun l n1 => ?_⟩
    have m1 := same_new (o := HO.lst [V.int 4, V.int 4, V.int (10 ^ (6 : Int).toNat)]) n1
    have hl : (upd H l (HO.lst [V.int 4, V.int 4, V.int (10 ^ (6 : Int).toNat)])) l = some (HO.lst [V.int 4, V.int 4, V.int (10 ^ (6 : Int).toNat)]) := upd_same
    have b1 := bag_on m1 hb
    have nl : l ≠ a := hb.ne n1
    refine ⟨_, rfl, a, 3, rfl, b1, by decide, by decide, fun H2 j e2 b2 j0 j3 => ?_⟩
    have find : ∃ far : Int, atI [V.int 4, V.int 4, V.int (10 ^ (6 : Int).toNat)] j = some (V.int far) ∧ 0 < far ∧ far ≤ 1000000 := by
      rcases (by omega : j = ((0 : Nat) : Int) ∨ j = ((1 : Nat) : Int) ∨ j = ((2 : Nat) : Int)) with e | e | e <;> rw [e]
      · exact ⟨4, atI_nat rfl, by decide, by decide⟩
      · exact ⟨4, atI_nat rfl, by decide, by decide⟩
      · exact ⟨10 ^ (6 : Int).toNat, atI_nat rfl, by decide, by decide⟩
    obtain ⟨far, hf, f0, f1⟩ := find
    have E2 := (But.of m1).trans e2
    refine ⟨l, _, _, _, rfl, rfl, SqL.of (e2 _ _ nl hl), hf, ?_⟩
    -- the first
    refine ⟨_, rfl, _, rfl, a, far, rfl, b2, f0, f1, fun H3 x1 e3 b3 x10 x11 => ⟨_, _, rfl, rfl, ?_⟩⟩
    refine ⟨_, rfl, _, rfl, a, far, rfl, b3, f0, f1, fun H4 x2 e4 b4 x20 x21 => ⟨_, _, rfl, rfl, line2, fun p5 n5 => ?_⟩⟩
    have m5 := same_new (o := HO.tup [V.int (x1 - 1), V.int (x2 - 1)]) n5
    have g5 : PairAt (upd H4 p5 (HO.tup [V.int (x1 - 1), V.int (x2 - 1)])) p5 (x1 - 1, x2 - 1) := upd_same
    have b5 := bag_on m5 b4
    have E5 := E2.trans (e3.trans (e4.trans (But.of m5)))
    generalize upd H4 p5 (HO.tup [V.int (x1 - 1), V.int (x2 - 1)]) = H5 at m5 g5 b5 E5 ⊢
    -- the second
    refine ⟨_, rfl, _, rfl, a, far, rfl, b5, f0, f1, fun H6 y1 e6 b6 y10 y11 => ⟨_, _, rfl, rfl, ?_⟩⟩
    refine ⟨_, rfl, _, rfl, a, far, rfl, b6, f0, f1, fun H7 y2 e7 b7 y20 y21 => ⟨_, _, rfl, rfl, line2, fun p8 n8 => ?_⟩⟩
    have m8 := same_new (o := HO.tup [V.int (y1 - 1), V.int (y2 - 1)]) n8
    have g8 : PairAt (upd H7 p8 (HO.tup [V.int (y1 - 1), V.int (y2 - 1)])) p8 (y1 - 1, y2 - 1) := upd_same
    have b8 := bag_on m8 b7
    have E58 := e6.trans (e7.trans (But.of m8))
    generalize upd H7 p8 (HO.tup [V.int (y1 - 1), V.int (y2 - 1)]) = H8 at m8 g8 b8 E58 ⊢
    have h5 := E58.pair b5 g5
    have E8 := E5.trans E58
    have s1 : BP 1000000 (x1 - 1, x2 - 1) := ⟨bd_of (by show -1000000 ≤ x1 - 1; omega) (by show x1 - 1 ≤ 1000000; omega), bd_of (by show -1000000 ≤ x2 - 1; omega) (by show x2 - 1 ≤ 1000000; omega)⟩
    have s2 : BP 1000000 (y1 - 1, y2 - 1) := ⟨bd_of (by show -1000000 ≤ y1 - 1; omega) (by show y1 - 1 ≤ 1000000; omega), bd_of (by show -1000000 ≤ y2 - 1; omega) (by show y2 - 1 ≤ 1000000; omega)⟩
    -- do they span
    refine ⟨_, rfl, _, rfl, p5, p8, _, _, rfl, h5, g8, s1.mono (by decide), ?_⟩
    refine rd_in (K := K) false fun H9 m9 => ⟨_, rfl, ?_⟩
    have b9 := bag_on m9 b8
    have E9 := E8.trans (But.of m9)
    refine ite2 (fun u => ?_) (fun u => ?_)
    · have u' : Un (cr (x1 - 1, x2 - 1) (y1 - 1, y2 - 1)) := unB_iff.mp u
      refine ⟨_, rfl, p8, _, _, _, rfl, rfl, SqT.of (m9 _ _ g8), at0, _, _, rfl, rfl, .inl (by decide), _, rfl, p8, _, _, _, rfl, rfl, SqT.of (m9 _ _ g8), at1, _, _, rfl, rfl, .inl (by decide), line2, fun p10 n10 => ?_⟩
      have m10 := same_new (o := HO.tup [V.int (2 * (y1 - 1)), V.int (2 * (y2 - 1))]) n10
      refine ⟨_, rfl, _, rfl, line2, fun q n11 => ?_⟩
      have m11 := same_new (o := HO.lst [V.ref p5, V.ref p10]) n11
      have M := m10.trans m11
      have z1 : PairAt (upd H9 p10 (HO.tup [V.int (2 * (y1 - 1)), V.int (2 * (y2 - 1))])) p10 (2 * (y1 - 1), 2 * (y2 - 1)) := upd_same
      refine k _ q (x1 - 1, x2 - 1) (2 * (y1 - 1), 2 * (y2 - 1)) (E9.trans (But.of M)) (E9.free b9 (free_of m10 n11)) (bag_on M b9) ⟨p5, p10, upd_same, pair_on (m9.trans M) h5, pair_on m11 z1⟩ ?_ (s1.mono (by decide)) ?_
      · have e : cr (x1 - 1, x2 - 1) (2 * (y1 - 1), 2 * (y2 - 1)) = 2 * cr (x1 - 1, x2 - 1) (y1 - 1, y2 - 1) := by simp only [cr]; grind
        rw [e]
        intro z
        rcases u' with a | a <;> rw [a] at z <;> rcases z with z | z <;> exact absurd z (by decide)
      · exact ⟨bd_of (by show -2000000 ≤ 2 * (y1 - 1); omega) (by show 2 * (y1 - 1) ≤ 2000000; omega), bd_of (by show -2000000 ≤ 2 * (y2 - 1); omega) (by show 2 * (y2 - 1) ≤ 2000000; omega)⟩
    · have u' : ¬ Un (cr (x1 - 1, x2 - 1) (y1 - 1, y2 - 1)) := fun z => u (unB_iff.mpr z)
      refine ⟨_, rfl, _, rfl, line2, fun q n11 => ?_⟩
      have m11 := same_new (o := HO.lst [V.ref p5, V.ref p8]) n11
      exact k _ q _ _ (E9.trans (But.of m11)) (E9.free b9 n11) (bag_on m11 b9) ⟨p5, p8, upd_same, pair_on (m9.trans m11) h5, pair_on (m9.trans m11) g8⟩ u' (s1.mono (by decide)) (s2.mono (by decide))
end
end RR
set_option Elab.async false
set_option linter.all false
set_option maxRecDepth 100000
set_option maxHeartbeats 4000000
namespace RR
open PySem PySem.Spec PyProof.Rows L2 HP
/-- whether an error of the class at CT is one of the class that the name x stands for -/
def IsC (K : PySem.W.Frag) (mg : Str → Option Value) (CT : Addr) (x : Str) (b : Bool) : Prop := ∃ c : Addr, mg x = some (.ref c) ∧ PySem.W.kitOne K (.ref CT) (.ref c) = some b
structure TxtC (K : PySem.W.Frag) (mg : Str → Option Value) (CT : Addr) : Prop where
  ec : ExcC K CT
  kv : PySem.W.kitOne K (.ref CT) (.type "ValueError") = some true
  i0 : IsC K mg CT "NoRatio" false
  i1 : IsC K mg CT "NoTurning" true
  i2 : IsC K mg CT "NoRound" false
  i3 : IsC K mg CT "NotSmooth" false
  i4 : IsC K mg CT "NoWedge" false
  i5 : IsC K mg CT "NoRow" false
  i6 : IsC K mg CT "NoPlace" false
  i7 : IsC K mg CT "NoMinus" false
  i8 : IsC K mg CT "NoFour" false
  i9 : IsC K mg CT "NoHeight" false
  i10 : IsC K mg CT "NoBend" false
  i11 : IsC K mg CT "NoBody" false
  i12 : IsC K mg CT "NoOne" false
  i13 : IsC K mg CT "NoText" false
  i14 : IsC K mg CT "Unknown" false
  er : ∃ c : Addr, mg "RayError" = some (.ref c) ∧ PySem.W.exmOne K (.ref CT) (.ref c) = some true
/-- the fifteen answers -/
def told : List V := [.bl false, .bl true, .bl false, .bl false, .bl false, .bl false, .bl false, .bl false, .bl false, .bl false, .bl false, .bl false, .bl false, .bl false, .bl false]
theorem told_eq : told = (List.range 15).map fun i => V.bl (decide (i = 1)) := rfl
theorem told_at {i : Nat} (h : i < 15) : atI told ((0 : Int) + (i : Nat)) = some (V.bl (decide (i = 1))) := by
  rw [Int.zero_add, told_eq]
  refine atI_nat ?_
  rw [List.getElem?_map, List.getElem?_range h]
  rfl
theorem takes0N {X : Cx} : L2N.Takes X (fun _ _ _ _ => False) := fun _ _ x => by
  obtain ⟨_, _, _, _, _, _, _, _, _, _, _, _, _, _, _, _, z⟩ := x
  exact z.elim
theorem passN {X : Cx} : Passes (L2N.CX X.prog X.w) X E0 := fun _ _ _ _ _ _ _ h => by
  obtain ⟨_, _, _, _, _, _, _, _, _, _, _, _, z⟩ := h
  exact z.elim
theorem line1 : 1 ≤ sizeLine := by decide
def pD (p : P) : PyData := .tuple [.int p.1, .int p.2]
theorem pD_at {K : PySem.W.Frag} {H : Hp} {a : Addr} {p : P} (h : PairAt H a p) : Dp K H (.ref a) (pD p) := .tup (SqT.of h) (.cons (.int _) (.cons (.int _) .nil))
def tD (t : T) : PyData := .tuple [pD t.1, pD t.2]
theorem tD_at {K : PySem.W.Frag} {H : Hp} {a : Addr} {t : T} (h : TurnAt H a t) : Dp K H (.ref a) (tD t) :=
  let ⟨_, _, x, y, z⟩ := h
  .tup (SqT.of x) (.cons (pD_at y) (.cons (pD_at z) .nil))
theorem pD_eqv (p : P) : PyData.eqv (pD p) (pD p) = true := by simp [pD, PyData.eqv, PyData.eqvAll]
theorem tD_eqv (t : T) : PyData.eqv (tD t) (tD t) = true := by simp [tD, pD, PyData.eqv, PyData.eqvAll]
section
variable {P : Program} {w : World} {K : PySem.W.Frag} {mg : Str → Option Value} {base : Heap}
/-! ### _law_classes, called while the error is handled -/
theorem scClasses : FnScope ["_law_e", "_law_some", "_law_k"] ["_law_e"] (defScope sClasses) := ⟨rfl, rfl, rfl, by decide +kernel, rfl, by decide +kernel, by decide +kernel⟩
theorem ok_classes {f CT : Addr} {fd : FuncData} {p : Addr × Obj} (D : Def K mg "_law_classes" sClasses ["_law_e"] f fd) (X : Txt K mg) (C : TxtC K mg CT) (hz : Zc (.ref CT) none p.2) (hf : ∃ vs, p.2.data = .fields vs) :
    FnP P w K mg base 1 f fd ["_law_e"] p (spClasses p.1) := by
  obtain ⟨c0, g0, k0⟩ := C.i0
  obtain ⟨c1, g1, k1⟩ := C.i1
  obtain ⟨c2, g2, k2⟩ := C.i2
  obtain ⟨c3, g3, k3⟩ := C.i3
  obtain ⟨c4, g4, k4⟩ := C.i4
  obtain ⟨c5, g5, k5⟩ := C.i5
  obtain ⟨c6, g6, k6⟩ := C.i6
  obtain ⟨c7, g7, k7⟩ := C.i7
  obtain ⟨c8, g8, k8⟩ := C.i8
  obtain ⟨c9, g9, k9⟩ := C.i9
  obtain ⟨c10, g10, k10⟩ := C.i10
  obtain ⟨c11, g11, k11⟩ := C.i11
  obtain ⟨c12, g12, k12⟩ := C.i12
  obtain ⟨c13, g13, k13⟩ := C.i13
  obtain ⟨c14, g14, k14⟩ := C.i14
  refine fnP_of D.F scClasses (fun vs H Q h => ?_) (fun cdv A outer s H vs Q hot hr h => ?_)
  · obtain ⟨rfl, _⟩ := h
    rfl
  · obtain ⟨rfl, k⟩ := h
    refine ⟨_, pss_cons (ps_set (i := 1) scClasses.nd rfl (Or.inr rfl) (pe_lst (pa_cons (pe_callB (call_isP (List.mem_singleton.mpr rfl) C.ec hz hf) (by rfl) X.isi boot_isinstance (pa_cons (pv 0) (pa_cons (pe_glob (v := .ref c0) rfl g0 rfl) pa_nil)))
        (pa_cons (pe_callB (call_isP (List.mem_singleton.mpr rfl) C.ec hz hf) (by rfl) X.isi boot_isinstance (pa_cons (pv 0) (pa_cons (pe_glob (v := .ref c1) rfl g1 rfl) pa_nil)))
        (pa_cons (pe_callB (call_isP (List.mem_singleton.mpr rfl) C.ec hz hf) (by rfl) X.isi boot_isinstance (pa_cons (pv 0) (pa_cons (pe_glob (v := .ref c2) rfl g2 rfl) pa_nil)))
        (pa_cons (pe_callB (call_isP (List.mem_singleton.mpr rfl) C.ec hz hf) (by rfl) X.isi boot_isinstance (pa_cons (pv 0) (pa_cons (pe_glob (v := .ref c3) rfl g3 rfl) pa_nil)))
        pa_nil))))))
      (pss_cons (ps_set (i := 1) scClasses.nd rfl (Or.inr rfl) (pe_op op_cat (pv 1) (pe_lst (pa_cons (pe_callB (call_isP (List.mem_singleton.mpr rfl) C.ec hz hf) (by rfl) X.isi boot_isinstance (pa_cons (pv 0) (pa_cons (pe_glob (v := .ref c4) rfl g4 rfl) pa_nil)))
        (pa_cons (pe_callB (call_isP (List.mem_singleton.mpr rfl) C.ec hz hf) (by rfl) X.isi boot_isinstance (pa_cons (pv 0) (pa_cons (pe_glob (v := .ref c5) rfl g5 rfl) pa_nil)))
        (pa_cons (pe_callB (call_isP (List.mem_singleton.mpr rfl) C.ec hz hf) (by rfl) X.isi boot_isinstance (pa_cons (pv 0) (pa_cons (pe_glob (v := .ref c6) rfl g6 rfl) pa_nil)))
        (pa_cons (pe_callB (call_isP (List.mem_singleton.mpr rfl) C.ec hz hf) (by rfl) X.isi boot_isinstance (pa_cons (pv 0) (pa_cons (pe_glob (v := .ref c7) rfl g7 rfl) pa_nil)))
        pa_nil)))))))
      (pss_cons (ps_set (i := 1) scClasses.nd rfl (Or.inr rfl) (pe_op op_cat (pv 1) (pe_lst (pa_cons (pe_callB (call_isP (List.mem_singleton.mpr rfl) C.ec hz hf) (by rfl) X.isi boot_isinstance (pa_cons (pv 0) (pa_cons (pe_glob (v := .ref c8) rfl g8 rfl) pa_nil)))
        (pa_cons (pe_callB (call_isP (List.mem_singleton.mpr rfl) C.ec hz hf) (by rfl) X.isi boot_isinstance (pa_cons (pv 0) (pa_cons (pe_glob (v := .ref c9) rfl g9 rfl) pa_nil)))
        (pa_cons (pe_callB (call_isP (List.mem_singleton.mpr rfl) C.ec hz hf) (by rfl) X.isi boot_isinstance (pa_cons (pv 0) (pa_cons (pe_glob (v := .ref c10) rfl g10 rfl) pa_nil)))
        (pa_cons (pe_callB (call_isP (List.mem_singleton.mpr rfl) C.ec hz hf) (by rfl) X.isi boot_isinstance (pa_cons (pv 0) (pa_cons (pe_glob (v := .ref c11) rfl g11 rfl) pa_nil)))
        pa_nil)))))))
      (pss_cons (ps_set (i := 1) scClasses.nd rfl (Or.inr rfl) (pe_op op_cat (pv 1) (pe_lst (pa_cons (pe_callB (call_isP (List.mem_singleton.mpr rfl) C.ec hz hf) (by rfl) X.isi boot_isinstance (pa_cons (pv 0) (pa_cons (pe_glob (v := .ref c12) rfl g12 rfl) pa_nil)))
        (pa_cons (pe_callB (call_isP (List.mem_singleton.mpr rfl) C.ec hz hf) (by rfl) X.isi boot_isinstance (pa_cons (pv 0) (pa_cons (pe_glob (v := .ref c13) rfl g13 rfl) pa_nil)))
        (pa_cons (pe_callB (call_isP (List.mem_singleton.mpr rfl) C.ec hz hf) (by rfl) X.isi boot_isinstance (pa_cons (pv 0) (pa_cons (pe_glob (v := .ref c14) rfl g14 rfl) pa_nil)))
        pa_nil))))))
      (pss_one (ps_ret (pe_lcP (p := p) (own := [("_law_k", 2)]) (g := gName 2) (te := tVar 2)
        (tt := tAnd (tB (tOp (rIxL K) (tVar 1) (tVar 2))) (tB (tCB (rIsE K CT p.1) (tCons (tVar 0) (tCons (tC (.ty "ValueError")) tNil))))) hot (List.mem_singleton.mpr rfl) scClasses.nd (L2H.pi_range1H rfl X.range (pa_cons pe_int pa_nil)) (blkOk_by (own := [("_law_k", 2)]) (N := ["_law_e", "_law_some", "_law_k"]) (sc := defScope sClasses) (by decide +kernel))
        (fun _ _ _ _ _ => pg_name (i := 2) scClasses.nd rfl (Or.inl rfl))
        (fun _ _ _ _ _ => pts_one (PW.pt (pw_and (pt_val (pe_ix ix_list (pv 1) (pv 2) (fun _ _ => rfl))) (pw_and1 (pt_val (pe_callB (call_isP (List.mem_singleton.mpr rfl) C.ec hz hf) (by rfl) X.isi boot_isinstance (pa_cons (pv 0) (pa_cons (pe_bltn (v := .ty "ValueError") rfl X.ve (by decide +kernel) rfl) pa_nil))))))))
        (fun _ _ _ _ _ => pv 2))))))), ?_⟩
    refine ⟨_, rfl, _, _, _, rfl, (fun _ r => r), k0, _, rfl, _, _, _, rfl, (fun _ r => r), k1, _, rfl, _, _, _, rfl, (fun _ r => r), k2, _, rfl, _, _, _, rfl, (fun _ r => r), k3, (by decide : 4 ≤ sizeLine), fun l0 n0 => ?_⟩
    have m0 := same_new (o := HO.lst [V.bl false, V.bl true, V.bl false, V.bl false]) n0
    have e0 : (upd H l0 (HO.lst [V.bl false, V.bl true, V.bl false, V.bl false])) l0 = some (HO.lst [V.bl false, V.bl true, V.bl false, V.bl false]) := upd_same
    generalize upd H l0 (HO.lst [V.bl false, V.bl true, V.bl false, V.bl false]) = H0 at m0 e0 ⊢
    have M0 := m0
    refine ⟨_, rfl, _, rfl, _, _, _, rfl, (fun _ r => r), k4, _, rfl, _, _, _, rfl, (fun _ r => r), k5, _, rfl, _, _, _, rfl, (fun _ r => r), k6, _, rfl, _, _, _, rfl, (fun _ r => r), k7, (by decide : 4 ≤ sizeLine), fun a1 na1 => ?_⟩
    have ma1 := same_new (o := HO.lst [V.bl false, V.bl false, V.bl false, V.bl false]) na1
    refine ⟨l0, a1, _, _, rfl, rfl, ma1 _ _ e0, upd_same, (by decide : 8 ≤ sizeLine), fun l1 n1 => ?_⟩
    have mb1 := same_new (o := HO.lst ([V.bl false, V.bl true, V.bl false, V.bl false] ++ [V.bl false, V.bl false, V.bl false, V.bl false])) n1
    have e1 : (upd (upd H0 a1 (HO.lst [V.bl false, V.bl false, V.bl false, V.bl false])) l1 (HO.lst ([V.bl false, V.bl true, V.bl false, V.bl false] ++ [V.bl false, V.bl false, V.bl false, V.bl false]))) l1 = some (HO.lst [V.bl false, V.bl true, V.bl false, V.bl false, V.bl false, V.bl false, V.bl false, V.bl false]) := upd_same
    have M1 := M0.trans (ma1.trans mb1)
    generalize upd (upd H0 a1 (HO.lst [V.bl false, V.bl false, V.bl false, V.bl false])) l1 (HO.lst ([V.bl false, V.bl true, V.bl false, V.bl false] ++ [V.bl false, V.bl false, V.bl false, V.bl false])) = H1 at e1 M1 ⊢
    clear ma1 mb1
    refine ⟨_, rfl, _, rfl, _, _, _, rfl, (fun _ r => r), k8, _, rfl, _, _, _, rfl, (fun _ r => r), k9, _, rfl, _, _, _, rfl, (fun _ r => r), k10, _, rfl, _, _, _, rfl, (fun _ r => r), k11, (by decide : 4 ≤ sizeLine), fun a2 na2 => ?_⟩
    have ma2 := same_new (o := HO.lst [V.bl false, V.bl false, V.bl false, V.bl false]) na2
    refine ⟨l1, a2, _, _, rfl, rfl, ma2 _ _ e1, upd_same, (by decide : 12 ≤ sizeLine), fun l2 n2 => ?_⟩
    have mb2 := same_new (o := HO.lst ([V.bl false, V.bl true, V.bl false, V.bl false, V.bl false, V.bl false, V.bl false, V.bl false] ++ [V.bl false, V.bl false, V.bl false, V.bl false])) n2
    have e2 : (upd (upd H1 a2 (HO.lst [V.bl false, V.bl false, V.bl false, V.bl false])) l2 (HO.lst ([V.bl false, V.bl true, V.bl false, V.bl false, V.bl false, V.bl false, V.bl false, V.bl false] ++ [V.bl false, V.bl false, V.bl false, V.bl false]))) l2 = some (HO.lst [V.bl false, V.bl true, V.bl false, V.bl false, V.bl false, V.bl false, V.bl false, V.bl false, V.bl false, V.bl false, V.bl false, V.bl false]) := upd_same
    have M2 := M1.trans (ma2.trans mb2)
    generalize upd (upd H1 a2 (HO.lst [V.bl false, V.bl false, V.bl false, V.bl false])) l2 (HO.lst ([V.bl false, V.bl true, V.bl false, V.bl false, V.bl false, V.bl false, V.bl false, V.bl false] ++ [V.bl false, V.bl false, V.bl false, V.bl false])) = H2 at e2 M2 ⊢
    clear ma2 mb2
    refine ⟨_, rfl, _, rfl, _, _, _, rfl, (fun _ r => r), k12, _, rfl, _, _, _, rfl, (fun _ r => r), k13, _, rfl, _, _, _, rfl, (fun _ r => r), k14, (by decide : 3 ≤ sizeLine), fun a3 na3 => ?_⟩
    have ma3 := same_new (o := HO.lst [V.bl false, V.bl false, V.bl false]) na3
    refine ⟨l2, a3, _, _, rfl, rfl, ma3 _ _ e2, upd_same, (by decide : 15 ≤ sizeLine), fun l3 n3 => ?_⟩
    have mb3 := same_new (o := HO.lst ([V.bl false, V.bl true, V.bl false, V.bl false, V.bl false, V.bl false, V.bl false, V.bl false, V.bl false, V.bl false, V.bl false, V.bl false] ++ [V.bl false, V.bl false, V.bl false])) n3
    have e3 : (upd (upd H2 a3 (HO.lst [V.bl false, V.bl false, V.bl false])) l3 (HO.lst ([V.bl false, V.bl true, V.bl false, V.bl false, V.bl false, V.bl false, V.bl false, V.bl false, V.bl false, V.bl false, V.bl false, V.bl false] ++ [V.bl false, V.bl false, V.bl false]))) l3 = some (HO.lst [V.bl false, V.bl true, V.bl false, V.bl false, V.bl false, V.bl false, V.bl false, V.bl false, V.bl false, V.bl false, V.bl false, V.bl false, V.bl false, V.bl false, V.bl false]) := upd_same
    have M3 := M2.trans (ma3.trans mb3)
    generalize upd (upd H2 a3 (HO.lst [V.bl false, V.bl false, V.bl false])) l3 (HO.lst ([V.bl false, V.bl true, V.bl false, V.bl false, V.bl false, V.bl false, V.bl false, V.bl false, V.bl false, V.bl false, V.bl false, V.bl false] ++ [V.bl false, V.bl false, V.bl false])) = H3 at e3 M3 ⊢
    clear ma3 mb3
    -- the comprehension
    replace e3 : H3 l3 = some (.lst told) := e3
    refine ⟨15, rfl, by decide, by decide, fun d nd => ?_⟩
    have md := same_new (o := HO.lst []) nd
    refine lc_range (lo := 0) (n := 15) (fun i H' => Same H3 H' ∧ H' d = some (.lst (if i ≤ 1 then [] else [.int 1]))) ⟨md, upd_same⟩ ?_ ?_
    · rintro i H4 hi ⟨m4, e4⟩
      refine ⟨rfl, _, rfl, _, rfl, l3, _, _, _, rfl, rfl, SqL.of (m4 _ _ e3), told_at hi, _, rfl, ?_⟩
      by_cases z : i = 1
      · subst z
        refine iteT ?_
        refine ⟨_, rfl, _, _, _, rfl, (fun _ r => r), C.kv, _, rfl, iteT ?_⟩
        refine ⟨_, rfl, _, e4, (by decide : 0 < sizeLine), ?_, upd_same⟩
        exact fun b o e => (upd_ne (ne_of_none e nd)).trans (m4 b o e)
      · rw [decide_eq_false z]
        refine iteF (iteF ⟨m4, ?_⟩)
        rw [e4]
        by_cases y : i = 0
        · subst y
          rfl
        · rw [if_neg (show ¬ i ≤ 1 by omega), if_neg (show ¬ i + 1 ≤ 1 by omega)]
    · rintro H4 ⟨m4, e4⟩
      exact k H4 d (M3.trans m4) e4
/-! ### _law_refused -/
theorem scRefused : FnScope ["_law_some", "_law_others", "_law_e"] ["_law_some", "_law_others"] (defScope sRefused) := ⟨rfl, rfl, rfl, by decide +kernel, rfl, by decide +kernel, by decide +kernel⟩
def rdSuite (K : PySem.W.Frag) (CT : Addr) : Addr → Value → Option Addr → TS := fun a cls d D σ H =>
  cls = .ref CT ∧ d = none ∧ tRet (tOp (rEqD K) (tCallP (spClasses a) (tCons (tVar 2) tNil)) (tLst (tCons (tC (.int 1)) tNil))) D σ H
theorem ok_refused {f fG fC CT : Addr} {fd fdG fdC : FuncData} (D : Def K mg "_law_refused" sRefused ["_law_some", "_law_others"] f fd) (X : Txt K mg) (C : TxtC K mg CT) (G : Def K mg "leading" sLeading ["one", "other", "one_to", "other_to"] fG fdG)
    (GG : FnOk P w K mg base (L2N.CX P w) 3 fG fdG ["one", "other", "one_to", "other_to"] (spLeading CT)) (L : Def K mg "_law_classes" sClasses ["_law_e"] fC fdC) : FnOk P w K mg base CX0 4 f fd ["_law_some", "_law_others"] spRefused := by
  obtain ⟨CR, gR, eR⟩ := C.er
  refine D.F.ok scRefused (fun vs H Q E h => ?_) (fun cdv A outer s H vs Q E hr h => ?_)
  · obtain ⟨a, b, o, r, ot, rt, rfl, _⟩ := h
    rfl
  · obtain ⟨a, b, o, r, ot, rt, rfl, ⟨a0, a1, ha, ha0, ha1⟩, ⟨b0, b1, hb, hb0, hb1⟩, bo, br, bot, brt, no, k⟩ := h
    refine ⟨_, pss_cons (L2N.ps_try_as (i := 2) (tb := fun W => tDrop (tCallS (spLeading CT) (WE W) (tCons (tOp (rIxL K) (tVar 0) (tC (.int 0))) (tCons (tOp (rIxL K) (tVar 0) (tC (.int 1))) (tCons (tOp (rIxL K) (tVar 1) (tC (.int 0))) (tCons (tOp (rIxL K) (tVar 1) (tC (.int 1))) tNil))))))
        (ts := rdSuite K CT) (Wout := fun _ _ _ _ => False) rfl rfl scRefused.nd rfl rfl ⟨rfl, by decide, Or.inl gR⟩ takes0N
        (fun W pn xe tk _ => pss_one (ps_expr (by exact (pe_callS GG hr rfl G.g G.F.kp G.b (fun σ => L2N.passAt tk σ)
          (by exact (pa_cons (pe_ix ix_list (pv 0) pe_int (fun _ _ => rfl)) (pa_cons (pe_ix ix_list (pv 0) pe_int (fun _ _ => rfl)) (pa_cons (pe_ix ix_list (pv 1) pe_int (fun _ _ => rfl)) (pa_cons (pe_ix ix_list (pv 1) pe_int (fun _ _ => rfl)) pa_nil)))))))))
        (fun e oe cls d pn hz hf => ?suite)) (pss_one (ps_ret pe_bl)), ?_⟩
    case suite =>
      constructor
      rintro pins s1 σ H1 D1 I ⟨rfl, rfl, q⟩
      obtain ⟨vs, hv⟩ := hf
      have F : FnP P w K mg base 1 fC fdC ["_law_e"] (e, oe) (spClasses e) := ok_classes L X C hz.zc ⟨vs, hv⟩
      have room : L2H.RoomH 1 (A.deeper (envOfC "_law_refused" (defScope sRefused) s.heap.objs.size f cdv)) := L2H.roomH_of (hr.mono (by decide))
      refine L2.PSs.run ?_ pins s1 σ H1 D1 I q
      exact pss_one (ps_ret (pe_cmpR (op_eqD hr.units) (pe_callP (p := (e, oe)) F ⟨room.dp, room.un⟩ ⟨rfl, vs, hv, hz.2.2 vs hv⟩ List.mem_cons_self rfl L.g L.F.kp L.b (pa_cons (pv 2) pa_nil)) (pe_lst (pa_cons pe_int pa_nil)) (nomark _)))
    refine ⟨_, rfl, a, _, _, _, rfl, rfl, SqL.of ha, at0, _, rfl, a, _, _, _, rfl, rfl, SqL.of ha, at1, _, rfl, b, _, _, _, rfl, rfl, SqL.of hb, at0, _, rfl, b, _, _, _, rfl, rfl, SqL.of hb, at1, ?_⟩
    refine ⟨a0, a1, b0, b1, o, r, ot, rt, rfl, ha0, ha1, hb0, hb1, bo, br, bot, brt, fun u v => (no ⟨u, v⟩).elim, fun _ H1 m1 => ?_⟩
    refine ⟨true, eR, fun _ e ne => ⟨rfl, rfl, _, rfl, rfl, fun H2 c m2 e2 => ?_⟩, fun z => Bool.noConfusion z⟩
    refine ⟨line1, fun q nq => ?_⟩
    have m3 := same_new (o := HO.lst [V.int 1]) nq
    exact ⟨.list [.int 1], .list [.int 1], .lst (SqL.of (m3 _ _ e2)) (.cons (.int 1) .nil), .lst (SqL.of upd_same) (.cons (.int 1) .nil), rfl, rfl, k _ (m1.trans (m2.trans m3))⟩
/-! ### _law_leads -/
theorem scLeads : FnScope ["_law_found", "_law_one", "_law_other"] ["_law_found", "_law_one", "_law_other"] (defScope sLeads) := ⟨rfl, rfl, rfl, by decide +kernel, rfl, by decide +kernel, by decide +kernel⟩
theorem ok_leads {f fC fL : Addr} {fd fdC fdL : FuncData} (D : Def K mg "_law_leads" sLeads ["_law_found", "_law_one", "_law_other"] f fd) (X : Txt K mg) (C : Def K mg "_law_cross" sCross ["_law_one", "_law_other"] fC fdC) (L : Def K mg "_law_led" sLed ["_law_turning_here", "_law_pair"] fL fdL) :
    FnOk P w K mg base CX0 2 f fd ["_law_found", "_law_one", "_law_other"] spLeads := by
  have GC : FnOk P w K mg base CX0 1 fC fdC ["_law_one", "_law_other"] spCrossed := ok_cross C
  have GL : FnOk P w K mg base CX0 1 fL fdL ["_law_turning_here", "_law_pair"] spTurned := ok_led L
  refine D.F.ok scLeads (fun vs H Q E h => ?_) (fun cdv A outer s H vs Q E hr h => ?_)
  · obtain ⟨f, a, b, t, o, r, ot, rt, rfl, _⟩ := h
    rfl
  · obtain ⟨f0, a, b, t, o, r, ot, rt, rfl, ht, ⟨a0, a1, ha, ha0, ha1⟩, ⟨b0, b1, hb, hb0, hb1⟩, bt, un, e1, e2, k⟩ := h
    have gt := ht
    obtain ⟨x, y, ht, hx, hy⟩ := ht
    refine ⟨_, pss_cons (ps_if (PW.pt (pw_or (pt_not (pt_val (pe_callB call_isi (by rfl) X.isi boot_isinstance (pa_cons (pv 0) (pa_cons (pe_bltn (v := .ty "tuple") (by rfl) X.tup boot_tuple rfl) pa_nil)))))
          (pw_or (pt_cmpR op_ne (pe_callB call_len_seq (by rfl) X.len PySem.boot_len (pa_cons (pv 0) pa_nil)) pe_int (nomark _))
          (pw_or1 (pt_cmpR op_notIn_seq (pe_call GC hr rfl C.g C.F.kp C.b .nil pass0 (pa_cons (pe_ix ix_tup (pv 0) pe_int (fun _ _ => rfl)) (pa_cons (pe_ix ix_tup (pv 0) pe_int (fun _ _ => rfl)) pa_nil))) (pe_tup (pa_cons pe_int (pa_cons (pe_un un_neg pe_int) pa_nil))) rfl)))))
        (pss_one (ps_ret pe_bl)) pss_nil)
      (pss_one (ps_ret (pe_and (pe_cmpR (op_eqD hr.units) (pe_call GL hr rfl L.g L.F.kp L.b .nil pass0 (pa_cons (pv 0) (pa_cons (pe_ix ix_list (pv 1) pe_int (fun _ _ => rfl)) pa_nil))) (pe_ix ix_list (pv 2) pe_int (fun _ _ => rfl)) (nomark _))
        (pe_one (pe_cmpR (op_eqD hr.units) (pe_call GL hr rfl L.g L.F.kp L.b .nil pass0 (pa_cons (pv 0) (pa_cons (pe_ix ix_list (pv 1) pe_int (fun _ _ => rfl)) pa_nil))) (pe_ix ix_list (pv 2) pe_int (fun _ _ => rfl)) (nomark _)))))), ?_⟩
    refine ⟨_, rfl, _, _, _, _, true, rfl, .ty "tuple", .base (.tup ht), kit_ty (by decide +kernel), _, rfl, iteF ?_⟩
    refine ⟨_, rfl, f0, _, rfl, .inr (SqT.of ht), rfl, false, by rfl, iteF ?_⟩
    refine ⟨_, rfl, f0, _, _, _, rfl, rfl, SqT.of ht, at0, _, rfl, f0, _, _, _, rfl, rfl, SqT.of ht, at1, x, y, _, _, rfl, hx, hy, bt.1, ?_⟩
    refine rd_in (K := K) true fun H1 m1 => ⟨_, rfl, ?_⟩
    rw [unB_iff.mpr un]
    refine iteF ?_
    refine ⟨_, rfl, _, rfl, a, _, _, _, rfl, rfl, SqL.of (m1 _ _ ha), at0, f0, a0, t, o, rfl, turn_on m1 gt, pair_on m1 ha0, bt, fun H2 p2 m2 n2 g2 => ?_⟩
    have M2 := m1.trans m2
    refine ⟨_, rfl, b, _, _, _, rfl, rfl, SqL.of (M2 _ _ hb), at0, pD ot, pD ot, e1 ▸ pD_at g2, pD_at (pair_on M2 hb0), rfl, rfl, _, rfl, ?_⟩
    rw [pD_eqv]
    refine iteT ?_
    refine ⟨_, rfl, _, rfl, a, _, _, _, rfl, rfl, SqL.of (M2 _ _ ha), at1, f0, a1, t, r, rfl, turn_on M2 gt, pair_on M2 ha1, bt, fun H3 p3 m3 n3 g3 => ?_⟩
    have M3 := M2.trans m3
    refine ⟨_, rfl, b, _, _, _, rfl, rfl, SqL.of (M3 _ _ hb), at1, pD rt, pD rt, e2 ▸ pD_at g3, pD_at (pair_on M3 hb1), rfl, rfl, ?_⟩
    rw [pD_eqv]
    exact k _ M3
end
end RR
set_option Elab.async false
set_option linter.all false
set_option maxRecDepth 100000
set_option maxHeartbeats 4000000
namespace RR
open PySem PySem.Spec PyProof.Rows L2 HP
theorem lead_bd {m : Int} {o r ot rt : P} (bo : BP m o) (br : BP m r) (bot : BP m ot) (brt : BP m rt) (u : Un (cr o r)) : BT (2 * (m * (2 * (m * 1)))) (lead o r ot rt) := by
  have u0 : cr (o.1, r.1) (o.2, r.2) = cr o r := by simp only [cr]; grind
  have b1 : Bd 1 (cr (o.1, r.1) (o.2, r.2)) := by rw [u0]; exact u.bd
  have b2 : Bd 1 (-cr (o.1, r.1) (o.2, r.2)) := by obtain ⟨x, y⟩ := b1; constructor <;> omega
  have e : 1 * m = m := Int.one_mul m
  have bb : BT m (bck ((o.1, r.1), (o.2, r.2))) := ⟨⟨e ▸ b1.mul br.2, e ▸ b2.mul br.1⟩, e ▸ b2.mul bo.2, e ▸ b1.mul bo.1⟩
  have bt : BT m ((ot.1, rt.1), (ot.2, rt.2)) := ⟨⟨bot.1, brt.1⟩, ⟨bot.2, brt.2⟩⟩
  have x := led_bd bt (led_bd bb (show BP 1 (1, 0) from ⟨bd_of (by decide) (by decide), bd_of (by decide) (by decide)⟩))
  have y := led_bd bt (led_bd bb (show BP 1 (0, 1) from ⟨bd_of (by decide) (by decide), bd_of (by decide) (by decide)⟩))
  exact ⟨⟨x.1, y.1⟩, ⟨x.2, y.2⟩⟩
section
variable {P : Program} {w : World} {K : PySem.W.Frag} {mg : Str → Option Value} {base : Heap}
theorem scLaw : FnScope ["_law_script", "_law_k", "_law_bag_here", "_law_one", "_law_other", "_law_turning_here", "_law_found", "_law_flat_here"] ["_law_script"] (defScope sLaw) := ⟨rfl, rfl, rfl, by decide +kernel, rfl, by decide +kernel, by decide +kernel⟩
/-- the defs of the text -/
structure Defs (K : PySem.W.Frag) (mg : Str → Option Value) (F : Nat → Addr) (d : Nat → FuncData) : Prop where
  crossed : Def K mg "crossed" sCrossed ["one", "other"] (F 0) (d 0)
  spans : Def K mg "spans" sSpans ["one", "other"] (F 1) (d 1)
  turned : Def K mg "turned" sTurned ["turning", "pair"] (F 2) (d 2)
  back : Def K mg "back" sBack ["turning"] (F 3) (d 3)
  then_ : Def K mg "then" sThen ["one", "other"] (F 4) (d 4)
  leading : Def K mg "leading" sLeading ["one", "other", "one_to", "other_to"] (F 5) (d 5)
  bag : Def K mg "_law_bag" sBag ["_law_script", "_law_k"] (F 6) (d 6)
  digit : Def K mg "_law_digit" sDigit ["_law_bag_here", "_law_many"] (F 7) (d 7)
  led : Def K mg "_law_led" sLed ["_law_turning_here", "_law_pair"] (F 8) (d 8)
  both : Def K mg "_law_both" sBoth ["_law_one", "_law_other"] (F 9) (d 9)
  turning : Def K mg "_law_turning" sTurning ["_law_bag_here"] (F 10) (d 10)
  classes : Def K mg "_law_classes" sClasses ["_law_e"] (F 11) (d 11)
  two : Def K mg "_law_two" sTwo ["_law_bag_here"] (F 12) (d 12)
  cross : Def K mg "_law_cross" sCross ["_law_one", "_law_other"] (F 13) (d 13)
  flat : Def K mg "_law_flat" sFlat ["_law_bag_here"] (F 14) (d 14)
  refused : Def K mg "_law_refused" sRefused ["_law_some", "_law_others"] (F 15) (d 15)
  leads : Def K mg "_law_leads" sLeads ["_law_found", "_law_one", "_law_other"] (F 16) (d 16)
theorem ok_law {f CT : Addr} {fd : FuncData} {F : Nat → Addr} {d : Nat → FuncData} (D : Fun K "law" "law" sLaw f fd) (X : Txt K mg) (XE : TxtE K mg CT) (C : TxtC K mg CT) (S : Defs K mg F d) : FnOk P w K mg base CX0 5 f fd ["_law_script"] (spLaw K) := by
  have GBag : FnOk P w K mg base CX0 1 (F 6) (d 6) ["_law_script", "_law_k"] (spBag K) := ok_bag S.bag X
  have GTurning : FnOk P w K mg base CX0 3 (F 10) (d 10) ["_law_bag_here"] spTurning := ok_turning S.turning X S.digit S.both S.led
  have GTwo : FnOk P w K mg base CX0 4 (F 12) (d 12) ["_law_bag_here"] spTwo := ok_two S.two S.turning GTurning S.led
  have GLead : FnOk P w K mg base (L2N.CX P w) 3 (F 5) (d 5) ["one", "other", "one_to", "other_to"] (spLeading CT) := ok_leading S.leading XE S.crossed S.spans S.turned S.back S.then_
  have GLeads : FnOk P w K mg base CX0 2 (F 16) (d 16) ["_law_found", "_law_one", "_law_other"] spLeads := ok_leads S.leads X S.cross S.led
  have GLed : FnOk P w K mg base CX0 1 (F 8) (d 8) ["_law_turning_here", "_law_pair"] spTurned := ok_led S.led
  have GFlat : FnOk P w K mg base CX0 2 (F 14) (d 14) ["_law_bag_here"] spFlat := ok_flat S.flat S.digit S.cross
  have GRef : FnOk P w K mg base CX0 4 (F 15) (d 15) ["_law_some", "_law_others"] spRefused := ok_refused S.refused X C S.leading GLead S.classes
  refine D.ok scLaw (fun vs H Q E h => ?_) (fun cdv A outer s H vs Q E hr h => ?_)
  · obtain ⟨a, ns, rfl, _⟩ := h
    rfl
  · obtain ⟨a, ns, rfl, hS, k⟩ := h
    have hr1 : Room 1 _ := hr.mono (by decide)
    have hr2 : Room 2 _ := hr.mono (by decide)
    have hr3 : Room 3 _ := hr.mono (by decide)
    refine ⟨_, pss_cons (ps_for PassesOwn.never rfl (pi_range1 rfl X.range (pa_cons (pe_callB (call_max2 rfl) (by rfl) X.max boot_max (pa_cons pe_int (pa_cons (pe_callB (call_min2 rfl) (by rfl) X.min boot_min (pa_cons pe_int (pa_cons (pe_callB call_len_seq (by rfl) X.len PySem.boot_len (pa_cons (pv 0) pa_nil)) pa_nil))) pa_nil))) pa_nil)) (pg_name (i := 1) scLaw.nd rfl (Or.inl rfl))
        (pss_cons (ps_set (i := 2) scLaw.nd rfl (Or.inl rfl) (pe_call GBag hr1 rfl S.bag.g S.bag.F.kp S.bag.b .nil pass0 (pa_cons (pv 0) (pa_cons (pv 1) pa_nil))))
        (pss_cons (ps_set (i := 3) scLaw.nd rfl (Or.inl rfl) (pe_call GTwo hr rfl S.two.g S.two.F.kp S.two.b .nil pass0 (pa_cons (pv 2) pa_nil)))
        (pss_cons (ps_set (i := 4) scLaw.nd rfl (Or.inl rfl) (pe_call GTwo hr rfl S.two.g S.two.F.kp S.two.b .nil pass0 (pa_cons (pv 2) pa_nil)))
        (pss_cons (ps_set (i := 5) scLaw.nd rfl (Or.inl rfl) (pe_call GTurning hr3 rfl S.turning.g S.turning.F.kp S.turning.b .nil pass0 (pa_cons (pv 2) pa_nil)))
        (pss_cons (ps_set (i := 6) scLaw.nd rfl (Or.inl rfl) (pe_call GLead hr3 rfl S.leading.g S.leading.F.kp S.leading.b .nil passN (pa_cons (pe_ix ix_list (pv 3) pe_int (fun _ _ => rfl)) (pa_cons (pe_ix ix_list (pv 3) pe_int (fun _ _ => rfl)) (pa_cons (pe_ix ix_list (pv 4) pe_int (fun _ _ => rfl)) (pa_cons (pe_ix ix_list (pv 4) pe_int (fun _ _ => rfl)) pa_nil))))))
        (pss_cons (ps_if (PW.pt (pw_or (pt_not (pt_val (pe_call GLeads hr2 rfl S.leads.g S.leads.F.kp S.leads.b .nil pass0 (pa_cons (pv 6) (pa_cons (pv 3) (pa_cons (pv 4) pa_nil))))))
            (pw_or (pt_not (pt_val (pe_callB call_isi (by rfl) X.isi boot_isinstance (pa_cons (pe_ix ix_tup (pv 6) pe_int (fun _ _ => rfl)) (pa_cons (pe_bltn (v := .ty "tuple") (by rfl) X.tup boot_tuple rfl) pa_nil)))))
            (pw_or1 (pt_not (pt_val (pe_callB call_isi (by rfl) X.isi boot_isinstance (pa_cons (pe_ix ix_tup (pv 6) pe_int (fun _ _ => rfl)) (pa_cons (pe_bltn (v := .ty "tuple") (by rfl) X.tup boot_tuple rfl) pa_nil))))))))) (pss_one (ps_ret pe_bl)) pss_nil)
        (pss_cons (ps_if (pt_cmpR (op_neD hr.units) (pe_call GLead hr3 rfl S.leading.g S.leading.F.kp S.leading.b .nil passN (pa_cons (pe_ix ix_list (pv 3) pe_int (fun _ _ => rfl)) (pa_cons (pe_ix ix_list (pv 3) pe_int (fun _ _ => rfl))
            (pa_cons (pe_call GLed hr1 rfl S.led.g S.led.F.kp S.led.b .nil pass0 (pa_cons (pv 5) (pa_cons (pe_ix ix_list (pv 3) pe_int (fun _ _ => rfl)) pa_nil)))
            (pa_cons (pe_call GLed hr1 rfl S.led.g S.led.F.kp S.led.b .nil pass0 (pa_cons (pv 5) (pa_cons (pe_ix ix_list (pv 3) pe_int (fun _ _ => rfl)) pa_nil))) pa_nil))))) (pv 5) (nomark _)) (pss_one (ps_ret pe_bl)) pss_nil)
        (pss_cons (ps_set (i := 7) scLaw.nd rfl (Or.inl rfl) (pe_call GFlat hr2 rfl S.flat.g S.flat.F.kp S.flat.b .nil pass0 (pa_cons (pv 2) pa_nil)))
        (pss_one (ps_if (PW.pt (pw_or (pt_not (pt_val (pe_call GRef hr rfl S.refused.g S.refused.F.kp S.refused.b .nil pass0 (pa_cons (pv 7) (pa_cons (pv 4) pa_nil)))))
            (pw_or (pt_not (pt_val (pe_call GRef hr rfl S.refused.g S.refused.F.kp S.refused.b .nil pass0 (pa_cons (pv 3) (pa_cons (pv 7) pa_nil)))))
            (pw_or1 (pt_not (pt_val (pe_call GRef hr rfl S.refused.g S.refused.F.kp S.refused.b .nil pass0 (pa_cons (pv 7) (pa_cons (pv 7) pa_nil))))))))) (pss_one (ps_ret pe_bl)) pss_nil)))))))))))
      (pss_one (ps_ret pe_bl)), ?_⟩
    refine ⟨_, rfl, a, _, rfl, .inl hS, _, _, rfl, _, _, rfl, _, rfl, ?lo, ?hi, ?_⟩
    case lo => split <;> (try split) <;> omega
    case hi => split <;> (try split) <;> omega
    generalize hn : (if (if ((ns.map V.int).length : Int) < 12 then ((ns.map V.int).length : Int) else 12) > 1 then (if ((ns.map V.int).length : Int) < 12 then ((ns.map V.int).length : Int) else 12) else 1) = n
    have n12 : n.toNat ≤ 12 := by
      rw [← hn]
      split <;> (try split) <;> omega
    refine for_range (lo := 0) (n := n.toNat) (fun i σ H' => ∃ v1 v2 v3 v4 v5 v6 v7 : Option V, σ = [some (.ref a), v1, v2, v3, v4, v5, v6, v7] ∧ SqL K H' a (ns.map V.int))
      ⟨none, none, none, none, none, none, none, rfl, hS⟩ ?_ ?_
    · rintro i σ H0 hi ⟨v1, v2, v3, v4, v5, v6, v7, rfl, h0⟩
      -- the bag, one, other, the turning
      refine ⟨_, rfl, _, rfl, a, ns, (0 : Int) + (i : Nat), rfl, h0, by omega, by omega, fun H1 c m1 n1 b1 => ?_⟩
      refine ⟨_, rfl, c, rfl, b1, fun H2 p o r e2 n2 b2 g2 u2 so sr => ?_⟩
      refine ⟨_, rfl, c, rfl, b2, fun H3 q ot rt e3 n3 b3 g3 u3 sot srt => ?_⟩
      refine ⟨_, rfl, c, rfl, b3, fun H4 x t e4 n4 b4 g4 u4 st => ?_⟩
      have np : p ≠ c := b1.ne n2
      have nq : q ≠ c := b2.ne n3
      have two_p := (e3.trans e4).two b2 np g2
      have two_q := e4.two b3 nq g3
      have gp := two_p
      have gq := two_q
      obtain ⟨o0, r0, hp, hpo, hpr⟩ := two_p
      obtain ⟨ot0, rt0, hq, hqo, hqr⟩ := two_q
      have E4 := e2.trans (e3.trans e4)
      have l : (432 : Int) ≤ big := by decide
      -- found
      refine ⟨_, rfl, p, _, _, _, rfl, rfl, SqL.of hp, at0, _, rfl, p, _, _, _, rfl, rfl, SqL.of hp, at1, _, rfl, q, _, _, _, rfl, rfl, SqL.of hq, at0, _, rfl, q, _, _, _, rfl, rfl, SqL.of hq, at1, ?_⟩
      refine ⟨o0, r0, ot0, rt0, o, r, ot, rt, rfl, hpo, hpr, hqo, hqr, so.mono l, sr.mono l, sot.mono l, srt.mono l, fun _ _ H5 y m5 n5 g5 => ?_, fun z => (z ⟨u2, u3⟩).elim⟩
      -- it leads
      refine ⟨_, rfl, _, rfl, _, rfl, y, p, q, lead o r ot rt, o, r, ot, rt, rfl, g5, two_on m5 gp, two_on m5 gq, (lead_bd so sr sot srt u2).mono (by decide), lead_det u2 u3, lead_one ot rt u2, lead_other ot rt u2, fun H6 m6 => ⟨_, rfl, iteF ?_⟩⟩
      obtain ⟨y0, y1, hy, hy0, hy1⟩ := turn_on m6 g5
      refine ⟨_, rfl, y, _, _, _, rfl, rfl, SqT.of hy, at0, _, _, _, _, true, rfl, .ty "tuple", .base (.tup hy0), kit_ty (by decide +kernel), _, rfl, iteF ?_⟩
      refine ⟨_, rfl, y, _, _, _, rfl, rfl, SqT.of hy, at1, _, _, _, _, true, rfl, .ty "tuple", .base (.tup hy1), kit_ty (by decide +kernel), _, rfl, ?_⟩
      refine iteF ?_
      -- the drawn turning is found again
      have M6 := m5.trans m6
      refine ⟨_, rfl, p, _, _, _, rfl, rfl, SqL.of (M6 _ _ hp), at0, _, rfl, p, _, _, _, rfl, rfl, SqL.of (M6 _ _ hp), at1, ?_⟩
      refine ⟨_, rfl, _, rfl, p, _, _, _, rfl, rfl, SqL.of (M6 _ _ hp), at0, x, o0, t, o, rfl, turn_on M6 g4, pair_on M6 hpo, st.mono (by decide), fun H7 z0 m7 n7 g7 => ?_⟩
      have M7 := M6.trans m7
      refine ⟨_, rfl, _, rfl, p, _, _, _, rfl, rfl, SqL.of (M7 _ _ hp), at1, x, r0, t, r, rfl, turn_on M7 g4, pair_on M7 hpr, st.mono (by decide), fun H8 z1 m8 n8 g8 => ?_⟩
      have M8 := M7.trans m8
      have u8 : Un (cr (led t o) (led t r)) := by
        rw [cr_led]
        exact u4.mul u2
      refine ⟨o0, r0, z0, z1, o, r, led t o, led t r, rfl, pair_on M8 hpo, pair_on M8 hpr, pair_on m8 g7, g8, so.mono l, sr.mono l, (led_bd st so).mono (by decide), (led_bd st sr).mono (by decide), fun _ _ H9 y' m9 n9 g9 => ?_, fun z => (z ⟨u2, u8⟩).elim⟩
      have M9 := M8.trans m9
      rw [lead_self t u2] at g9
      refine ⟨_, rfl, tD t, tD t, tD_at g9, tD_at (turn_on M9 g4), rfl, rfl, _, rfl, ?_⟩
      rw [tD_eqv]
      refine iteF ?_
      -- pairs that do not span
      have b9 := bag_on M9 b4
      refine ⟨_, rfl, c, rfl, b9, fun H10 v fo fr e10 n10 b10 g10 u10 sfo sfr => ?_⟩
      have gp10 := e10.two b9 np (two_on M9 gp)
      have gq10 := e10.two b9 nq (two_on M9 gq)
      have l' : (2000000 : Int) ≤ big := by decide
      refine ⟨_, rfl, _, rfl, v, q, fo, fr, ot, rt, rfl, g10, gq10, sfo.mono l', sfr.mono l', sot.mono l, srt.mono l, (fun z => u10 z.1), fun H11 m11 => ⟨_, rfl, iteF ?_⟩⟩
      refine ⟨_, rfl, _, rfl, p, v, o, r, fo, fr, rfl, two_on m11 gp10, two_on m11 g10, so.mono l, sr.mono l, sfo.mono l', sfr.mono l', (fun z => u10 z.2), fun H12 m12 => ⟨_, rfl, iteF ?_⟩⟩
      have M12 := m11.trans m12
      refine ⟨_, rfl, _, rfl, v, v, fo, fr, fo, fr, rfl, two_on M12 g10, two_on M12 g10, sfo.mono l', sfr.mono l', sfo.mono l', sfr.mono l', (fun z => u10 z.1), fun H13 m13 => ⟨_, rfl, ?_⟩⟩
      refine iteF ?_
      refine ⟨_, _, _, _, _, _, _, rfl, ?_⟩
      have E13 := E4.trans ((But.of M9).trans (e10.trans (But.of (M12.trans m13))))
      exact Same.seq (But.same m1 n1 E13) h0
    · rintro σ H3 ⟨v1, v2, v3, v4, v5, v6, v7, rfl, h3⟩
      exact k _
end
end RR
set_option Elab.async false
set_option linter.all false
set_option maxRecDepth 100000
set_option maxHeartbeats 4000000
namespace RR
open PySem PySem.Spec PyProof.Rows L2 HP
theorem def_of {K : PySem.W.Frag} {mg : Str → Option Value} {h : Heap} {x : Str} {st : Stmt} {ps : List Str} {f : Addr} {fd : FuncData} (X : K.In h) (G : h.Ns mainGlobals mg) (a : PySem.W.nsIn K mainGlobals x = some (some (.ref f))) (F : Fun K x x st f fd)
    (hb : ∀ (kV doc pm : Value) (an : Option Addr) (cdv ct : Value) (us : List Value), us.length = ps.length → bindArgs (PySem.W.fnOf x x (defArgs st) (defBody st) (defScope st) .none kV doc pm an cdv ct) ⟨us, []⟩ = pure (ps.zip us)) : Def K mg x st ps f fd :=
  ⟨F, PySem.W.mg_of X G a, F.binds hb⟩
theorem all_mk {P : Program} {w : World} {K : PySem.W.Frag} {h : Heap} {mg : Str → Option Value} {fa CT CR f0 f1 f2 f3 f4 f5 f6 f7 f8 f9 f10 f11 f12 f13 f14 f15 f16 f17 c0 c2 c3 c4 c5 c6 c7 c8 c9 c10 c11 c12 c13 c14 : Addr} (X : K.In h) (G : h.Ns mainGlobals mg) (hfa : mg "law" = some (.ref fa))
    {od0 an0 : Option Addr} {sl0 : Array (Option Value)} {oc0 kV0 dc0 pm0 cd0 ct0 : Value}
    (a0 : PySem.W.nsIn K mainGlobals "crossed" = some (some (.ref f0))) (l0 : K.lookup f0 = some ⟨oc0, od0, .func (PySem.W.fnOf "crossed" "crossed" (defArgs sCrossed) (defBody sCrossed) (defScope sCrossed) .none kV0 dc0 pm0 an0 cd0 ct0), sl0⟩) (e0 : PySem.W.codeIn K cd0 "crossed" = true) (k0 : PySem.W.keepIn K (.ref f0) = true)
    {od1 an1 : Option Addr} {sl1 : Array (Option Value)} {oc1 kV1 dc1 pm1 cd1 ct1 : Value}
    (a1 : PySem.W.nsIn K mainGlobals "spans" = some (some (.ref f1))) (l1 : K.lookup f1 = some ⟨oc1, od1, .func (PySem.W.fnOf "spans" "spans" (defArgs sSpans) (defBody sSpans) (defScope sSpans) .none kV1 dc1 pm1 an1 cd1 ct1), sl1⟩) (e1 : PySem.W.codeIn K cd1 "spans" = true) (k1 : PySem.W.keepIn K (.ref f1) = true)
    {od2 an2 : Option Addr} {sl2 : Array (Option Value)} {oc2 kV2 dc2 pm2 cd2 ct2 : Value}
    (a2 : PySem.W.nsIn K mainGlobals "turned" = some (some (.ref f2))) (l2 : K.lookup f2 = some ⟨oc2, od2, .func (PySem.W.fnOf "turned" "turned" (defArgs sTurned) (defBody sTurned) (defScope sTurned) .none kV2 dc2 pm2 an2 cd2 ct2), sl2⟩) (e2 : PySem.W.codeIn K cd2 "turned" = true) (k2 : PySem.W.keepIn K (.ref f2) = true)
    {od3 an3 : Option Addr} {sl3 : Array (Option Value)} {oc3 kV3 dc3 pm3 cd3 ct3 : Value}
    (a3 : PySem.W.nsIn K mainGlobals "back" = some (some (.ref f3))) (l3 : K.lookup f3 = some ⟨oc3, od3, .func (PySem.W.fnOf "back" "back" (defArgs sBack) (defBody sBack) (defScope sBack) .none kV3 dc3 pm3 an3 cd3 ct3), sl3⟩) (e3 : PySem.W.codeIn K cd3 "back" = true) (k3 : PySem.W.keepIn K (.ref f3) = true)
    {od4 an4 : Option Addr} {sl4 : Array (Option Value)} {oc4 kV4 dc4 pm4 cd4 ct4 : Value}
    (a4 : PySem.W.nsIn K mainGlobals "then" = some (some (.ref f4))) (l4 : K.lookup f4 = some ⟨oc4, od4, .func (PySem.W.fnOf "then" "then" (defArgs sThen) (defBody sThen) (defScope sThen) .none kV4 dc4 pm4 an4 cd4 ct4), sl4⟩) (e4 : PySem.W.codeIn K cd4 "then" = true) (k4 : PySem.W.keepIn K (.ref f4) = true)
    {od5 an5 : Option Addr} {sl5 : Array (Option Value)} {oc5 kV5 dc5 pm5 cd5 ct5 : Value}
    (a5 : PySem.W.nsIn K mainGlobals "leading" = some (some (.ref f5))) (l5 : K.lookup f5 = some ⟨oc5, od5, .func (PySem.W.fnOf "leading" "leading" (defArgs sLeading) (defBody sLeading) (defScope sLeading) .none kV5 dc5 pm5 an5 cd5 ct5), sl5⟩) (e5 : PySem.W.codeIn K cd5 "leading" = true) (k5 : PySem.W.keepIn K (.ref f5) = true)
    {od6 an6 : Option Addr} {sl6 : Array (Option Value)} {oc6 kV6 dc6 pm6 cd6 ct6 : Value}
    (a6 : PySem.W.nsIn K mainGlobals "_law_bag" = some (some (.ref f6))) (l6 : K.lookup f6 = some ⟨oc6, od6, .func (PySem.W.fnOf "_law_bag" "_law_bag" (defArgs sBag) (defBody sBag) (defScope sBag) .none kV6 dc6 pm6 an6 cd6 ct6), sl6⟩) (e6 : PySem.W.codeIn K cd6 "_law_bag" = true) (k6 : PySem.W.keepIn K (.ref f6) = true)
    {od7 an7 : Option Addr} {sl7 : Array (Option Value)} {oc7 kV7 dc7 pm7 cd7 ct7 : Value}
    (a7 : PySem.W.nsIn K mainGlobals "_law_digit" = some (some (.ref f7))) (l7 : K.lookup f7 = some ⟨oc7, od7, .func (PySem.W.fnOf "_law_digit" "_law_digit" (defArgs sDigit) (defBody sDigit) (defScope sDigit) .none kV7 dc7 pm7 an7 cd7 ct7), sl7⟩) (e7 : PySem.W.codeIn K cd7 "_law_digit" = true) (k7 : PySem.W.keepIn K (.ref f7) = true)
    {od8 an8 : Option Addr} {sl8 : Array (Option Value)} {oc8 kV8 dc8 pm8 cd8 ct8 : Value}
    (a8 : PySem.W.nsIn K mainGlobals "_law_led" = some (some (.ref f8))) (l8 : K.lookup f8 = some ⟨oc8, od8, .func (PySem.W.fnOf "_law_led" "_law_led" (defArgs sLed) (defBody sLed) (defScope sLed) .none kV8 dc8 pm8 an8 cd8 ct8), sl8⟩) (e8 : PySem.W.codeIn K cd8 "_law_led" = true) (k8 : PySem.W.keepIn K (.ref f8) = true)
    {od9 an9 : Option Addr} {sl9 : Array (Option Value)} {oc9 kV9 dc9 pm9 cd9 ct9 : Value}
    (a9 : PySem.W.nsIn K mainGlobals "_law_both" = some (some (.ref f9))) (l9 : K.lookup f9 = some ⟨oc9, od9, .func (PySem.W.fnOf "_law_both" "_law_both" (defArgs sBoth) (defBody sBoth) (defScope sBoth) .none kV9 dc9 pm9 an9 cd9 ct9), sl9⟩) (e9 : PySem.W.codeIn K cd9 "_law_both" = true) (k9 : PySem.W.keepIn K (.ref f9) = true)
    {od10 an10 : Option Addr} {sl10 : Array (Option Value)} {oc10 kV10 dc10 pm10 cd10 ct10 : Value}
    (a10 : PySem.W.nsIn K mainGlobals "_law_turning" = some (some (.ref f10))) (l10 : K.lookup f10 = some ⟨oc10, od10, .func (PySem.W.fnOf "_law_turning" "_law_turning" (defArgs sTurning) (defBody sTurning) (defScope sTurning) .none kV10 dc10 pm10 an10 cd10 ct10), sl10⟩) (e10 : PySem.W.codeIn K cd10 "_law_turning" = true) (k10 : PySem.W.keepIn K (.ref f10) = true)
    {od11 an11 : Option Addr} {sl11 : Array (Option Value)} {oc11 kV11 dc11 pm11 cd11 ct11 : Value}
    (a11 : PySem.W.nsIn K mainGlobals "_law_classes" = some (some (.ref f11))) (l11 : K.lookup f11 = some ⟨oc11, od11, .func (PySem.W.fnOf "_law_classes" "_law_classes" (defArgs sClasses) (defBody sClasses) (defScope sClasses) .none kV11 dc11 pm11 an11 cd11 ct11), sl11⟩) (e11 : PySem.W.codeIn K cd11 "_law_classes" = true) (k11 : PySem.W.keepIn K (.ref f11) = true)
    {od12 an12 : Option Addr} {sl12 : Array (Option Value)} {oc12 kV12 dc12 pm12 cd12 ct12 : Value}
    (a12 : PySem.W.nsIn K mainGlobals "_law_two" = some (some (.ref f12))) (l12 : K.lookup f12 = some ⟨oc12, od12, .func (PySem.W.fnOf "_law_two" "_law_two" (defArgs sTwo) (defBody sTwo) (defScope sTwo) .none kV12 dc12 pm12 an12 cd12 ct12), sl12⟩) (e12 : PySem.W.codeIn K cd12 "_law_two" = true) (k12 : PySem.W.keepIn K (.ref f12) = true)
    {od13 an13 : Option Addr} {sl13 : Array (Option Value)} {oc13 kV13 dc13 pm13 cd13 ct13 : Value}
    (a13 : PySem.W.nsIn K mainGlobals "_law_cross" = some (some (.ref f13))) (l13 : K.lookup f13 = some ⟨oc13, od13, .func (PySem.W.fnOf "_law_cross" "_law_cross" (defArgs sCross) (defBody sCross) (defScope sCross) .none kV13 dc13 pm13 an13 cd13 ct13), sl13⟩) (e13 : PySem.W.codeIn K cd13 "_law_cross" = true) (k13 : PySem.W.keepIn K (.ref f13) = true)
    {od14 an14 : Option Addr} {sl14 : Array (Option Value)} {oc14 kV14 dc14 pm14 cd14 ct14 : Value}
    (a14 : PySem.W.nsIn K mainGlobals "_law_flat" = some (some (.ref f14))) (l14 : K.lookup f14 = some ⟨oc14, od14, .func (PySem.W.fnOf "_law_flat" "_law_flat" (defArgs sFlat) (defBody sFlat) (defScope sFlat) .none kV14 dc14 pm14 an14 cd14 ct14), sl14⟩) (e14 : PySem.W.codeIn K cd14 "_law_flat" = true) (k14 : PySem.W.keepIn K (.ref f14) = true)
    {od15 an15 : Option Addr} {sl15 : Array (Option Value)} {oc15 kV15 dc15 pm15 cd15 ct15 : Value}
    (a15 : PySem.W.nsIn K mainGlobals "_law_refused" = some (some (.ref f15))) (l15 : K.lookup f15 = some ⟨oc15, od15, .func (PySem.W.fnOf "_law_refused" "_law_refused" (defArgs sRefused) (defBody sRefused) (defScope sRefused) .none kV15 dc15 pm15 an15 cd15 ct15), sl15⟩) (e15 : PySem.W.codeIn K cd15 "_law_refused" = true) (k15 : PySem.W.keepIn K (.ref f15) = true)
    {od16 an16 : Option Addr} {sl16 : Array (Option Value)} {oc16 kV16 dc16 pm16 cd16 ct16 : Value}
    (a16 : PySem.W.nsIn K mainGlobals "_law_leads" = some (some (.ref f16))) (l16 : K.lookup f16 = some ⟨oc16, od16, .func (PySem.W.fnOf "_law_leads" "_law_leads" (defArgs sLeads) (defBody sLeads) (defScope sLeads) .none kV16 dc16 pm16 an16 cd16 ct16), sl16⟩) (e16 : PySem.W.codeIn K cd16 "_law_leads" = true) (k16 : PySem.W.keepIn K (.ref f16) = true)
    {od17 an17 : Option Addr} {sl17 : Array (Option Value)} {oc17 kV17 dc17 pm17 cd17 ct17 : Value}
    (a17 : PySem.W.nsIn K mainGlobals "law" = some (some (.ref f17))) (l17 : K.lookup f17 = some ⟨oc17, od17, .func (PySem.W.fnOf "law" "law" (defArgs sLaw) (defBody sLaw) (defScope sLaw) .none kV17 dc17 pm17 an17 cd17 ct17), sl17⟩) (e17 : PySem.W.codeIn K cd17 "law" = true) (k17 : PySem.W.keepIn K (.ref f17) = true)
    (aT : PySem.W.nsIn K mainGlobals "NoTurning" = some (some (.ref CT))) (xT : PySem.W.excIn K CT [.type "ValueError", .type "Exception", .type "BaseException", .type "object"] "ValueError.__new__" = true) (kT : PySem.W.keepIn K (.ref CT) = true) (bT : PySem.W.subIn K (.ref CT) (.type "BaseException") = some true) (tT : PySem.W.typeIn K (.ref CT) = some (.type "type"))
    (gaT : PySem.W.findIn K (.ref CT) "__getattribute__" = some (some (.builtin "BaseException.__getattribute__"))) (ggT : PySem.W.findIn K (.ref CT) "__getattr__" = some none) (hdT : PySem.W.hasDictIn K CT = true) (clT : PySem.W.findIn K (.ref CT) "__class__" = some (some (.builtin "object.__class__")))
    (spT : PySem.W.specialIn K (.builtin "object.__class__") "__get__" = some (some (.builtin "getset_descriptor.__get__"))) (tkT : PySem.W.takesIn K (.builtin "object.__class__") = some true) (moT : PySem.W.mroIn K CT (.type "object") = some true)
    (kiV : PySem.W.kitOne K (.ref CT) (.type "ValueError") = some true) (kiT : PySem.W.kitOne K (.ref CT) (.ref CT) = some true)
    (ac0 : PySem.W.nsIn K mainGlobals "NoRatio" = some (some (.ref c0))) (ki0 : PySem.W.kitOne K (.ref CT) (.ref c0) = some false)
    (ac2 : PySem.W.nsIn K mainGlobals "NoRound" = some (some (.ref c2))) (ki2 : PySem.W.kitOne K (.ref CT) (.ref c2) = some false)
    (ac3 : PySem.W.nsIn K mainGlobals "NotSmooth" = some (some (.ref c3))) (ki3 : PySem.W.kitOne K (.ref CT) (.ref c3) = some false)
    (ac4 : PySem.W.nsIn K mainGlobals "NoWedge" = some (some (.ref c4))) (ki4 : PySem.W.kitOne K (.ref CT) (.ref c4) = some false)
    (ac5 : PySem.W.nsIn K mainGlobals "NoRow" = some (some (.ref c5))) (ki5 : PySem.W.kitOne K (.ref CT) (.ref c5) = some false)
    (ac6 : PySem.W.nsIn K mainGlobals "NoPlace" = some (some (.ref c6))) (ki6 : PySem.W.kitOne K (.ref CT) (.ref c6) = some false)
    (ac7 : PySem.W.nsIn K mainGlobals "NoMinus" = some (some (.ref c7))) (ki7 : PySem.W.kitOne K (.ref CT) (.ref c7) = some false)
    (ac8 : PySem.W.nsIn K mainGlobals "NoFour" = some (some (.ref c8))) (ki8 : PySem.W.kitOne K (.ref CT) (.ref c8) = some false)
    (ac9 : PySem.W.nsIn K mainGlobals "NoHeight" = some (some (.ref c9))) (ki9 : PySem.W.kitOne K (.ref CT) (.ref c9) = some false)
    (ac10 : PySem.W.nsIn K mainGlobals "NoBend" = some (some (.ref c10))) (ki10 : PySem.W.kitOne K (.ref CT) (.ref c10) = some false)
    (ac11 : PySem.W.nsIn K mainGlobals "NoBody" = some (some (.ref c11))) (ki11 : PySem.W.kitOne K (.ref CT) (.ref c11) = some false)
    (ac12 : PySem.W.nsIn K mainGlobals "NoOne" = some (some (.ref c12))) (ki12 : PySem.W.kitOne K (.ref CT) (.ref c12) = some false)
    (ac13 : PySem.W.nsIn K mainGlobals "NoText" = some (some (.ref c13))) (ki13 : PySem.W.kitOne K (.ref CT) (.ref c13) = some false)
    (ac14 : PySem.W.nsIn K mainGlobals "Unknown" = some (some (.ref c14))) (ki14 : PySem.W.kitOne K (.ref CT) (.ref c14) = some false)
    (aR : PySem.W.nsIn K mainGlobals "RayError" = some (some (.ref CR))) (bR : PySem.W.subIn K (.ref CR) (.type "BaseException") = some true) (hR : PySem.W.hasDictIn K CR = true) (tR : PySem.W.typeIn K (.ref CR) = some (.type "type")) (sR : PySem.W.subIn K (.ref CT) (.ref CR) = some true)
    (z0 : PySem.W.nsIn K mainGlobals "len" = some none) (z1 : PySem.W.nsIn K mainGlobals "abs" = some none) (z2 : PySem.W.nsIn K mainGlobals "int" = some none) (z3 : PySem.W.nsIn K mainGlobals "range" = some none) (z4 : PySem.W.nsIn K mainGlobals "max" = some none) (z5 : PySem.W.nsIn K mainGlobals "min" = some none) (z6 : PySem.W.nsIn K mainGlobals "isinstance" = some none) (z7 : PySem.W.nsIn K mainGlobals "tuple" = some none) (z8 : PySem.W.nsIn K mainGlobals "ValueError" = some none) :
    ∃ fd : FuncData, (∀ (s : Shared) (u : Value), BindsTo s fd ⟨[u], []⟩ [("_law_script", u)]) ∧ ∀ base : Heap, K.In base → base.Ns mainGlobals mg → FnOk P w K mg base CX0 5 fa fd ["_law_script"] (spLaw K) := by
  have e := hfa.symm.trans (PySem.W.mg_of X G a17)
  cases e
  have T : Txt K mg := ⟨PySem.W.mg_none_of X G z0, PySem.W.mg_none_of X G z1, PySem.W.mg_none_of X G z2, PySem.W.mg_none_of X G z3, PySem.W.mg_none_of X G z4, PySem.W.mg_none_of X G z5, PySem.W.mg_none_of X G z6, PySem.W.mg_none_of X G z7, PySem.W.mg_none_of X G z8⟩
  have XE : TxtE K mg CT := ⟨PySem.W.mg_of X G aT, xT, kT, bT, tT⟩
  have C : TxtC K mg CT := ⟨⟨gaT, ggT, bT, hdT, clT, spT, tkT, moT⟩, kiV, ⟨c0, PySem.W.mg_of X G ac0, ki0⟩, ⟨CT, PySem.W.mg_of X G aT, kiT⟩, ⟨c2, PySem.W.mg_of X G ac2, ki2⟩, ⟨c3, PySem.W.mg_of X G ac3, ki3⟩, ⟨c4, PySem.W.mg_of X G ac4, ki4⟩, ⟨c5, PySem.W.mg_of X G ac5, ki5⟩, ⟨c6, PySem.W.mg_of X G ac6, ki6⟩, ⟨c7, PySem.W.mg_of X G ac7, ki7⟩, ⟨c8, PySem.W.mg_of X G ac8, ki8⟩, ⟨c9, PySem.W.mg_of X G ac9, ki9⟩, ⟨c10, PySem.W.mg_of X G ac10, ki10⟩, ⟨c11, PySem.W.mg_of X G ac11, ki11⟩, ⟨c12, PySem.W.mg_of X G ac12, ki12⟩, ⟨c13, PySem.W.mg_of X G ac13, ki13⟩, ⟨c14, PySem.W.mg_of X G ac14, ki14⟩, ⟨CR, PySem.W.mg_of X G aR, PySem.W.exm_ref bR hR tR sR⟩⟩
  have D0 := def_of (ps := ["one", "other"]) X G a0 (fun_mk (st := sCrossed) l0 e0 k0) fun _ _ _ _ _ _ us hl => match us, hl with | [_, _], _ => rfl
  have D1 := def_of (ps := ["one", "other"]) X G a1 (fun_mk (st := sSpans) l1 e1 k1) fun _ _ _ _ _ _ us hl => match us, hl with | [_, _], _ => rfl
  have D2 := def_of (ps := ["turning", "pair"]) X G a2 (fun_mk (st := sTurned) l2 e2 k2) fun _ _ _ _ _ _ us hl => match us, hl with | [_, _], _ => rfl
  have D3 := def_of (ps := ["turning"]) X G a3 (fun_mk (st := sBack) l3 e3 k3) fun _ _ _ _ _ _ us hl => match us, hl with | [_], _ => rfl
  have D4 := def_of (ps := ["one", "other"]) X G a4 (fun_mk (st := sThen) l4 e4 k4) fun _ _ _ _ _ _ us hl => match us, hl with | [_, _], _ => rfl
  have D5 := def_of (ps := ["one", "other", "one_to", "other_to"]) X G a5 (fun_mk (st := sLeading) l5 e5 k5) fun _ _ _ _ _ _ us hl => match us, hl with | [_, _, _, _], _ => rfl
  have D6 := def_of (ps := ["_law_script", "_law_k"]) X G a6 (fun_mk (st := sBag) l6 e6 k6) fun _ _ _ _ _ _ us hl => match us, hl with | [_, _], _ => rfl
  have D7 := def_of (ps := ["_law_bag_here", "_law_many"]) X G a7 (fun_mk (st := sDigit) l7 e7 k7) fun _ _ _ _ _ _ us hl => match us, hl with | [_, _], _ => rfl
  have D8 := def_of (ps := ["_law_turning_here", "_law_pair"]) X G a8 (fun_mk (st := sLed) l8 e8 k8) fun _ _ _ _ _ _ us hl => match us, hl with | [_, _], _ => rfl
  have D9 := def_of (ps := ["_law_one", "_law_other"]) X G a9 (fun_mk (st := sBoth) l9 e9 k9) fun _ _ _ _ _ _ us hl => match us, hl with | [_, _], _ => rfl
  have D10 := def_of (ps := ["_law_bag_here"]) X G a10 (fun_mk (st := sTurning) l10 e10 k10) fun _ _ _ _ _ _ us hl => match us, hl with | [_], _ => rfl
  have D11 := def_of (ps := ["_law_e"]) X G a11 (fun_mk (st := sClasses) l11 e11 k11) fun _ _ _ _ _ _ us hl => match us, hl with | [_], _ => rfl
  have D12 := def_of (ps := ["_law_bag_here"]) X G a12 (fun_mk (st := sTwo) l12 e12 k12) fun _ _ _ _ _ _ us hl => match us, hl with | [_], _ => rfl
  have D13 := def_of (ps := ["_law_one", "_law_other"]) X G a13 (fun_mk (st := sCross) l13 e13 k13) fun _ _ _ _ _ _ us hl => match us, hl with | [_, _], _ => rfl
  have D14 := def_of (ps := ["_law_bag_here"]) X G a14 (fun_mk (st := sFlat) l14 e14 k14) fun _ _ _ _ _ _ us hl => match us, hl with | [_], _ => rfl
  have D15 := def_of (ps := ["_law_some", "_law_others"]) X G a15 (fun_mk (st := sRefused) l15 e15 k15) fun _ _ _ _ _ _ us hl => match us, hl with | [_, _], _ => rfl
  have D16 := def_of (ps := ["_law_found", "_law_one", "_law_other"]) X G a16 (fun_mk (st := sLeads) l16 e16 k16) fun _ _ _ _ _ _ us hl => match us, hl with | [_, _, _], _ => rfl
  have S : Defs K mg (fun i => [f0, f1, f2, f3, f4, f5, f6, f7, f8, f9, f10, f11, f12, f13, f14, f15, f16].getD i 0) (fun i => [PySem.W.fnOf "crossed" "crossed" (defArgs sCrossed) (defBody sCrossed) (defScope sCrossed) .none kV0 dc0 pm0 an0 cd0 ct0, PySem.W.fnOf "spans" "spans" (defArgs sSpans) (defBody sSpans) (defScope sSpans) .none kV1 dc1 pm1 an1 cd1 ct1, PySem.W.fnOf "turned" "turned" (defArgs sTurned) (defBody sTurned) (defScope sTurned) .none kV2 dc2 pm2 an2 cd2 ct2, PySem.W.fnOf "back" "back" (defArgs sBack) (defBody sBack) (defScope sBack) .none kV3 dc3 pm3 an3 cd3 ct3, PySem.W.fnOf "then" "then" (defArgs sThen) (defBody sThen) (defScope sThen) .none kV4 dc4 pm4 an4 cd4 ct4, PySem.W.fnOf "leading" "leading" (defArgs sLeading) (defBody sLeading) (defScope sLeading) .none kV5 dc5 pm5 an5 cd5 ct5, PySem.W.fnOf "_law_bag" "_law_bag" (defArgs sBag) (defBody sBag) (defScope sBag) .none kV6 dc6 pm6 an6 cd6 ct6, PySem.W.fnOf "_law_digit" "_law_digit" (defArgs sDigit) (defBody sDigit) (defScope sDigit) .none kV7 dc7 pm7 an7 cd7 ct7, PySem.W.fnOf "_law_led" "_law_led" (defArgs sLed) (defBody sLed) (defScope sLed) .none kV8 dc8 pm8 an8 cd8 ct8, PySem.W.fnOf "_law_both" "_law_both" (defArgs sBoth) (defBody sBoth) (defScope sBoth) .none kV9 dc9 pm9 an9 cd9 ct9, PySem.W.fnOf "_law_turning" "_law_turning" (defArgs sTurning) (defBody sTurning) (defScope sTurning) .none kV10 dc10 pm10 an10 cd10 ct10, PySem.W.fnOf "_law_classes" "_law_classes" (defArgs sClasses) (defBody sClasses) (defScope sClasses) .none kV11 dc11 pm11 an11 cd11 ct11, PySem.W.fnOf "_law_two" "_law_two" (defArgs sTwo) (defBody sTwo) (defScope sTwo) .none kV12 dc12 pm12 an12 cd12 ct12, PySem.W.fnOf "_law_cross" "_law_cross" (defArgs sCross) (defBody sCross) (defScope sCross) .none kV13 dc13 pm13 an13 cd13 ct13, PySem.W.fnOf "_law_flat" "_law_flat" (defArgs sFlat) (defBody sFlat) (defScope sFlat) .none kV14 dc14 pm14 an14 cd14 ct14, PySem.W.fnOf "_law_refused" "_law_refused" (defArgs sRefused) (defBody sRefused) (defScope sRefused) .none kV15 dc15 pm15 an15 cd15 ct15, PySem.W.fnOf "_law_leads" "_law_leads" (defArgs sLeads) (defBody sLeads) (defScope sLeads) .none kV16 dc16 pm16 an16 cd16 ct16].getD i (PySem.W.fnOf "law" "law" (defArgs sLaw) (defBody sLaw) (defScope sLaw) .none kV17 dc17 pm17 an17 cd17 ct17)) := ⟨D0, D1, D2, D3, D4, D5, D6, D7, D8, D9, D10, D11, D12, D13, D14, D15, D16⟩
  exact ⟨PySem.W.fnOf "law" "law" (defArgs sLaw) (defBody sLaw) (defScope sLaw) .none kV17 dc17 pm17 an17 cd17 ct17, fun s u => .of_eq rfl, fun base _ _ => ok_law (fun_mk (st := sLaw) l17 e17 k17) T XE C S⟩
theorem walk {l : PySem.W.OpenLaw} {q : Program} {loose : List Str} {XP : (Str → Option Value) → Heap → Prop} {YP : World → Heap → Prop} {d : DefRec} {K : Params → PySem.W.Frag} (hn : l.most = some 63) (hdf : d.params.defaults = [])
    (hY : ∀ (w : World) (h : Heap), YP w h → (K w.params).In h)
    (F : ∀ (w : World) (mg : Str → Option Value) (fa : Addr) (h : Heap), (K w.params).In h → h.Ns mainGlobals mg → mg d.name = some (.ref fa) →
      ∃ fd : FuncData, (∀ (s : Shared) (u : Value), BindsTo s fd ⟨[u], []⟩ [("_law_script", u)]) ∧ ∀ base : Heap, (K w.params).In base → base.Ns mainGlobals mg → FnOk l.prog w (K w.params) mg base CX0 5 fa fd ["_law_script"] (spLaw (K w.params))) :
    PySem.W.WalkO q loose XP YP l.row.toRowW d [] (fun f vs => PySem.call f vs) :=
  L2.walk_of (n := 63) (k := 5) (x := "_law_script") (CX := fun _ => CX0) (sp := fun w => spLaw (K w.params)) hn (by decide) hdf ⟨rfl, by decide, by decide⟩ hY F (fun _ _ a ns _ _ hS => ⟨a, ns, rfl, hS, fun _ => rfl⟩) fun _ _ _ _ _ z => z
end RR
open PySem PySem.W PyProof.Rows in
set_option maxRecDepth 100000 in
set_option maxHeartbeats 0 in
theorem PySem.Challenge.cw_rayround_k05_whole_leading_holds : PySem.Challenge.rw_rayround_k05_whole_leading.Holds := by
  w_on; o_law; k_head; (case hw => w_witness2)
  k_fill
  refine RR.walk (l := PySem.Challenge.rw_rayround_k05_whole_leading) rfl rfl (fun w h Y => PySem.W.kIn_of Y) ?F
  case F =>
    intro w mg fa h KX G hmg
    refine' RR.all_mk KX G hmg ?a0 ?l0 ?e0 ?k0 ?a1 ?l1 ?e1 ?k1 ?a2 ?l2 ?e2 ?k2 ?a3 ?l3 ?e3 ?k3 ?a4 ?l4 ?e4 ?k4 ?a5 ?l5 ?e5 ?k5 ?a6 ?l6 ?e6 ?k6 ?a7 ?l7 ?e7 ?k7 ?a8 ?l8 ?e8 ?k8 ?a9 ?l9 ?e9 ?k9 ?a10 ?l10 ?e10 ?k10 ?a11 ?l11 ?e11 ?k11 ?a12 ?l12 ?e12 ?k12 ?a13 ?l13 ?e13 ?k13 ?a14 ?l14 ?e14 ?k14 ?a15 ?l15 ?e15 ?k15 ?a16 ?l16 ?e16 ?k16 ?a17 ?l17 ?e17 ?k17 ?aT ?xT ?kT ?bT ?tT ?gaT ?ggT ?hdT ?clT ?spT ?tkT ?moT ?kiV ?kiT ?ac0 ?ki0 ?ac2 ?ki2 ?ac3 ?ki3 ?ac4 ?ki4 ?ac5 ?ki5 ?ac6 ?ki6 ?ac7 ?ki7 ?ac8 ?ki8 ?ac9 ?ki9 ?ac10 ?ki10 ?ac11 ?ki11 ?ac12 ?ki12 ?ac13 ?ki13 ?ac14 ?ki14 ?aR ?bR ?hR ?tR ?sR ?z0 ?z1 ?z2 ?z3 ?z4 ?z5 ?z6 ?z7 ?z8
    (case a0 => k_is)
    (case l0 => k_is)
    (case e0 => k_is)
    (case k0 => k_is)
    (case a1 => k_is)
    (case l1 => k_is)
    (case e1 => k_is)
    (case k1 => k_is)
    (case a2 => k_is)
    (case l2 => k_is)
    (case e2 => k_is)
    (case k2 => k_is)
    (case a3 => k_is)
    (case l3 => k_is)
    (case e3 => k_is)
    (case k3 => k_is)
    (case a4 => k_is)
    (case l4 => k_is)
    (case e4 => k_is)
    (case k4 => k_is)
    (case a5 => k_is)
    (case l5 => k_is)
    (case e5 => k_is)
    (case k5 => k_is)
    (case a6 => k_is)
    (case l6 => k_is)
    (case e6 => k_is)
    (case k6 => k_is)
    (case a7 => k_is)
    (case l7 => k_is)
    (case e7 => k_is)
    (case k7 => k_is)
    (case a8 => k_is)
    (case l8 => k_is)
    (case e8 => k_is)
    (case k8 => k_is)
    (case a9 => k_is)
    (case l9 => k_is)
    (case e9 => k_is)
    (case k9 => k_is)
    (case a10 => k_is)
    (case l10 => k_is)
    (case e10 => k_is)
    (case k10 => k_is)
    (case a11 => k_is)
    (case l11 => k_is)
    (case e11 => k_is)
    (case k11 => k_is)
    (case a12 => k_is)
    (case l12 => k_is)
    (case e12 => k_is)
    (case k12 => k_is)
    (case a13 => k_is)
    (case l13 => k_is)
    (case e13 => k_is)
    (case k13 => k_is)
    (case a14 => k_is)
    (case l14 => k_is)
    (case e14 => k_is)
    (case k14 => k_is)
    (case a15 => k_is)
    (case l15 => k_is)
    (case e15 => k_is)
    (case k15 => k_is)
    (case a16 => k_is)
    (case l16 => k_is)
    (case e16 => k_is)
    (case k16 => k_is)
    (case a17 => k_is)
    (case l17 => k_is)
    (case e17 => k_is)
    (case k17 => k_is)
    (case aT => k_is)
    (case xT => k_exc)
    (case kT => k_is)
    (case bT => k_is)
    (case tT => k_is)
    (case gaT => k_is)
    (case ggT => k_is)
    (case hdT => k_is)
    (case clT => k_is)
    (case spT => k_is)
    (case tkT => k_is)
    (case moT => k_is)
    (case kiV => kit_is)
    (case kiT => kit_is)
    (case ac0 => k_is)
    (case ki0 => kit_is)
    (case ac2 => k_is)
    (case ki2 => kit_is)
    (case ac3 => k_is)
    (case ki3 => kit_is)
    (case ac4 => k_is)
    (case ki4 => kit_is)
    (case ac5 => k_is)
    (case ki5 => kit_is)
    (case ac6 => k_is)
    (case ki6 => kit_is)
    (case ac7 => k_is)
    (case ki7 => kit_is)
    (case ac8 => k_is)
    (case ki8 => kit_is)
    (case ac9 => k_is)
    (case ki9 => kit_is)
    (case ac10 => k_is)
    (case ki10 => kit_is)
    (case ac11 => k_is)
    (case ki11 => kit_is)
    (case ac12 => k_is)
    (case ki12 => kit_is)
    (case ac13 => k_is)
    (case ki13 => kit_is)
    (case ac14 => k_is)
    (case ki14 => kit_is)
    (case aR => k_is)
    (case bR => k_is)
    (case hR => k_is)
    (case tR => k_is)
    (case sR => k_is)
    (case z0 => k_is)
    (case z1 => k_is)
    (case z2 => k_is)
    (case z3 => k_is)
    (case z4 => k_is)
    (case z5 => k_is)
    (case z6 => k_is)
    (case z7 => k_is)
    (case z8 => k_is)
#print axioms PySem.Challenge.cw_rayround_k05_whole_leading_holds
