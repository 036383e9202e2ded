import PyProof.Rows.All
import Wide.All
import OpenK.AllK
import Wide.FinOn
import HandS.ForMost
import HandS.Flow
import HandS.Evl
import HandS.Defaults
import HandS.Deep
import HandS.Exc
import HandS.TryOnly
import HandS.WordsExc
import HandS.FStr
import HandS.NoneIn
import HandS.Conv
import HandS.CallRecv
import HandS.More
import HandS.TupSets
import KE.SortData
import KE.KDictKeyed
import PySem.Challenge.RW_kerbside_k64_whole_past_does_not_matter
import KE.OsSortAny
import KE.KDictLaw
import HandS.Ends
import HandS.Words
import HandS.Head0
import HandS.Head1
import HandS.Head2
import HandS.HeadEnd
import HandS.HeadHook1
import HandS.HeadHook2
import HandS.HeadHook3
import KE.KStateDown
set_option Elab.async false
set_option linter.all false
set_option maxRecDepth 100000
set_option maxHeartbeats 4000000
/-! K64, the base: the text by places, what a def is (Fd), small steps of readings. -/
namespace Kb
open PySem PySem.Spec PyProof.Rows L2 Evl

/-! ### the text by places -/
def topS (i : Nat) : Stmt := PySem.Challenge.pw_kerbside_k64_whole_past_does_not_matter.main.body.getD i (.Pass ⟨0, 0, 0, 0⟩)
abbrev FnP (K : PySem.W.Frag) (x q : Str) (st : Stmt) (f : Addr) (fd : FuncData) : Prop := FunD K x q (defArgs st) (defBody st) (defScope st) [] [] f fd
/-- a def that keeps its promise, as its callers want it -/
structure Fd (P : Program) (w : World) (K : PySem.W.Frag) (mg : Str → Option Value) (base : Heap) (x : Str) (k : Nat) (ps : List Str) (sp : Sp) : Prop where
  ex : ∃ (f : Addr) (fd : FuncData), FnOk P w K mg base CX0 k f fd ps sp ∧ mg x = some (.ref f) ∧ PySem.W.keepIn K (.ref f) = true ∧ Binds K fd ps []
/-- a method that keeps its promise -/
structure Md (P : Program) (w : World) (K : PySem.W.Frag) (mg : Str → Option Value) (base : Heap) (C : Addr) (m : Str) (k : Nat) (ps : List Str) (sp : Sp) : Prop where
  ex : ∃ (f : Addr) (fd : FuncData), FnOk P w K mg base CX0 k f fd ps sp ∧ Meth K C m f ∧ Binds K fd ps []
section
variable {X : Cx} {x m : Str} {k : Nat} {ps : List Str} {sp : Sp} {e o : Expr} {es : List Expr} {t : TA} {ta : TE} {p pos apos : Pos} {C : Addr}
theorem pe_fd (F : Fd X.prog X.w X.K X.mg X.base x k ps sp) (hr : Room k X.A) (hg : Gl X x) (ha : PA X (e :: es) t) (hdb : (x == ("__debug__" : Str)) = false := by decide)
    (he : starEach (e :: es) X.env = (false, eval e X.env) :: starEach es X.env := by rfl) (hpl : (backTo pos (starEach es X.env)).any (·.1) = false := by rfl) :
    PE X (.Call (.Name x p) (e :: es) [] pos) (tCall sp [] E0 t) := by
  obtain ⟨f, fd, ok, mg_, kp, bd⟩ := F.ex
  exact pe_call ok hr hg mg_ kp bd .nil pass0 ha hdb he hpl
/-- o.m(e, ..), o.m() -/
theorem pe_md {pl : Sem Bool} (c : Cls X.K C) (he : PE X o ta) (G : Md X.prog X.w X.K X.mg X.base C m k ps sp) (hr : Room k X.A) (ha : PA X (e :: es) t)
    (hst : starEach (e :: es) X.env = (false, eval e X.env) :: starEach es X.env := by rfl) (hpl : (backTo pos (starEach es X.env)).any (·.1) = false := by rfl)
    (ht : eval (.Call (.Attribute o m apos) (e :: es) [] pos) X.env = (do
      let ov ← eval o X.env
      standAt apos.atName
      let (g, first) ← holding [ov] (getMethod ov m pl)
      callWith pos g first (backTo pos (starEach (e :: es) X.env)) (backToKw pos (keywordEach [] X.env))) := by rfl) :
    PE X (.Call (.Attribute o m apos) (e :: es) [] pos) (tMeth C m sp [] E0 ta t) := by
  obtain ⟨f, fd, ok, me, bd⟩ := G.ex
  exact pe_meth he c me ok hr bd .nil pass0 ha hst hpl ht
theorem pe_md0 {pl : Sem Bool} (c : Cls X.K C) (he : PE X o ta) (G : Md X.prog X.w X.K X.mg X.base C m k ps sp) (hr : Room k X.A)
    (ht : eval (.Call (.Attribute o m apos) [] [] pos) X.env = (do
      let ov ← eval o X.env
      standAt apos.atName
      let (g, first) ← holding [ov] (getMethod ov m pl)
      callWith pos g first (backTo pos (starEach [] X.env)) (backToKw pos (keywordEach [] X.env))) := by rfl) :
    PE X (.Call (.Attribute o m apos) [] [] pos) (tMeth C m sp [] E0 ta tNil) := by
  obtain ⟨f, fd, ok, me, bd⟩ := G.ex
  exact pe_meth0 he c me ok hr bd .nil pass0 ht
end
/-- a class whose __init__ keeps its promise -/
structure Cd (P : Program) (w : World) (K : PySem.W.Frag) (mg : Str → Option Value) (base : Heap) (C : Addr) (k : Nat) (ps : List Str) (sp : Sp) : Prop where
  ex : ∃ (f : Addr) (fd : FuncData), FnOk P w K mg base CX0 k f fd ps sp ∧ Mk K C f ∧ Binds K fd ps []
section
variable {X : Cx} {x : Str} {k : Nat} {ps : List Str} {sp : Sp} {p pos : Pos} {C : Addr}
theorem pe_mk0 (hm : X.mg x = some (.ref C)) (G : Cd X.prog X.w X.K X.mg X.base C k ps sp) (hr : Room (k + 1) X.A) (hg : Gl X x) (hdb : (x == ("__debug__" : Str)) = false := by decide) : PE X (.Call (.Name x p) [] [] pos) (tMake C sp [] E0 tNil) := by
  obtain ⟨f, fd, ok, M, bd⟩ := G.ex
  exact pe_make0 M ok hr hg hm bd .nil pass0 hdb
end
section
variable {X : Cx} {x : Str} {pos : Pos}
/-- a module's number, text, object -/
theorem pe_gi {i : Int} (hg : Gl X x) (hm : ∃ t, X.mg x = some (.int i t)) (hd : (x == ("__debug__" : Str)) = false := by decide) : PE X (.Name x pos) (tC (.int i)) := by
  obtain ⟨t, e⟩ := hm
  exact pe_glob (v := .int i) hg e ⟨t, rfl⟩ hd
theorem pe_gs {z : Str} (hg : Gl X x) (hm : ∃ t, X.mg x = some (.str z t)) (hd : (x == ("__debug__" : Str)) = false := by decide) : PE X (.Name x pos) (tC (.str z)) := by
  obtain ⟨t, e⟩ := hm
  exact pe_glob (v := .str z) hg e ⟨t, rfl⟩ hd
theorem pe_gr {a : Addr} (hg : Gl X x) (hm : X.mg x = some (.ref a)) (hd : (x == ("__debug__" : Str)) = false := by decide) : PE X (.Name x pos) (tC (.ref a)) := pe_glob (v := .ref a) hg hm rfl hd
end
/-- (a, b, ..) as a target within a comprehension -/
theorem pg_tupK {X : Cx} {K : PySem.W.Frag} {es : List Expr} {k : Nat} {t : TGs} {n : Nat} {pos : Pos} (hK : X.K = K) (hc : X.calm = true) (h : PGs X es t) (hn : (assignEach es X.env).length = n := by rfl) (hst : (assignEach es X.env).findIdx? (·.1) = none := by rfl) :
    PG X (.Tuple es k pos) (gTup K n t) := by
  subst hK
  exact pg_tup hc h hn hst
/-! ### room -/
theorem rm {j k : Nat} {A : Around} (r : Room k A) (h : j ≤ k := by decide) : Room j A := r.mono h

/-! ### steps of readings -/
section
variable {σ : L2.St} {H H' : Hp} {Q : VK} {v : V} {D : Ends} {te ta tb : TE} {t u : TS}
theorem w_var {i : Nat} (h : σ[i]? = some (some v)) (k : Q v H) : tVar i σ H Q := ⟨v, h, k⟩
theorem w_c (k : Q v H) : tC v σ H Q := k
theorem w_op {r : R2} (k : ta σ H fun x H1 => tb σ H1 fun y H2 => r x y H2 Q) : tOp r ta tb σ H Q := k
theorem w_un {r : V → Hp → VK → Prop} (k : ta σ H fun x H1 => r x H1 Q) : tUn r ta σ H Q := k
theorem w_I0 {g : Int → Int → V} {i j : Int} (k : Q (g i j) H) : rI0 g (.int i) (.int j) H Q := ⟨i, j, rfl, rfl, k⟩
theorem w_I {C : Int → Int → Prop} {g : Int → Int → V} {i j : Int} (h : C i j) (k : Q (g i j) H) : rI C g (.int i) (.int j) H Q := ⟨i, j, rfl, rfl, h, k⟩
theorem w_eq {x y : V} (h : scal x y = true) (k : Q (.bl (decide (x = y))) H) : rEq x y H Q := ⟨h, k⟩
theorem w_ne {x y : V} (h : scal x y = true) (k : Q (.bl (!decide (x = y))) H) : rNe x y H Q := ⟨h, k⟩
theorem w_cb {r : List V → Hp → VK → Prop} {tA : TA} (k : tA σ H fun vs H1 => r vs H1 Q) : tCB r tA σ H Q := k
theorem w_call {sp : Sp} {dvs : List V} {E : XK} {tA : TA} (k : tA σ H fun vs H1 => sp (vs ++ dvs) H1 Q E) : tCall sp dvs E tA σ H Q := k
theorem w_cons {tr : TA} {R : List V → Hp → Prop} (k : ta σ H fun x H1 => tr σ H1 fun xs H2 => R (x :: xs) H2) : tCons ta tr σ H R := k
theorem w_nil {R : List V → Hp → Prop} (k : R [] H) : tNil σ H R := k
theorem w_asg {i : Nat} (k : te σ H fun x H1 => D.nx (σ.set i (some x)) H1) : tAsg te (gName i) D σ H := k
theorem w_seq (k : t { D with nx := u D } σ H) : tSeq t u D σ H := k
theorem w_ret (k : te σ H D.rt) : tRet te D σ H := k
theorem w_retN (k : D.rt .non H) : tRetN D σ H := k
theorem w_next (k : D.nx σ H) : tNext D σ H := k
theorem w_if {c : TT} (k : c σ H fun b H1 => if b = true then t D σ H1 else u D σ H1) : tIfS c t u D σ H := k
theorem w_test {R : Bool → Hp → Prop} (k : te σ H fun x H1 => ∃ c, x = .bl c ∧ R c H1) : tTest te σ H R := k
theorem w_tB {R : Bool → Hp → Prop} (k : te σ H fun x H1 => ∃ c, x = .bl c ∧ R c H1) : tB te σ H R := k
theorem w_drop (k : te σ H fun _ H1 => D.nx σ H1) : tDrop te D σ H := k
theorem w_bl {c : Bool} {R : Bool → Hp → Prop} (k : R c H) : ∃ b, V.bl c = .bl b ∧ R b H := ⟨c, rfl, k⟩
theorem w_ixT {K : PySem.W.Frag} {p : Addr} {xs : List V} {i : Int} (h : H p = some (.tup xs)) (ha : atI xs i = some v) (k : Q v H) : rIxT K (.ref p) (.int i) H Q := ⟨p, xs, i, v, rfl, rfl, SqT.of h, ha, k⟩
theorem w_ixL {K : PySem.W.Frag} {p : Addr} {xs : List V} {i : Int} (h : H p = some (.lst xs)) (ha : atI xs i = some v) (k : Q v H) : rIxL K (.ref p) (.int i) H Q := ⟨p, xs, i, v, rfl, rfl, SqL.of h, ha, k⟩
end
end Kb

set_option Elab.async false
set_option linter.all false
set_option maxRecDepth 100000
set_option maxHeartbeats 4000000
/-! K64, data: chains of comparisons; what a value is (ratios, papers, lots, entries) in the abstract heap. -/
namespace Kb
open PySem PySem.Spec PyProof.Rows L2 Evl

/-! ### a <= b <= c <= d, as a test -/
structure PL (X : Cx) (ops : List CmpOp) (rs : List Expr) (t : V → TT) : Prop where
  run : ∀ (pos : Pos) (pins : List (Addr × Obj)) (s : Shared) (σ : L2.St) (H : Hp) (a : V) (av : Value) (Q : Bool → Hp → Prop), Inv X pins σ H s → RelV a av → t a σ H Q →
    wpAny (model X.prog X.w) X.A (testChain pos av ops (evalEach rs X.env)) (TP X pins σ Q) X.xe s
section
variable {X : Cx} {op op' op1 op2 : CmpOp} {ops : List CmpOp} {b b' a : Expr} {bs : List Expr} {r : R2} {ta tb : TE} {t : V → TT} {pos : Pos}
theorem pl_last (ho : OpR X (compareOp op) r) (hb : PE X b tb) : PL X [op] [b] (fun x σ H Q => tb σ H fun y H1 => r x y H1 fun z H2 => ∃ k, z = .bl k ∧ Q k H2) := by
  refine ⟨fun ps pins s σ H x xv Q I rx h => test_last ?_⟩
  refine thn (hb.run pins s σ H _ I h) fun yv s1 ⟨y, H1, I1, ry, h1⟩ => thn (ho pins s1 σ H1 x y xv yv _ I1 rx ry h1) fun zv s2 ⟨z, H2, I2, rz, k, ez, h2⟩ => ?_
  subst ez
  cases rz
  exact wpAny_truthy_bool ⟨H2, I2, h2⟩
theorem pl_link (ho : OpR X (compareOp op) r) (hb : PE X b tb) (hl : PL X (op' :: ops) (b' :: bs) t) :
    PL X (op :: op' :: ops) (b :: b' :: bs) (fun x σ H Q => tb σ H fun y H1 => r x y H1 fun z H2 => ∃ k, z = .bl k ∧ if k = true then t y σ H2 Q else Q false H2) := by
  refine ⟨fun ps pins s σ H x xv Q I rx h => test_link ?_⟩
  refine thn (hb.run pins s σ H _ I h) fun yv s1 ⟨y, H1, I1, ry, h1⟩ => thn (ho pins s1 σ H1 x y xv yv _ I1 rx ry h1) fun zv s2 ⟨z, H2, I2, rz, k, ez, h2⟩ => ?_
  subst ez
  cases rz
  refine wpAny_truthy_bool ?_
  cases k with
  | true => exact hl.run ps pins s2 σ H2 y yv Q I2 ry h2
  | false => exact ⟨H2, I2, h2⟩
theorem pt_chainL (ha : PE X a ta) (hl : PL X (op1 :: op2 :: ops) (b :: b' :: bs) t) (hm : lastMarks (op1 :: op2 :: ops) (b :: b' :: bs) = false := by with_unfolding_all rfl) :
    PT X (.Compare a (op1 :: op2 :: ops) (b :: b' :: bs) pos) (fun σ H Q => ta σ H fun x H1 => t x σ H1 Q) := by
  refine ⟨fun pins s σ H Q I h => isTrue_chain ?_ hm⟩
  exact thn (ha.run pins s σ H _ I h) fun xv s1 ⟨x, H1, I1, rx, h1⟩ => hl.run pos pins s1 σ H1 x xv Q I1 rx h1
end

/-! ### data in the abstract heap -/
/-- the tuples stand -/
def TT0 (H H' : Hp) : Prop := ∀ (b : Addr) xs, H b = some (.tup xs) → H' b = some (.tup xs)
theorem TT0.refl (H : Hp) : TT0 H H := fun _ _ h => h
theorem TT0.trans {H H1 H2 : Hp} (a : TT0 H H1) (b : TT0 H1 H2) : TT0 H H2 := fun x xs h => b x xs (a x xs h)
theorem TT0.of {H H' : Hp} (e : Ex H H') : TT0 H H' := fun b _ h => e b _ h
theorem TT0.upd {H : Hp} {a : Addr} {o : HO} (h : ∀ xs, H a ≠ some (.tup xs)) : TT0 H (L2.upd H a o) := fun b xs e => by
  have n : b ≠ a := by
    rintro rfl
    exact h xs e
  rw [upd_ne n]
  exact e
abbrev Rt := Int × Int
structure Pap where
  first : Int
  last : Int
  zero : Rt
  share : Rt
  drift : Rt
  checked : Int
  deriving DecidableEq
inductive Ent where
  | paper (sc : Str) (p : Pap)
  | recall (sc : Str) (p : Pap) (day : Int)
  | weighing (sc : Str) (day : Int) (lots : List Int) (r : Rt)
  | known (lots : List Int) (r : Rt)
  | find (lot : Int) (has : Bool)
  deriving DecidableEq
def IsRt (H : Hp) (v : V) (r : Rt) : Prop := ∃ a, v = .ref a ∧ H a = some (.tup [.int r.1, .int r.2])
def IsLots (H : Hp) (v : V) (ls : List Int) : Prop := ∃ a, v = .ref a ∧ H a = some (.tup (ls.map V.int))
def IsPap (H : Hp) (v : V) (p : Pap) : Prop := ∃ a z s d, v = .ref a ∧ H a = some (.tup [.int p.first, .int p.last, z, s, d, .int p.checked]) ∧ IsRt H z p.zero ∧ IsRt H s p.share ∧ IsRt H d p.drift
/-- the places of an entry behind its kind -/
def EntArgs (H : Hp) : Ent → List V → Prop
  | .paper sc p, xs => ∃ v, xs = [.str sc, v] ∧ IsPap H v p
  | .recall sc p day, xs => ∃ v, xs = [.str sc, v, .int day] ∧ IsPap H v p
  | .weighing sc day ls r, xs => ∃ u v, xs = [.str sc, .int day, u, v] ∧ IsLots H u ls ∧ IsRt H v r
  | .known ls r, xs => ∃ u v, xs = [u, v] ∧ IsLots H u ls ∧ IsRt H v r
  | .find lot has, xs => xs = [.int lot, .bl has]
def Ent.kind : Ent → Str
  | .paper _ _ => "paper"
  | .recall _ _ _ => "recall"
  | .weighing _ _ _ _ => "weighing"
  | .known _ _ => "known"
  | .find _ _ => "find"
def IsEnt (H : Hp) (v : V) (e : Ent) : Prop := ∃ a xs, v = .ref a ∧ H a = some (.tup (.str e.kind :: xs)) ∧ EntArgs H e xs
/-- an entry without its first place -/
def IsTail (H : Hp) (v : V) (e : Ent) : Prop := ∃ a xs, v = .ref a ∧ H a = some (.tup xs) ∧ EntArgs H e xs
theorem IsRt.mono {H H' : Hp} {v : V} {r : Rt} (t : TT0 H H') (h : IsRt H v r) : IsRt H' v r := let ⟨a, e, q⟩ := h; ⟨a, e, t a _ q⟩
theorem IsLots.mono {H H' : Hp} {v : V} {r : List Int} (t : TT0 H H') (h : IsLots H v r) : IsLots H' v r := let ⟨a, e, q⟩ := h; ⟨a, e, t a _ q⟩
theorem IsPap.mono {H H' : Hp} {v : V} {p : Pap} (t : TT0 H H') (h : IsPap H v p) : IsPap H' v p :=
  let ⟨a, z, s, d, e, q, h1, h2, h3⟩ := h; ⟨a, z, s, d, e, t a _ q, h1.mono t, h2.mono t, h3.mono t⟩
theorem EntArgs.mono {H H' : Hp} {e : Ent} {xs : List V} (t : TT0 H H') (h : EntArgs H e xs) : EntArgs H' e xs := by
  cases e with
  | paper sc p => obtain ⟨v, e, q⟩ := h; exact ⟨v, e, q.mono t⟩
  | recall sc p day => obtain ⟨v, e, q⟩ := h; exact ⟨v, e, q.mono t⟩
  | weighing sc day ls r => obtain ⟨u, v, e, q, q2⟩ := h; exact ⟨u, v, e, q.mono t, q2.mono t⟩
  | known ls r => obtain ⟨u, v, e, q, q2⟩ := h; exact ⟨u, v, e, q.mono t, q2.mono t⟩
  | find lot has => exact h
theorem IsEnt.mono {H H' : Hp} {v : V} {e : Ent} (t : TT0 H H') (h : IsEnt H v e) : IsEnt H' v e := let ⟨a, xs, q, q1, q2⟩ := h; ⟨a, xs, q, t a _ q1, q2.mono t⟩
theorem IsTail.mono {H H' : Hp} {v : V} {e : Ent} (t : TT0 H H') (h : IsTail H v e) : IsTail H' v e := let ⟨a, xs, q, q1, q2⟩ := h; ⟨a, xs, q, t a _ q1, q2.mono t⟩
/-- values, one by one -/
inductive All2 {α : Type} (R : V → α → Prop) : List V → List α → Prop where
  | nil : All2 R [] []
  | cons {v : V} {x : α} {vs : List V} {xs : List α} : R v x → All2 R vs xs → All2 R (v :: vs) (x :: xs)
section
variable {α : Type} {R R' : V → α → Prop}
theorem All2.imp (f : ∀ v x, R v x → R' v x) : ∀ {vs : List V} {xs : List α}, All2 R vs xs → All2 R' vs xs
  | _, _, .nil => .nil
  | _, _, .cons a b => .cons (f _ _ a) (All2.imp f b)
theorem All2.len : ∀ {vs : List V} {xs : List α}, All2 R vs xs → vs.length = xs.length
  | _, _, .nil => rfl
  | _, _, .cons _ b => congrArg (· + 1) (All2.len b)
theorem All2.get : ∀ {vs : List V} {xs : List α} {i : Nat} {v : V}, All2 R vs xs → vs[i]? = some v → ∃ x, xs[i]? = some x ∧ R v x
  | _, _, _, _, .nil, h => by simp at h
  | _, _, 0, _, .cons a b, h => by simp at h; subst h; exact ⟨_, rfl, a⟩
  | _, _, i + 1, v, .cons a b, h => by
    obtain ⟨x, h1, h2⟩ := All2.get (i := i) (v := v) b (by simpa using h)
    exact ⟨x, by simpa using h1, h2⟩
theorem All2.get' : ∀ {vs : List V} {xs : List α} {i : Nat} {x : α}, All2 R vs xs → xs[i]? = some x → ∃ v, vs[i]? = some v ∧ R v x
  | _, _, _, _, .nil, h => by simp at h
  | _, _, 0, _, .cons a b, h => by simp at h; subst h; exact ⟨_, rfl, a⟩
  | _, _, i + 1, x, .cons a b, h => by
    obtain ⟨v, h1, h2⟩ := All2.get' (i := i) (x := x) b (by simpa using h)
    exact ⟨v, by simpa using h1, h2⟩
theorem All2.app : ∀ {vs us : List V} {xs ys : List α}, All2 R vs xs → All2 R us ys → All2 R (vs ++ us) (xs ++ ys)
  | _, _, _, _, .nil, h => h
  | _, _, _, _, .cons a b, h => .cons a (All2.app b h)
theorem All2.snoc {vs : List V} {xs : List α} {v : V} {x : α} (h : All2 R vs xs) (r : R v x) : All2 R (vs ++ [v]) (xs ++ [x]) := h.app (.cons r .nil)
theorem All2.erase : ∀ {vs : List V} {xs : List α} (i : Nat), All2 R vs xs → All2 R (vs.eraseIdx i) (xs.eraseIdx i)
  | _, _, _, .nil => .nil
  | _, _, 0, .cons _ b => b
  | _, _, i + 1, .cons a b => .cons a (All2.erase i b)
end
end Kb

set_option Elab.async false
set_option linter.all false
set_option maxRecDepth 100000
set_option maxHeartbeats 4000000
/-! K64, comprehensions and loops over what stands still; tests whose answer is known. -/
namespace Kb
open PySem PySem.Spec PyProof.Rows L2 Evl

/-! ### tests -/
section
variable {p A B : Prop} [Decidable p]
theorem dT (hp : p) (h : A) : if decide p = true then A else B := by
  rw [decide_eq_true hp]
  exact iteT h
theorem dF (hp : ¬ p) (h : B) : if decide p = true then A else B := by
  rw [decide_eq_false hp]
  exact iteF h
theorem nT (hp : ¬ p) (h : A) : if (!decide p) = true then A else B := by
  rw [decide_eq_false hp]
  exact iteT h
theorem nF (hp : p) (h : B) : if (!decide p) = true then A else B := by
  rw [decide_eq_true hp]
  exact iteF h
theorem bT {b : Bool} (hb : b = true) (h : A) : if b = true then A else B := by
  rw [hb]
  exact iteT h
theorem bF {b : Bool} (hb : b = false) (h : B) : if b = true then A else B := by
  rw [hb]
  exact iteF h
end

/-! ### what is walked and stands -/
structure Wk (J : It) (n : Nat) (item : Nat → V → Hp → Prop) (H1 : Hp) : Prop where
  stop : ∀ H, Ex H1 H → J.stop n H
  go : ∀ i H, i < n → Ex H1 H → J.go i H
  yld : ∀ i H x H', i < n → Ex H1 H → J.yld i H x H' → Ex H H' ∧ item i x H'
theorem wk_list {K : PySem.W.Frag} {H : Hp} {a : Addr} {xs : List V} (h : SqL K H a xs) : Wk (Itl K a) xs.length (fun i x _ => xs[i]? = some x) H where
  stop := fun H' e => ⟨xs, ex_l e h, Nat.le_refl _⟩
  go := fun i H' hi e => ⟨xs, xs[i], ex_l e h, by simp [hi]⟩
  yld := fun i H' x H2 hi e y => ⟨y.1 ▸ Ex.refl _, y.2 xs (ex_l e h)⟩
theorem wk_tup {K : PySem.W.Frag} {H : Hp} {a : Addr} {xs : List V} (h : SqT K H a xs) : Wk (Itt K a) xs.length (fun i x _ => xs[i]? = some x) H where
  stop := fun H' e => ⟨xs, ex_t e h, Nat.le_refl _⟩
  go := fun i H' hi e => ⟨xs, xs[i], ex_t e h, by simp [hi]⟩
  yld := fun i H' x H2 hi e y => ⟨y.1 ▸ Ex.refl _, y.2 xs (ex_t e h)⟩
theorem wk_range {H : Hp} {lo : Int} {n : Nat} : Wk (Itr lo n) n (fun i x _ => x = .int (lo + i)) H where
  stop := fun H' e => Nat.le_refl _
  go := fun i H' hi e => hi
  yld := fun i H' x H2 hi e y => ⟨y.1 ▸ Ex.refl _, y.2⟩
theorem wk_str {H : Hp} {z : Str} : Wk (Its z) z.cps.size (fun i v _ => ∃ c, z.cps[i]? = some c ∧ v = .str ⟨#[c]⟩) H where
  stop := fun H' e => Nat.le_refl _
  go := fun i H' hi e => hi
  yld := fun i H' x H2 hi e y => ⟨y.1 ▸ Ex.refl _, y.2⟩

/-! ### a comprehension: which turns give, and what -/
inductive Pk (keep : Nat → Bool) (R : Nat → V → Prop) : Nat → List V → Prop where
  | zero : Pk keep R 0 []
  | yes {i : Nat} {ys : List V} {y : V} : Pk keep R i ys → keep i = true → R i y → Pk keep R (i + 1) (ys ++ [y])
  | no {i : Nat} {ys : List V} : Pk keep R i ys → keep i = false → Pk keep R (i + 1) ys
theorem Pk.imp {keep : Nat → Bool} {R R' : Nat → V → Prop} (f : ∀ i y, R i y → R' i y) {n : Nat} {ys : List V} (h : Pk keep R n ys) : Pk keep R' n ys := by
  induction h with
  | zero => exact .zero
  | yes _ a b ih => exact .yes ih a (f _ _ b)
  | no _ a ih => exact .no ih a
theorem Pk.len {keep : Nat → Bool} {R : Nat → V → Prop} {n : Nat} {ys : List V} (h : Pk keep R n ys) : ys.length ≤ n := by
  induction h with
  | zero => exact Nat.le_refl _
  | yes _ _ _ ih => rw [List.length_append, List.length_singleton]; omega
  | no _ _ ih => omega
/-- all turns give: as the list xs says -/
theorem Pk.all {α : Type} {R : Nat → V → Prop} {S : V → α → Prop} {xs : List α} {n : Nat} {ys : List V} (h : Pk (fun _ => true) R n ys) (hn : n ≤ xs.length) (f : ∀ i y x, xs[i]? = some x → R i y → S y x) : All2 S ys (xs.take n) := by
  induction h with
  | zero => exact .nil
  | @yes i ys y _ _ r ih =>
    have hi : i < xs.length := by omega
    have e : xs[i]? = some xs[i] := List.getElem?_eq_getElem hi
    have q := (ih (by omega)).snoc (f i y _ e r)
    rw [List.take_succ, e]
    exact q
  | no _ a _ => cases a
/-- some turns give: as p says of the list xs -/
theorem Pk.filter {α : Type} {keep : Nat → Bool} {R : Nat → V → Prop} {S : V → α → Prop} {xs : List α} {p : α → Bool} {n : Nat} {ys : List V} (h : Pk keep R n ys) (hn : n ≤ xs.length) (hk : ∀ i x, xs[i]? = some x → keep i = p x)
    (f : ∀ i y x, xs[i]? = some x → p x = true → R i y → S y x) : All2 S ys ((xs.take n).filter p) := by
  induction h with
  | zero => exact .nil
  | @yes i ys y _ k r ih =>
    have hi : i < xs.length := by omega
    have e : xs[i]? = some xs[i] := List.getElem?_eq_getElem hi
    have hp : p xs[i] = true := (hk i _ e).symm.trans k
    have q := (ih (by omega)).snoc (f i y _ e hp r)
    rw [List.take_succ, e, List.filter_append]
    have e2 : List.filter p (some xs[i]).toList = [xs[i]] := by simp [hp]
    rw [e2]
    exact q
  | @no i ys _ k ih =>
    have hi : i < xs.length := by omega
    have e : xs[i]? = some xs[i] := List.getElem?_eq_getElem hi
    have hp : p xs[i] = false := (hk i _ e).symm.trans k
    rw [List.take_succ, e, List.filter_append]
    have e2 : List.filter p (some xs[i]).toList = [] := by simp [hp]
    rw [e2, List.append_nil]
    exact ih (by omega)
/-- truth values, all true -/
theorem Pk.trues {n : Nat} {ys : List V} (h : Pk (fun _ => true) (fun _ y => y = .bl true) n ys) : ys = (List.replicate n true).map V.bl := by
  induction h with
  | zero => rfl
  | @yes i ys y _ _ r ih =>
    subst r
    rw [ih, List.replicate_succ', List.map_append]
    rfl
  | no _ a _ => cases a
theorem all_trues (n : Nat) : (List.replicate n true).all id = true := by
  rw [List.all_eq_true]
  intro x hx
  exact (List.mem_replicate.mp hx).2
theorem lc_walk {J : It} {n : Nat} {item : Nat → V → Hp → Prop} {H1 : Hp} {g : TG} {tt : TT} {te : TE} {vs : List Nat} {σ : L2.St} {D : Addr} {Qd : Hp → Prop} (W : Wk J n item H1) (hn : n ≤ 1000) (keep : Nat → Bool) (R : Nat → V → Hp → Prop)
    (mono : ∀ i y H H', R i y H → TT0 H H' → R i y H') (hD : H1 D = none)
    (hs : ∀ i x H (Q1 : VK) (Q2 : Hp → Prop), i < n → item i x H → Ex H1 H → (keep i = true → ∀ y H4, Ex H H4 → R i y H4 → Q1 y H4) → (keep i = false → ∀ H3, Ex H H3 → Q2 H3) →
      g x (wipe σ vs) H fun σ2 H2 => wipe σ2 vs = wipe σ vs ∧ tt σ2 H2 fun b H3 => if b = true then te σ2 H3 Q1 else Q2 H3)
    (hd : ∀ ys H', Ex H1 H' → H' D = some (.lst ys) → Pk keep (fun i y => R i y H') n ys → Qd H') :
    ∃ W : Nat → Nat → Hp → Prop, (∃ m, W 0 m (upd H1 D (.lst []))) ∧ ∀ i m H, W i m H →
      (J.stop i H ∧ Qd H) ∨ (J.go i H ∧ ∃ Nx : Hp → Prop, (∀ H', Nx H' → ∃ m', m' < m ∧ W (i + 1) m' H') ∧ ∀ x H', J.yld i H x H' → g x (wipe σ vs) H' fun σ2 H2 => wipe σ2 vs = wipe σ vs ∧ tt σ2 H2 fun b H3 =>
        if b = true then te σ2 H3 fun y H4 => ∃ acc, H4 D = some (.lst acc) ∧ acc.length < sizeLine ∧ Nx (upd H4 D (.lst (acc ++ [y]))) else Nx H3) := by
  refine ⟨fun i m H => m = n - i ∧ i ≤ n ∧ Ex H1 H ∧ ∃ ys, H D = some (.lst ys) ∧ Pk keep (fun i y => R i y H) i ys, ⟨n, by simp, Nat.zero_le _, Ex.new hD, [], upd_same, .zero⟩, ?_⟩
  rintro i m H ⟨rfl, hi, eH, ys, hys, hp⟩
  by_cases hlt : i < n
  · refine .inr ⟨W.go i H hlt eH, fun H' => i + 1 ≤ n ∧ Ex H1 H' ∧ ∃ ys, H' D = some (.lst ys) ∧ Pk keep (fun i y => R i y H') (i + 1) ys, fun H' h => ⟨n - (i + 1), by omega, rfl, h⟩, fun x H' hy => ?_⟩
    obtain ⟨e1, it⟩ := W.yld i H x H' hlt eH hy
    refine hs i x H' _ _ hlt it (eH.trans e1) (fun hk y H4 e4 r4 => ?_) fun hk H3 e3 => ?_
    · have d4 : H4 D = some (.lst ys) := e4 D _ (e1 D _ hys)
      have tu : TT0 H4 (upd H4 D (.lst (ys ++ [y]))) := TT0.upd fun zs z => by rw [d4] at z; cases z
      refine ⟨ys, d4, sz_lt (by have := hp.len; omega), hlt, Ex.mut ((eH.trans e1).trans e4) hD, ys ++ [y], upd_same, .yes (hp.imp fun j y r => mono j y _ _ r ((TT0.of (e1.trans e4)).trans tu)) hk (mono i y _ _ r4 tu)⟩
    · exact ⟨hlt, (eH.trans e1).trans e3, ys, e3 D _ (e1 D _ hys), .no (hp.imp fun j y r => mono j y _ _ r (TT0.of (e1.trans e3))) hk⟩
  · have e : i = n := by omega
    subst e
    exact .inl ⟨W.stop H eH, hd ys H eH hys hp⟩
end Kb

set_option Elab.async false
set_option linter.all false
set_option maxRecDepth 100000
set_option maxHeartbeats 4000000
/-! K64, 1: the ratios' and scales' small defs. -/
namespace Kb
open PySem PySem.Spec PyProof.Rows L2 Evl TL

/-- what the module's top has left -/
structure Tx (K : PySem.W.Frag) (w : World) (mg : Str → Option Value) (aK a1 aL : Addr) : Prop where
  b_len : mg "len" = none
  b_abs : mg "abs" = none
  b_all : mg "all" = none
  b_str : mg "str" = none
  b_int : mg "int" = none
  b_max : mg "max" = none
  b_min : mg "min" = none
  b_list : mg "list" = none
  b_tuple : mg "tuple" = none
  b_set : mg "set" = none
  b_sorted : mg "sorted" = none
  b_range : mg "range" = none
  b_enumerate : mg "enumerate" = none
  m_MAX_TEXT : ∃ t, mg "MAX_TEXT" = some (.int 60 t)
  m_MAX_DAY : ∃ t, mg "MAX_DAY" = some (.int 999 t)
  m_MAX_PAPERS : ∃ t, mg "MAX_PAPERS" = some (.int 12 t)
  m_MAX_NAME : ∃ t, mg "MAX_NAME" = some (.int 4 t)
  m_LETTERS : ∃ t, mg "LETTERS" = some (.str "abcdefghijklmnopqrstuvwxyz" t)
  m_MAX_WEIGHED_weighings : ∃ t, mg "MAX_WEIGHED_weighings" = some (.int 8 t)
  m_MAX_NUMBER : ∃ t, mg "MAX_NUMBER" = some (.int 99 t)
  m_MAX_LOT : ∃ t, mg "MAX_LOT" = some (.int 99 t)
  m_MAX_WEIGHED_entries : ∃ t, mg "MAX_WEIGHED_entries" = some (.int 8 t)
  m_MAX_RECORDS : ∃ t, mg "MAX_RECORDS" = some (.int 30 t)
  m_MAX_VERSIONS : ∃ t, mg "MAX_VERSIONS" = some (.int 6 t)
  m_KINDS : mg "KINDS" = some (.ref aK)
  KINDS : ∀ H, SqT K H aK [.str "find", .str "known", .str "paper", .str "recall", .str "weighing"]
  m_ONE : mg "ONE" = some (.ref a1)
  ONE : ∀ H, SqT K H a1 [.int 1, .int 1]
  m_LENGTHS : mg "LENGTHS" = some (.ref aL)
  L_find : KDct K w aL "find" (.int 3)
  L_known : KDct K w aL "known" (.int 3)
  L_paper : KDct K w aL "paper" (.int 3)
  L_recall : KDct K w aL "recall" (.int 4)
  L_weighing : KDct K w aL "weighing" (.int 5)

section
variable {P : Program} {w : World} {K : PySem.W.Frag} {mg : Str → Option Value} {base : Heap} {aK a1 aL f : Addr} {fd : FuncData}

abbrev s_common : Stmt := topS 8
theorem sc_common : FnScope ["first", "second"] ["first", "second"] (defScope s_common) := ⟨rfl, rfl, rfl, by decide +kernel, rfl, by decide +kernel, by decide +kernel⟩
def spCommon : Sp := fun vs H Q _ => ∃ a b : Int, vs = [.int a, .int b] ∧ Q (.int (Int.gcd a b : Nat)) H
theorem ok_common (F : FnP K "common" "common" s_common f fd) (T : Tx K w mg aK a1 aL) : FnOk P w K mg base CX0 1 f fd ["first", "second"] spCommon := by
  refine F.ok sc_common (fun vs H Q E h => ?_) (fun cdv A outer s H vs Q E hr h => ⟨_, PSs.nox ((pss_cons (ps_set (i := 0) sc_common.nd rfl (Or.inl rfl) (pe_callB call_abs (by rfl) T.b_abs (by decide +kernel) (pa_cons (pv 0) pa_nil)))
      (pss_cons (ps_set (i := 1) sc_common.nd rfl (Or.inl rfl) (pe_callB call_abs (by rfl) T.b_abs (by decide +kernel) (pa_cons (pv 1) pa_nil)))
      (pss_cons (ps_while PassesOwn.never (pt_cmpR op_ne (pv 1) pe_int (nomark _)) (pss_one (ps_par (i := 0) (j := 1) rfl sc_common.nd rfl rfl (by decide) rfl rfl (pa_cons (pv 1) (pa_cons (pe_op op_mod (pv 0) (pv 1)) pa_nil)) (by rfl))))
      (pss_one (ps_ret (pv 0))))))), ?_⟩)
  · obtain ⟨a, b, rfl, _⟩ := h
    rfl
  · obtain ⟨a, b, rfl, h⟩ := h
    refine ⟨_, rfl, _, rfl, _, rfl, _, rfl, ?_⟩
    refine ⟨fun m σ' H' => ∃ x y : Nat, σ' = [some (.int x), some (.int y)] ∧ H' = H ∧ m = y ∧ Nat.gcd x y = Int.gcd a b, ⟨b.natAbs, a.natAbs, b.natAbs, ?_, rfl, rfl, rfl⟩, ?_⟩
    · have e1 : (if a < 0 then -a else a) = (a.natAbs : Int) := by split <;> omega
      have e2 : (if b < 0 then -b else b) = (b.natAbs : Int) := by split <;> omega
      rw [e1, e2]
      rfl
    · rintro y σ' H' ⟨x, _, rfl, rfl, rfl, hg⟩
      refine ⟨_, rfl, rfl, _, rfl, ?_⟩
      by_cases hy : y = 0
      · subst hy
        refine iteF ?_
        refine ⟨_, rfl, ?_⟩
        rw [Nat.gcd_zero_right] at hg
        rw [hg]
        exact h
      · have hne : (!decide (V.int (y : Int) = V.int 0)) = true := by
          have : ¬ V.int (y : Int) = V.int 0 := fun z => hy (by injection z with z; omega)
          simp [this]
        rw [hne]
        refine iteT ?_
        refine ⟨fun σ2 H2 => ∃ x2 y2 : Nat, σ2 = [some (.int x2), some (.int y2)] ∧ H2 = H' ∧ y2 < y ∧ Nat.gcd x2 y2 = Int.gcd a b, ?_, _, rfl, _, rfl, _, rfl, _, _, rfl, rfl, ?_, _, _, rfl, ⟨y, x % y, rfl, rfl, ?_, ?_⟩⟩
        · rintro σ2 H2 ⟨x2, y2, rfl, eH, hm, hg2⟩
          subst eH
          exact ⟨y2, hm, x2, y2, rfl, rfl, rfl, hg2⟩
        · show (0 : Int) < (y : Int)
          omega
        · exact Nat.mod_lt _ (Nat.pos_of_ne_zero hy)
        · rw [← hg, Nat.gcd_comm x y, Nat.gcd_rec y x, Nat.gcd_comm]

/-! ### ratios, within bounds -/
structure RtOk (r : Rt) : Prop where
  n0 : 0 ≤ r.1
  n1 : r.1 < 1000
  d0 : 1 ≤ r.2
  d1 : r.2 < 1000
  g : Int.gcd r.1 r.2 = 1
abbrev s_is_ratio : Stmt := topS 9
theorem sc_is_ratio : FnScope ["pair"] ["pair"] (defScope s_is_ratio) := ⟨rfl, rfl, rfl, by decide +kernel, rfl, by decide +kernel, by decide +kernel⟩
def spIsRatio : Sp := fun vs H Q _ => ∃ (v : V) (r : Rt), vs = [v] ∧ IsRt H v r ∧ RtOk r ∧ Q (.bl true) H
theorem ok_is_ratio (F : FnP K "is_ratio" "is_ratio" s_is_ratio f fd) (T : Tx K w mg aK a1 aL) (g_common : Fd P w K mg base "common" 1 ["first", "second"] spCommon) : FnOk P w K mg base CX0 2 f fd ["pair"] spIsRatio := by
  refine F.ok sc_is_ratio (fun vs H Q E h => ?_) (fun cdv A outer s H vs Q E hr h => ⟨_, PSs.nox ((pss_one (ps_ret (pe_and (pe_cmpR op_eq (pe_callB call_len_seq (by rfl) T.b_len PySem.boot_len (pa_cons (pv 0) pa_nil)) pe_int (nomark _)) (pe_and (pe_cmpR op_ge (pe_ix ix_tup (pv 0) pe_int (fun _ _ => rfl)) pe_int (nomark _)) (pe_one (pe_cmpR op_eq (pe_fd g_common (rm hr) rfl (pa_cons (pe_ix ix_tup (pv 0) pe_int (fun _ _ => rfl)) (pa_cons (pe_ix ix_tup (pv 0) pe_int (fun _ _ => rfl)) pa_nil))) pe_int (nomark _)))))))), ?_⟩)
  · obtain ⟨v, r, rfl, _⟩ := h
    rfl
  · obtain ⟨v, r, rfl, ⟨a, rfl, ha⟩, ok, h⟩ := h
    refine ⟨_, rfl, a, _, rfl, .inr (SqT.of ha), rfl, _, rfl, dT rfl ?_⟩
    refine ⟨_, rfl, a, _, 1, _, rfl, rfl, SqT.of ha, rfl, _, _, rfl, rfl, _, rfl, dT ok.d0 ?_⟩
    refine ⟨_, rfl, a, _, 0, _, rfl, rfl, SqT.of ha, rfl, _, rfl, a, _, 1, _, rfl, rfl, SqT.of ha, rfl, _, _, rfl, rfl, ?_⟩
    have e : decide (V.int (Int.gcd r.1 r.2 : Nat) = V.int 1) = true := decide_eq_true (by rw [ok.g]; rfl)
    show Q (.bl (decide (V.int (Int.gcd r.1 r.2 : Nat) = V.int 1))) H
    rw [e]
    exact h
abbrev s_sign_of : Stmt := topS 10
theorem sc_sign_of : FnScope ["first"] ["first"] (defScope s_sign_of) := ⟨rfl, rfl, rfl, by decide +kernel, rfl, by decide +kernel, by decide +kernel⟩
def spSignOf (K : PySem.W.Frag) : Sp := fun vs H Q _ => ∃ (a : Addr) (n d : Int), vs = [.ref a] ∧ SqT K H a [.int n, .int d] ∧ Q (.int n.sign) H
theorem ok_sign_of (F : FnP K "sign_of" "sign_of" s_sign_of f fd) (T : Tx K w mg aK a1 aL) : FnOk P w K mg base CX0 1 f fd ["first"] (spSignOf K) := by
  refine F.ok sc_sign_of (fun vs H Q E h => ?_) (fun cdv A outer s H vs Q E hr h => ⟨_, PSs.nox ((pss_cons (ps_if (pt_cmpR op_eq (pe_ix ix_tup (pv 0) pe_int (fun _ _ => rfl)) pe_int (nomark _)) (pss_one (ps_ret pe_int)) pss_nil)
      (pss_one (ps_ret (pe_ifExp (pt_cmpR op_gt (pe_ix ix_tup (pv 0) pe_int (fun _ _ => rfl)) pe_int (nomark _)) pe_int (pe_un un_neg pe_int)))))), ?_⟩)
  · obtain ⟨a, n, d, rfl, _⟩ := h
    rfl
  · obtain ⟨a, n, d, rfl, ha, h⟩ := h
    refine ⟨_, rfl, a, _, 0, _, rfl, rfl, ha, rfl, rfl, _, rfl, ?_⟩
    by_cases hn : n = 0
    · subst hn
      exact dT rfl h
    · refine dF (fun z => hn (V.int.inj z)) ?_
      refine ⟨_, rfl, a, _, 0, _, rfl, rfl, ha, rfl, _, _, rfl, rfl, _, rfl, ?_⟩
      by_cases hp : 0 < n
      · refine dT hp ?_
        rw [Int.sign_eq_one_of_pos hp] at h
        exact h
      · refine dF hp ⟨1, rfl, ?_⟩
        rw [Int.sign_eq_neg_one_of_neg (by omega)] at h
        exact h
abbrev s_compare : Stmt := topS 11
theorem sc_compare : FnScope ["first", "second"] ["first", "second"] (defScope s_compare) := ⟨rfl, rfl, rfl, by decide +kernel, rfl, by decide +kernel, by decide +kernel⟩
def spCompare (K : PySem.W.Frag) : Sp := fun vs H Q _ => ∃ (a b : Addr) (n d m e : Int), vs = [.ref a, .ref b] ∧ SqT K H a [.int n, .int d] ∧ SqT K H b [.int m, .int e] ∧ CMul n e ∧ CMul m d ∧ ∀ H', Ex H H' → Q (.int (n * e - m * d).sign) H'
theorem ok_compare (F : FnP K "compare" "compare" s_compare f fd) (T : Tx K w mg aK a1 aL) (g_sign_of : Fd P w K mg base "sign_of" 1 ["first"] (spSignOf K)) : FnOk P w K mg base CX0 2 f fd ["first", "second"] (spCompare K) := by
  refine F.ok sc_compare (fun vs H Q E h => ?_) (fun cdv A outer s H vs Q E hr h => ⟨_, PSs.nox ((pss_one (ps_ret (pe_fd g_sign_of (rm hr) rfl (pa_cons (pe_tup (pa_cons (pe_op op_sub (pe_op op_mul (pe_ix ix_tup (pv 0) pe_int (fun _ _ => rfl)) (pe_ix ix_tup (pv 1) pe_int (fun _ _ => rfl))) (pe_op op_mul (pe_ix ix_tup (pv 1) pe_int (fun _ _ => rfl)) (pe_ix ix_tup (pv 0) pe_int (fun _ _ => rfl)))) (pa_cons pe_int pa_nil))) pa_nil))))), ?_⟩)
  · obtain ⟨a, b, n, d, m, e, rfl, _⟩ := h
    rfl
  · obtain ⟨a, b, n, d, m, e, rfl, ha, hb, c1, c2, h⟩ := h
    refine ⟨_, rfl, a, _, 0, _, rfl, rfl, ha, rfl, _, rfl, b, _, 1, _, rfl, rfl, hb, rfl, _, _, rfl, rfl, c1, ?_⟩
    refine ⟨_, rfl, b, _, 0, _, rfl, rfl, hb, rfl, _, rfl, a, _, 1, _, rfl, rfl, ha, rfl, _, _, rfl, rfl, c2, _, _, rfl, rfl, ?_⟩
    refine ⟨by show 2 ≤ sizeLine; decide, fun p hp => ⟨p, _, 1, rfl, SqT.of upd_same, h _ (Ex.new hp)⟩⟩

/-! ### texts of numbers -/
abbrev nt (i : Int) : Str := Str.ofString (toString i)
def rtText (r : Rt) : Str := if r.2 = 1 then nt r.1 else nt r.1 ++ "/" ++ nt r.2
theorem nt_len {i : Int} (h0 : 0 ≤ i) (h1 : i < 1000) : (nt i).length ≤ 3 := by
  obtain ⟨n, rfl⟩ := Int.eq_ofNat_of_zero_le h0
  rw [len_tl, tl_num]
  exact numL_len (by decide) (by omega)
theorem log_small {i : Int} (h0 : 0 ≤ i) (h1 : i < 1000) : i.natAbs.log2 < 1920 := by
  have : i.natAbs < 2 ^ 10 := by omega
  exact Nat.lt_trans (PySem.Flt.log2_lt_of (by decide) this) (by decide)
theorem slen_append (x y : Str) : (x ++ y).length = x.length + y.length := by
  rw [len_tl, len_tl, len_tl, tl_append, List.length_append]
theorem empty_append (x : Str) : Str.empty ++ x = x := ext_tl (by rw [tl_append]; rfl)
theorem slash_len : ("/" : Str).length = 1 := by decide +kernel
theorem rtText_len {r : Rt} (ok : RtOk r) : (rtText r).length ≤ 7 := by
  have h1 := nt_len ok.n0 ok.n1
  have h2 := nt_len (Int.le_trans (by decide) ok.d0) ok.d1
  unfold rtText
  split
  · omega
  · rw [slen_append, slen_append, slash_len]
    omega
theorem sizes {n : Nat} (h : n ≤ 1000) : n ≤ sizeLine := Nat.le_trans h (by decide)
abbrev s_ratio_text : Stmt := topS 12
theorem sc_ratio_text : FnScope ["first"] ["first"] (defScope s_ratio_text) := ⟨rfl, rfl, rfl, by decide +kernel, rfl, by decide +kernel, by decide +kernel⟩
def spRatioText : Sp := fun vs H Q _ => ∃ (v : V) (r : Rt), vs = [v] ∧ IsRt H v r ∧ RtOk r ∧ Q (.str (rtText r)) H
theorem ok_ratio_text (F : FnP K "ratio_text" "ratio_text" s_ratio_text f fd) (T : Tx K w mg aK a1 aL) : FnOk P w K mg base CX0 1 f fd ["first"] spRatioText := by
  refine F.ok sc_ratio_text (fun vs H Q E h => ?_) (fun cdv A outer s H vs Q E hr h => ⟨_, PSs.nox ((pss_cons (ps_if (pt_cmpR op_eq (pe_ix ix_tup (pv 0) pe_int (fun _ _ => rfl)) pe_int (nomark _)) (pss_one (ps_ret (pe_callTy call_str_int (by rfl) T.b_str (by decide +kernel) (pa_cons (pe_ix ix_tup (pv 0) pe_int (fun _ _ => rfl)) pa_nil)))) pss_nil)
      (pss_one (ps_ret (pe_joined (PJ.cons (pe_fmt (pe_ix ix_tup (pv 0) pe_int (fun _ _ => rfl))) (PJ.cons pe_str (PJ.cons (pe_fmt (pe_ix ix_tup (pv 0) pe_int (fun _ _ => rfl))) PJ.nil)))))))), ?_⟩)
  · obtain ⟨v, r, rfl, _⟩ := h
    rfl
  · obtain ⟨v, r, rfl, ⟨a, rfl, ha⟩, ok, h⟩ := h
    have l1 := nt_len ok.n0 ok.n1
    have l2 := nt_len (Int.le_trans (by decide) ok.d0) ok.d1
    have g1 := log_small ok.n0 ok.n1
    have g2 := log_small (Int.le_trans (by decide) ok.d0) ok.d1
    refine ⟨_, rfl, a, _, 1, _, rfl, rfl, SqT.of ha, rfl, rfl, _, rfl, ?_⟩
    by_cases hd : r.2 = 1
    · refine dT (congrArg V.int hd) ⟨_, rfl, a, _, 0, _, rfl, rfl, SqT.of ha, rfl, _, rfl, g1, ?_⟩
      unfold rtText at h
      rw [if_pos hd] at h
      exact h
    · refine dF (fun z => hd (V.int.inj z)) ?_
      refine ⟨_, rfl, a, _, 0, _, rfl, rfl, SqT.of ha, rfl, .inr ⟨_, rfl, g1, _, rfl, ?_, _, rfl, ?_, _, rfl, a, _, 1, _, rfl, rfl, SqT.of ha, rfl, .inr ⟨_, rfl, g2, _, rfl, ?_, ?_⟩⟩⟩
      · rw [empty_append]
        show (nt r.1).length ≤ sizeLine
        exact sizes (by omega)
      · rw [empty_append, slen_append, slash_len]
        show (nt r.1).length + 1 ≤ sizeLine
        exact sizes (by omega)
      · rw [empty_append, slen_append, slen_append, slash_len]
        show (nt r.1).length + 1 + (nt r.2).length ≤ sizeLine
        exact sizes (by omega)
      · unfold rtText at h
        rw [if_neg hd] at h
        rw [empty_append]
        exact h
end
end Kb

set_option Elab.async false
set_option linter.all false
set_option maxRecDepth 100000
set_option maxHeartbeats 4000000
/-! K64, 2: scales, days, papers. -/
namespace Kb
open PySem PySem.Spec PyProof.Rows L2 Evl TL
section
variable {P : Program} {w : World} {K : PySem.W.Frag} {mg : Str → Option Value} {base : Heap} {aK a1 aL f : Addr} {fd : FuncData}
def ScOk (z : Str) : Prop := 1 ≤ z.length ∧ z.length ≤ 4 ∧ ∀ c ∈ z.cps.toList, c ∈ ("abcdefghijklmnopqrstuvwxyz" : Str).cps.toList
abbrev s_is_scale : Stmt := topS 19
theorem sc_is_scale : FnScope ["text", "sign"] ["text"] (defScope s_is_scale) := ⟨rfl, rfl, rfl, by decide +kernel, rfl, by decide +kernel, by decide +kernel⟩
def spIsScale : Sp := fun vs H Q _ => ∃ z : Str, vs = [.str z] ∧ ScOk z ∧ ∀ H', Ex H H' → Q (.bl true) H'
theorem ok_is_scale (F : FnP K "is_scale" "is_scale" s_is_scale f fd) (T : Tx K w mg aK a1 aL) : FnOk P w K mg base CX0 1 f fd ["text"] spIsScale := by
  refine F.ok sc_is_scale (fun vs H Q E h => ?_) (fun cdv A outer s H vs Q E hr h => ⟨_, PSs.nox ((pss_one (ps_ret (pe_and (pe_chain op_le op_le pe_int (pe_callB call_len_str (by rfl) T.b_len PySem.boot_len (pa_cons (pv 0) pa_nil)) (pe_gi rfl T.m_MAX_NAME)) (pe_one (pe_callB (cr_all rfl) (by rfl) T.b_all (by decide +kernel) (pa_cons (pe_lc (own := [("sign", 1)]) rfl sc_is_scale.nd (pi_str (pv 0)) (blkOk_by (own := [("sign", 1)]) (N := ["text", "sign"]) (sc := defScope s_is_scale) (by decide +kernel)) (fun _ _ _ _ _ => (pg_name (i := 1) sc_is_scale.nd rfl (Or.inl rfl))) (fun _ _ _ _ _ => pts_nil) (fun _ _ _ _ _ => (pe_cmpR op_in_sign (pv 1) (pe_gs rfl T.m_LETTERS) (by rfl)))) pa_nil))))))), ?_⟩)
  · obtain ⟨z, rfl, _⟩ := h
    rfl
  · obtain ⟨z, rfl, ⟨h1, h2, h3⟩, h⟩ := h
    have l1 : (1 : Int) ≤ (z.length : Int) := by omega
    have l4 : (z.length : Int) ≤ 4 := by omega
    refine ⟨_, rfl, z, rfl, sizes (by omega), _, _, rfl, rfl, _, rfl, dT l1 ⟨_, _, rfl, rfl, _, rfl, dT l4 ?_⟩⟩
    refine ⟨_, rfl, z, rfl, fun D hD => lc_walk wk_str (by show z.length ≤ 1000; omega) (fun _ => true) (fun _ y _ => y = .bl true) (fun _ _ _ _ r _ => r) hD (fun i x H2 Q1 Q2 hi ⟨c, hc, ex⟩ e q1 q2 => ?_) (fun ys H' e hy hp => ?_)⟩
    · subst ex
      refine ⟨rfl, _, rfl, c, _, rfl, rfl, q1 rfl _ _ (Ex.refl _) ?_⟩
      have : c ∈ z.cps.toList := List.mem_of_getElem? (by rw [Array.getElem?_toList]; exact hc)
      rw [decide_eq_true (h3 c this)]
    · rw [hp.trues] at hy
      refine ⟨D, _, rfl, SqL.of hy, ?_⟩
      rw [all_trues]
      exact h H' e
abbrev s_is_day : Stmt := topS 20
theorem sc_is_day : FnScope ["day"] ["day"] (defScope s_is_day) := ⟨rfl, rfl, rfl, by decide +kernel, rfl, by decide +kernel, by decide +kernel⟩
def spIsDay : Sp := fun vs H Q _ => ∃ d : Int, vs = [.int d] ∧ 0 ≤ d ∧ d ≤ 999 ∧ Q (.bl true) H
theorem ok_is_day (F : FnP K "is_day" "is_day" s_is_day f fd) (T : Tx K w mg aK a1 aL) : FnOk P w K mg base CX0 1 f fd ["day"] spIsDay := by
  refine F.ok sc_is_day (fun vs H Q E h => ?_) (fun cdv A outer s H vs Q E hr h => ⟨_, PSs.nox ((pss_one (ps_ret (pe_chain op_le op_le pe_int (pv 0) (pe_gi rfl T.m_MAX_DAY))))), ?_⟩)
  · obtain ⟨z, rfl, _⟩ := h
    rfl
  · obtain ⟨d, rfl, h1, h2, h⟩ := h
    refine ⟨_, rfl, _, _, rfl, rfl, _, rfl, dT h1 ⟨_, _, rfl, rfl, ?_⟩⟩
    have e : decide (d ≤ 999) = true := decide_eq_true h2
    show Q (.bl (decide (d ≤ 999))) H
    rw [e]
    exact h
theorem sign_nn {n : Int} (h : 0 ≤ n) : 0 ≤ n.sign := by
  rcases Int.lt_or_eq_of_le h with h | h
  · rw [Int.sign_eq_one_of_pos h]
    decide
  · rw [← h]
    decide
abbrev s_is_weight : Stmt := topS 21
theorem sc_is_weight : FnScope ["weight"] ["weight"] (defScope s_is_weight) := ⟨rfl, rfl, rfl, by decide +kernel, rfl, by decide +kernel, by decide +kernel⟩
def spIsWeight : Sp := fun vs H Q _ => ∃ (v : V) (r : Rt), vs = [v] ∧ IsRt H v r ∧ RtOk r ∧ Q (.bl true) H
theorem ok_is_weight (F : FnP K "is_weight" "is_weight" s_is_weight f fd) (T : Tx K w mg aK a1 aL) (g_is_ratio : Fd P w K mg base "is_ratio" 2 ["pair"] spIsRatio) (g_sign_of : Fd P w K mg base "sign_of" 1 ["first"] (spSignOf K)) :
    FnOk P w K mg base CX0 3 f fd ["weight"] spIsWeight := by
  refine F.ok sc_is_weight (fun vs H Q E h => ?_) (fun cdv A outer s H vs Q E hr h => ⟨_, PSs.nox ((pss_one (ps_ret (pe_and (pe_fd g_is_ratio (rm hr) rfl (pa_cons (pv 0) pa_nil)) (pe_one (pe_cmpR op_ge (pe_fd g_sign_of (rm hr) rfl (pa_cons (pv 0) pa_nil)) pe_int (nomark _))))))), ?_⟩)
  · obtain ⟨v, r, rfl, _⟩ := h
    rfl
  · obtain ⟨v, r, rfl, hv, ok, h⟩ := h
    refine ⟨_, rfl, v, r, rfl, hv, ok, _, rfl, iteT ?_⟩
    obtain ⟨a, rfl, ha⟩ := id hv
    refine ⟨_, rfl, a, _, _, rfl, SqT.of ha, _, _, rfl, rfl, ?_⟩
    have e : decide ((0 : Int) ≤ r.1.sign) = true := decide_eq_true (sign_nn ok.n0)
    show Q (.bl (decide ((0 : Int) ≤ r.1.sign))) H
    rw [e]
    exact h
/-! ### papers -/
structure PapOk (p : Pap) : Prop where
  c0 : 0 ≤ p.checked
  c1 : p.checked ≤ p.first
  f1 : p.first ≤ p.last
  l1 : p.last ≤ 999
  z : RtOk p.zero
  s : RtOk p.share
  d : RtOk p.drift
  lt : p.share.1 < p.share.2
abbrev s_check_paper : Stmt := topS 22
theorem sc_check_paper : FnScope ["paper", "first", "last", "zero", "share", "drift", "checked", "one"] ["paper"] (defScope s_check_paper) := ⟨rfl, rfl, rfl, by decide +kernel, rfl, by decide +kernel, by decide +kernel⟩
def spCheckPaper : Sp := fun vs H Q _ => ∃ (v : V) (p : Pap), vs = [v] ∧ IsPap H v p ∧ PapOk p ∧ ∀ H', Ex H H' → Q .non H'
theorem ok_check_paper (F : FnP K "check_paper" "check_paper" s_check_paper f fd) (T : Tx K w mg aK a1 aL) (g_is_weight : Fd P w K mg base "is_weight" 3 ["weight"] spIsWeight) (g_compare : Fd P w K mg base "compare" 2 ["first", "second"] (spCompare K)) :
    FnOk P w K mg base CX0 4 f fd ["paper"] spCheckPaper := by
  refine F.ok sc_check_paper (fun vs H Q E h => ?_) (fun cdv A outer s H vs Q E hr h => ⟨_, PSs.nox ((pss_cons (ps_asg (pv 0) (pg_tup rfl (pgs_cons (pg_name (i := 1) sc_check_paper.nd rfl (Or.inl rfl)) (pgs_cons (pg_name (i := 2) sc_check_paper.nd rfl (Or.inl rfl)) (pgs_cons (pg_name (i := 3) sc_check_paper.nd rfl (Or.inl rfl)) (pgs_cons (pg_name (i := 4) sc_check_paper.nd rfl (Or.inl rfl)) (pgs_cons (pg_name (i := 5) sc_check_paper.nd rfl (Or.inl rfl)) (pgs_cons (pg_name (i := 6) sc_check_paper.nd rfl (Or.inl rfl)) pgs_nil))))))))
      (pss_cons (ps_if (pt_not (pt_chainL pe_int (pl_link op_le (pv 6) (pl_link op_le (pv 1) (pl_link op_le (pv 2) (pl_last op_le (pe_gi rfl T.m_MAX_DAY))))))) (pss_one ps_never) pss_nil)
      (pss_one (ps_if (PW.pt (pw_or (pt_not (pt_val (pe_callB (cr_all rfl) (by rfl) T.b_all (by decide +kernel) (pa_cons (pe_lc (own := [("one", 7)]) rfl sc_check_paper.nd (pi_tup (pe_tup (pa_cons (pv 3) (pa_cons (pv 4) (pa_cons (pv 5) pa_nil))))) (blkOk_by (own := [("one", 7)]) (N := ["paper", "first", "last", "zero", "share", "drift", "checked", "one"]) (sc := defScope s_check_paper) (by decide +kernel)) (fun _ _ _ _ _ => (pg_name (i := 7) sc_check_paper.nd rfl (Or.inl rfl))) (fun _ _ _ _ _ => pts_nil) (fun _ _ _ _ _ => (pe_fd g_is_weight (rm hr) rfl (pa_cons (pv 7) pa_nil)))) pa_nil)))) (pw_or1 (pt_cmpR op_ge (pe_fd g_compare (rm hr) rfl (pa_cons (pv 4) (pa_cons (pe_gr rfl T.m_ONE) pa_nil))) pe_int (nomark _))))) (pss_one ps_never) pss_nil))))), ?_⟩)
  · obtain ⟨v, p, rfl, _⟩ := h
    rfl
  · obtain ⟨v, p, rfl, ⟨a, z, sh, d, rfl, ha, hz, hs, hd⟩, ok, h⟩ := h
    refine ⟨_, rfl, a, _, rfl, SqT.of ha, rfl, _, _, rfl, _, _, rfl, _, _, rfl, _, _, rfl, _, _, rfl, _, _, rfl, rfl, ?_⟩
    refine ⟨_, rfl, _, _, rfl, rfl, _, rfl, dT ok.c0 ⟨_, rfl, _, _, rfl, rfl, _, rfl, dT ok.c1 ⟨_, rfl, _, _, rfl, rfl, _, rfl, dT ok.f1 ⟨_, _, rfl, rfl, _, rfl, ?_⟩⟩⟩⟩
    show if (!decide (p.last ≤ 999)) = true then _ else _
    refine nF ok.l1 ?_
    refine ⟨_, rfl, _, rfl, _, rfl, by show 3 ≤ sizeLine; decide, fun t ht => ⟨t, rfl, ⟨_, SqT.of upd_same⟩, fun D hD => ?_⟩⟩
    have e0 : Ex H (upd H t (.tup [z, sh, d])) := Ex.new ht
    refine lc_walk (wk_tup (SqT.of upd_same)) (by show 3 ≤ 1000; decide) (fun _ => true) (fun _ y _ => y = .bl true) (fun _ _ _ _ r _ => r) hD (fun i x H2 Q1 Q2 hi it e q1 q2 => ?_) (fun ys H' e hy hp => ?_)
    · have hx : ∃ r, IsRt H x r ∧ RtOk r := by
        match i, hi, it with
        | 0, _, it => cases it; exact ⟨_, hz, ok.z⟩
        | 1, _, it => cases it; exact ⟨_, hs, ok.s⟩
        | 2, _, it => cases it; exact ⟨_, hd, ok.d⟩
      obtain ⟨r, hr1, hr2⟩ := hx
      exact ⟨rfl, _, rfl, x, r, rfl, hr1.mono (TT0.of (e0.trans e)), hr2, q1 rfl _ _ (Ex.refl _) rfl⟩
    · rw [hp.trues] at hy
      refine ⟨D, _, rfl, SqL.of hy, _, rfl, ?_⟩
      rw [all_trues]
      refine iteF ?_
      obtain ⟨b, rfl, hb⟩ := hs.mono (TT0.of (e0.trans e))
      have c1 : CMul p.share.1 1 := .inr ⟨by decide, by decide⟩
      have c2 : CMul 1 p.share.2 := .inl ⟨by decide, by decide⟩
      refine ⟨_, rfl, b, a1, _, _, 1, 1, rfl, SqT.of hb, T.ONE _, c1, c2, fun H3 e3 => ⟨_, _, rfl, rfl, _, rfl, ?_⟩⟩
      refine dF (fun z => ?_) (h H3 ((e0.trans e).trans e3))
      have q : p.share.1 * 1 - 1 * p.share.2 < 0 := by have := ok.lt; omega
      rw [Int.sign_eq_neg_one_of_neg q] at z
      omega
abbrev s_check_scale : Stmt := topS 23
theorem sc_check_scale : FnScope ["text"] ["text"] (defScope s_check_scale) := ⟨rfl, rfl, rfl, by decide +kernel, rfl, by decide +kernel, by decide +kernel⟩
def spCheckScale : Sp := fun vs H Q _ => ∃ z : Str, vs = [.str z] ∧ ScOk z ∧ ∀ H', Ex H H' → Q .non H'
theorem ok_check_scale (F : FnP K "check_scale" "check_scale" s_check_scale f fd) (T : Tx K w mg aK a1 aL) (g_is_scale : Fd P w K mg base "is_scale" 1 ["text"] spIsScale) : FnOk P w K mg base CX0 2 f fd ["text"] spCheckScale := by
  refine F.ok sc_check_scale (fun vs H Q E h => ?_) (fun cdv A outer s H vs Q E hr h => ⟨_, PSs.nox ((pss_one (ps_if (pt_not (pt_val (pe_fd g_is_scale (rm hr) rfl (pa_cons (pv 0) pa_nil)))) (pss_one ps_never) pss_nil))), ?_⟩)
  · obtain ⟨z, rfl, _⟩ := h
    rfl
  · obtain ⟨z, rfl, hz, h⟩ := h
    exact ⟨_, rfl, z, rfl, hz, fun H' e => ⟨_, rfl, iteF (h H' e)⟩⟩
abbrev s_check_day : Stmt := topS 24
theorem sc_check_day : FnScope ["day"] ["day"] (defScope s_check_day) := ⟨rfl, rfl, rfl, by decide +kernel, rfl, by decide +kernel, by decide +kernel⟩
def spCheckDay : Sp := fun vs H Q _ => ∃ d : Int, vs = [.int d] ∧ 0 ≤ d ∧ d ≤ 999 ∧ Q .non H
theorem ok_check_day (F : FnP K "check_day" "check_day" s_check_day f fd) (T : Tx K w mg aK a1 aL) (g_is_day : Fd P w K mg base "is_day" 1 ["day"] spIsDay) : FnOk P w K mg base CX0 2 f fd ["day"] spCheckDay := by
  refine F.ok sc_check_day (fun vs H Q E h => ?_) (fun cdv A outer s H vs Q E hr h => ⟨_, PSs.nox ((pss_one (ps_if (pt_not (pt_val (pe_fd g_is_day (rm hr) rfl (pa_cons (pv 0) pa_nil)))) (pss_one ps_never) pss_nil))), ?_⟩)
  · obtain ⟨z, rfl, _⟩ := h
    rfl
  · obtain ⟨d, rfl, h1, h2, h⟩ := h
    exact ⟨_, rfl, d, rfl, h1, h2, _, rfl, iteF h⟩
/-- the earlier one of a day or none and a day -/
def earl : Option Int → Int → Int
  | none, d => d
  | some u, d => if d < u then d else u
def oV : Option Int → V
  | none => .non
  | some u => .int u
abbrev s_earlier : Stmt := topS 25
theorem sc_earlier : FnScope ["until", "day"] ["until", "day"] (defScope s_earlier) := ⟨rfl, rfl, rfl, by decide +kernel, rfl, by decide +kernel, by decide +kernel⟩
def spEarlier : Sp := fun vs H Q _ => ∃ (u : Option Int) (d : Int), vs = [oV u, .int d] ∧ Q (.int (earl u d)) H
theorem ok_earlier (F : FnP K "earlier" "earlier" s_earlier f fd) (T : Tx K w mg aK a1 aL) : FnOk P w K mg base CX0 1 f fd ["until", "day"] spEarlier := by
  refine F.ok sc_earlier (fun vs H Q E h => ?_) (fun cdv A outer s H vs Q E hr h => ⟨_, PSs.nox ((pss_cons (ps_if (PW.pt (pw_or (pt_cmpR op_isN (pv 0) pe_non (nomark _)) (pw_or1 (pt_cmpR op_lt (pv 1) (pv 0) (nomark _))))) (pss_one (ps_ret (pv 1))) pss_nil)
      (pss_one (ps_ret (pv 0))))), ?_⟩)
  · obtain ⟨u, d, rfl, _⟩ := h
    rfl
  · obtain ⟨u, d, rfl, h⟩ := h
    cases u with
    | none => exact ⟨_, rfl, rfl, _, rfl, dT rfl (iteT ⟨_, rfl, h⟩)⟩
    | some u =>
      refine ⟨_, rfl, rfl, _, rfl, dF (fun z => nomatch z) ⟨_, rfl, _, rfl, _, _, rfl, rfl, _, rfl, ?_⟩⟩
      by_cases hlt : d < u
      · refine dT hlt ⟨_, rfl, ?_⟩
        have e : earl (some u) d = d := if_pos hlt
        rw [e] at h
        exact h
      · refine dF hlt ⟨_, rfl, ?_⟩
        have e : earl (some u) d = u := if_neg hlt
        rw [e] at h
        exact h
end
end Kb

set_option Elab.async false
set_option linter.all false
set_option maxRecDepth 100000
set_option maxHeartbeats 4000000
/-! K64, 3: entries looked at. -/
namespace Kb
open PySem PySem.Spec PyProof.Rows L2 Evl TL
section
variable {P : Program} {w : World} {K : PySem.W.Frag} {mg : Str → Option Value} {base : Heap} {aK a1 aL f : Addr} {fd : FuncData}
structure LotsOk (ls : List Int) : Prop where
  n0 : 1 ≤ ls.length
  n1 : ls.length ≤ 8
  r : ∀ i ∈ ls, 0 ≤ i ∧ i ≤ 99
  up : ∀ (i : Nat) (a b : Int), ls[i]? = some a → ls[i + 1]? = some b → a < b
theorem map_get {ls : List Int} {i : Nat} {x : V} (h : (ls.map V.int)[i]? = some x) : ∃ a, ls[i]? = some a ∧ x = .int a := by
  rw [List.getElem?_map] at h
  cases e : ls[i]? with
  | none =>
    rw [e] at h
    cases h
  | some a =>
    rw [e] at h
    exact ⟨a, rfl, (Option.some.inj h).symm⟩
/-- all lots are from 0 to 99, as the comprehension says it -/
theorem lots_all {H1 : Hp} {a D : Addr} {ls : List Int} {vs : List Nat} {j : Nat} {σ : L2.St} {Qd : Hp → Prop} (ha : H1 a = some (.tup (ls.map V.int))) (ok : LotsOk ls) (hD : H1 D = none) (hj : ∀ x, ((wipe σ vs).set j (some x))[j]? = some (some x)) (hw : ∀ x, wipe ((wipe σ vs).set j (some x)) vs = wipe σ vs)
    (hd : ∀ H', Ex H1 H' → H' D = some (.lst ((List.replicate ls.length true).map V.bl)) → Qd H') :
    ∃ W : Nat → Nat → Hp → Prop, (∃ m, W 0 m (upd H1 D (.lst []))) ∧ ∀ i m H, W i m H →
      ((Itt K a).stop i H ∧ Qd H) ∨ ((Itt K a).go i H ∧ ∃ Nx : Hp → Prop, (∀ H', Nx H' → ∃ m', m' < m ∧ W (i + 1) m' H') ∧ ∀ x H', (Itt K a).yld i H x H' → gName j x (wipe σ vs) H' fun σ2 H2 => wipe σ2 vs = wipe σ vs ∧ tYes σ2 H2 fun b H3 =>
        if b = true then tChain (rI0 fun i j => .bl (decide (i ≤ j))) (rI0 fun i j => .bl (decide (i ≤ j))) (tC (.int 0)) (tVar j) (tC (.int 99)) σ2 H3 fun y H4 => ∃ acc, H4 D = some (.lst acc) ∧ acc.length < sizeLine ∧ Nx (upd H4 D (.lst (acc ++ [y]))) else Nx H3) := by
  refine lc_walk (wk_tup (K := K) (SqT.of ha)) (by have := ok.n1; rw [List.length_map]; omega) (fun _ => true) (fun _ y _ => y = .bl true) (fun _ _ _ _ r _ => r) hD (fun i x H2 Q1 Q2 hi it e q1 q2 => ?_) (fun ys H' e hy hp => ?_)
  · obtain ⟨b, hb, rfl⟩ := map_get it
    obtain ⟨b0, b1⟩ := ok.r b (List.mem_of_getElem? hb)
    refine ⟨hw _, _, hj _, _, _, rfl, rfl, _, rfl, dT b0 ⟨_, _, rfl, rfl, q1 rfl _ _ (Ex.refl _) (congrArg V.bl (decide_eq_true b1))⟩⟩
  · rw [hp.trues, List.length_map] at hy
    exact hd H' e hy
/-- the lots ascend, as the comprehension says it -/
theorem lots_up {H1 : Hp} {a D : Addr} {ls : List Int} {vs : List Nat} {j k : Nat} {σ : L2.St} {Qd : Hp → Prop} (ha : H1 a = some (.tup (ls.map V.int))) (ok : LotsOk ls) (hD : H1 D = none) (hj : ∀ x, ((wipe σ vs).set j (some x))[j]? = some (some x)) (hk : ∀ x, ((wipe σ vs).set j (some x))[k]? = some (some (.ref a)))
    (hw : ∀ x, wipe ((wipe σ vs).set j (some x)) vs = wipe σ vs) (hd : ∀ H', Ex H1 H' → H' D = some (.lst ((List.replicate (ls.length - 1) true).map V.bl)) → Qd H') :
    ∃ W : Nat → Nat → Hp → Prop, (∃ m, W 0 m (upd H1 D (.lst []))) ∧ ∀ i m H, W i m H →
      ((Itr 0 (ls.length - 1)).stop i H ∧ Qd H) ∨ ((Itr 0 (ls.length - 1)).go i H ∧ ∃ Nx : Hp → Prop, (∀ H', Nx H' → ∃ m', m' < m ∧ W (i + 1) m' H') ∧ ∀ x H', (Itr 0 (ls.length - 1)).yld i H x H' → gName j x (wipe σ vs) H' fun σ2 H2 => wipe σ2 vs = wipe σ vs ∧ tYes σ2 H2 fun b H3 =>
        if b = true then tOp (rI0 fun i j => .bl (decide (i < j))) (tOp (rIxT K) (tVar k) (tVar j)) (tOp (rIxT K) (tVar k) (tOp (rI0 fun i j => .int (i + j)) (tVar j) (tC (.int 1)))) σ2 H3 fun y H4 => ∃ acc, H4 D = some (.lst acc) ∧ acc.length < sizeLine ∧ Nx (upd H4 D (.lst (acc ++ [y]))) else Nx H3) := by
  refine lc_walk (wk_range (H := H1) (lo := 0) (n := ls.length - 1)) (by have := ok.n1; omega) (fun _ => true) (fun _ y _ => y = .bl true) (fun _ _ _ _ r _ => r) hD (fun i x H2 Q1 Q2 hi it e q1 q2 => ?_) (fun ys H' e hy hp => ?_)
  · subst it
    have h2 := SqT.of (K := K) (e a _ ha)
    have l0 : i < ls.length := by omega
    have l1 : i + 1 < ls.length := by omega
    have e0 : ls[i]? = some ls[i] := List.getElem?_eq_getElem l0
    have e1 : ls[i + 1]? = some ls[i + 1] := List.getElem?_eq_getElem l1
    have z0 : (0 : Int) + (i : Int) = (i : Int) := Int.zero_add _
    have g0 : atI (ls.map V.int) ((0 : Int) + (i : Int)) = some (.int ls[i]) := at_of z0 (by rw [List.getElem?_map, e0]; rfl)
    have g1 : atI (ls.map V.int) ((0 : Int) + (i : Int) + 1) = some (.int ls[i + 1]) := at_of (j := i + 1) (by omega) (by rw [List.getElem?_map, e1]; rfl)
    refine ⟨hw _, _, hk _, _, hj _, a, _, _, _, rfl, rfl, h2, g0, _, hk _, _, hj _, _, _, rfl, rfl, a, _, _, _, rfl, rfl, h2, g1, _, _, rfl, rfl, q1 rfl _ _ (Ex.refl _) (congrArg V.bl (decide_eq_true (ok.up i _ _ e0 e1)))⟩
  · rw [hp.trues] at hy
    exact hd H' e hy
abbrev s_check_lots : Stmt := topS 36
theorem sc_check_lots : FnScope ["lots", "lot", "at"] ["lots"] (defScope s_check_lots) := ⟨rfl, rfl, rfl, by decide +kernel, rfl, by decide +kernel, by decide +kernel⟩
def spCheckLots : Sp := fun vs H Q _ => ∃ (v : V) (ls : List Int), vs = [v] ∧ IsLots H v ls ∧ LotsOk ls ∧ ∀ H', Ex H H' → Q .non H'
theorem ok_check_lots (F : FnP K "check_lots" "check_lots" s_check_lots f fd) (T : Tx K w mg aK a1 aL) : FnOk P w K mg base CX0 1 f fd ["lots"] spCheckLots := by
  refine F.ok sc_check_lots (fun vs H Q E h => ?_) (fun cdv A outer s H vs Q E hr h => ⟨_, PSs.nox ((pss_cons (ps_if (PW.pt (pw_or (pt_cmpR op_lt (pe_callB call_len_seq (by rfl) T.b_len PySem.boot_len (pa_cons (pv 0) pa_nil)) pe_int (nomark _)) (pw_or (pt_cmpR op_gt (pe_callB call_len_seq (by rfl) T.b_len PySem.boot_len (pa_cons (pv 0) pa_nil)) (pe_gi rfl T.m_MAX_WEIGHED_entries) (nomark _)) (pw_or1 (pt_not (pt_val (pe_callB (cr_all rfl) (by rfl) T.b_all (by decide +kernel) (pa_cons (pe_lc (own := [("lot", 1)]) rfl sc_check_lots.nd (pi_tup (pv 0)) (blkOk_by (own := [("lot", 1)]) (N := ["lots", "lot", "at"]) (sc := defScope s_check_lots) (by decide +kernel)) (fun _ _ _ _ _ => (pg_name (i := 1) sc_check_lots.nd rfl (Or.inl rfl))) (fun _ _ _ _ _ => pts_nil) (fun _ _ _ _ _ => (pe_chain op_le op_le pe_int (pv 1) (pe_gi rfl T.m_MAX_LOT)))) pa_nil)))))))) (pss_one ps_never) pss_nil)
      (pss_one (ps_if (pt_not (pt_val (pe_callB (cr_all rfl) (by rfl) T.b_all (by decide +kernel) (pa_cons (pe_lc (own := [("at", 2)]) rfl sc_check_lots.nd (pi_range1 rfl T.b_range (pa_cons (pe_op op_sub (pe_callB call_len_seq (by rfl) T.b_len PySem.boot_len (pa_cons (pv 0) pa_nil)) pe_int) pa_nil)) (blkOk_by (own := [("at", 2)]) (N := ["lots", "lot", "at"]) (sc := defScope s_check_lots) (by decide +kernel)) (fun _ _ _ _ _ => (pg_name (i := 2) sc_check_lots.nd rfl (Or.inl rfl))) (fun _ _ _ _ _ => pts_nil) (fun _ _ _ _ _ => (pe_cmpR op_lt (pe_ix (r := rIxT K) ix_tup (pv 0) (pv 2) (fun _ _ => rfl)) (pe_ix (r := rIxT K) ix_tup (pv 0) (pe_op op_add (pv 2) pe_int) (fun _ _ => rfl)) (nomark _)))) pa_nil)))) (pss_one ps_never) pss_nil)))), ?_⟩)
  · obtain ⟨v, ls, rfl, _⟩ := h
    rfl
  · obtain ⟨v, ls, rfl, ⟨a, rfl, ha⟩, ok, h⟩ := h
    have n0 := ok.n0
    have n1 := ok.n1
    refine ⟨_, rfl, a, _, rfl, .inr (SqT.of ha), _, _, rfl, rfl, _, rfl, dF (by rw [List.length_map]; omega) ?_⟩
    refine ⟨_, rfl, a, _, rfl, .inr (SqT.of ha), _, _, rfl, rfl, _, rfl, dF (by rw [List.length_map]; omega) ?_⟩
    refine ⟨_, rfl, a, rfl, ⟨_, SqT.of ha⟩, fun D hD => lots_all ha ok hD (fun _ => rfl) (fun _ => rfl) fun H2 e2 hy2 => ?_⟩
    refine ⟨D, _, rfl, SqL.of hy2, _, rfl, ?_⟩
    rw [all_trues]
    refine ⟨_, rfl, a, _, rfl, .inr (SqT.of (e2 a _ ha)), _, _, rfl, rfl, _, rfl, by rw [List.length_map]; omega, by rw [List.length_map]; omega, ?_⟩
    have en : ((((ls.map V.int).length : Nat) : Int) - 1).toNat = ls.length - 1 := by rw [List.length_map]; omega
    rw [en]
    refine fun D2 hD2 => lots_up (e2 a _ ha) ok hD2 (fun _ => rfl) (fun _ => rfl) (fun _ => rfl) fun H3 e3 hy3 => ?_
    refine ⟨D2, _, rfl, SqL.of hy3, _, rfl, ?_⟩
    rw [all_trues]
    exact iteF (h H3 (e2.trans e3))
end
end Kb

set_option Elab.async false
set_option linter.all false
set_option maxRecDepth 100000
set_option maxHeartbeats 4000000
/-! K64, 4: entries looked at, all kinds. -/
namespace Kb
open PySem PySem.Spec PyProof.Rows L2 Evl TL
section
variable {P : Program} {w : World} {K : PySem.W.Frag} {mg : Str → Option Value} {base : Heap} {aK a1 aL f : Addr} {fd : FuncData}
theorem kn_p_r : ¬ V.str "paper" = V.str "recall" := by decide +kernel
theorem kn_p_w : ¬ V.str "paper" = V.str "weighing" := by decide +kernel
theorem kn_p_k : ¬ V.str "paper" = V.str "known" := by decide +kernel
theorem kn_p_f : ¬ V.str "paper" = V.str "find" := by decide +kernel
theorem kn_r_p : ¬ V.str "recall" = V.str "paper" := by decide +kernel
theorem kn_r_w : ¬ V.str "recall" = V.str "weighing" := by decide +kernel
theorem kn_r_k : ¬ V.str "recall" = V.str "known" := by decide +kernel
theorem kn_r_f : ¬ V.str "recall" = V.str "find" := by decide +kernel
theorem kn_w_p : ¬ V.str "weighing" = V.str "paper" := by decide +kernel
theorem kn_w_r : ¬ V.str "weighing" = V.str "recall" := by decide +kernel
theorem kn_w_k : ¬ V.str "weighing" = V.str "known" := by decide +kernel
theorem kn_w_f : ¬ V.str "weighing" = V.str "find" := by decide +kernel
theorem kn_k_p : ¬ V.str "known" = V.str "paper" := by decide +kernel
theorem kn_k_r : ¬ V.str "known" = V.str "recall" := by decide +kernel
theorem kn_k_w : ¬ V.str "known" = V.str "weighing" := by decide +kernel
theorem kn_k_f : ¬ V.str "known" = V.str "find" := by decide +kernel
theorem kn_f_p : ¬ V.str "find" = V.str "paper" := by decide +kernel
theorem kn_f_r : ¬ V.str "find" = V.str "recall" := by decide +kernel
theorem kn_f_w : ¬ V.str "find" = V.str "weighing" := by decide +kernel
theorem kn_f_k : ¬ V.str "find" = V.str "known" := by decide +kernel
def DayOk (d : Int) : Prop := 0 ≤ d ∧ d ≤ 999
def Ent.Ok : Ent → Prop
  | .paper sc p => ScOk sc ∧ PapOk p
  | .recall sc p day => ScOk sc ∧ PapOk p ∧ DayOk day
  | .weighing sc day ls r => ScOk sc ∧ DayOk day ∧ LotsOk ls ∧ RtOk r
  | .known ls r => LotsOk ls ∧ RtOk r
  | .find lot _ => 0 ≤ lot ∧ lot ≤ 99
def Ent.rts : Ent → List Rt
  | .paper _ p => [p.zero, p.share, p.drift]
  | .recall _ p _ => [p.zero, p.share, p.drift]
  | .weighing _ _ _ r => [r]
  | .known _ r => [r]
  | .find _ _ => []
theorem Ent.rts_ok {e : Ent} (h : e.Ok) : ∀ r ∈ e.rts, RtOk r := by
  intro r hr
  cases e with
  | paper sc p =>
    simp only [Ent.rts, List.mem_cons, List.not_mem_nil, or_false] at hr
    rcases hr with rfl | rfl | rfl
    · exact h.2.z
    · exact h.2.s
    · exact h.2.d
  | recall sc p d =>
    simp only [Ent.rts, List.mem_cons, List.not_mem_nil, or_false] at hr
    rcases hr with rfl | rfl | rfl
    · exact h.2.1.z
    · exact h.2.1.s
    · exact h.2.1.d
  | weighing sc d ls q =>
    simp only [Ent.rts, List.mem_cons, List.not_mem_nil, or_false] at hr
    subst hr
    exact h.2.2.2
  | known ls q =>
    simp only [Ent.rts, List.mem_cons, List.not_mem_nil, or_false] at hr
    subst hr
    exact h.2
  | find l b => simp [Ent.rts] at hr
theorem Ent.rts_len (e : Ent) : e.rts.length ≤ 3 := by cases e <;> simp [Ent.rts]
abbrev s_check_known : Stmt := topS 37
theorem sc_check_known : FnScope ["entry"] ["entry"] (defScope s_check_known) := ⟨rfl, rfl, rfl, by decide +kernel, rfl, by decide +kernel, by decide +kernel⟩
def spCheckKnown : Sp := fun vs H Q _ => ∃ (v : V) (ls : List Int) (r : Rt), vs = [v] ∧ IsEnt H v (.known ls r) ∧ LotsOk ls ∧ RtOk r ∧ ∀ H', Ex H H' → Q .non H'
theorem ok_check_known (F : FnP K "check_known" "check_known" s_check_known f fd) (T : Tx K w mg aK a1 aL) (g_check_lots : Fd P w K mg base "check_lots" 1 ["lots"] spCheckLots) (g_sign_of : Fd P w K mg base "sign_of" 1 ["first"] (spSignOf K)) :
    FnOk P w K mg base CX0 2 f fd ["entry"] spCheckKnown := by
  refine F.ok sc_check_known (fun vs H Q E h => ?_) (fun cdv A outer s H vs Q E hr h => ⟨_, PSs.nox ((pss_cons (ps_expr (pe_fd g_check_lots (rm hr) rfl (pa_cons (pe_ix ix_tup (pv 0) pe_int (fun _ _ => rfl)) pa_nil)))
      (pss_one (ps_if (pt_cmpR op_lt (pe_fd g_sign_of (rm hr) rfl (pa_cons (pe_ix ix_tup (pv 0) pe_int (fun _ _ => rfl)) pa_nil)) pe_int (nomark _)) (pss_one ps_never) pss_nil)))), ?_⟩)
  · obtain ⟨v, ls, r, rfl, _⟩ := h
    rfl
  · obtain ⟨v, ls, r, rfl, ⟨a, xs, rfl, ha, u, x, rfl, hu, b, rfl, hb⟩, ok, ok2, h⟩ := h
    refine ⟨_, rfl, a, _, 1, _, rfl, rfl, SqT.of ha, rfl, u, ls, rfl, hu, ok, fun H2 e2 => ?_⟩
    refine ⟨_, rfl, a, _, 2, _, rfl, rfl, SqT.of (e2 a _ ha), rfl, b, _, _, rfl, SqT.of (e2 b _ hb), _, _, rfl, rfl, _, rfl, dF (fun z => ?_) (h H2 e2)⟩
    have := sign_nn ok2.n0
    omega
abbrev s_ratios_of : Stmt := topS 38
theorem sc_ratios_of : FnScope ["entry"] ["entry"] (defScope s_ratios_of) := ⟨rfl, rfl, rfl, by decide +kernel, rfl, by decide +kernel, by decide +kernel⟩
def spRatiosOf : Sp := fun vs H Q _ => ∃ (v : V) (e : Ent), vs = [v] ∧ IsEnt H v e ∧ ∀ p xs H', Ex H H' → H' p = some (.lst xs) → All2 (IsRt H') xs e.rts → Q (.ref p) H'
theorem ok_ratios_of (F : FnP K "ratios_of" "ratios_of" s_ratios_of f fd) (T : Tx K w mg aK a1 aL) : FnOk P w K mg base CX0 1 f fd ["entry"] spRatiosOf := by
  refine F.ok sc_ratios_of (fun vs H Q E h => ?_) (fun cdv A outer s H vs Q E hr h => ⟨_, PSs.nox ((pss_cons (ps_if (PW.pt (pw_or (pt_cmpR op_eq (pe_ix ix_tup (pv 0) pe_int (fun _ _ => rfl)) pe_str (nomark _)) (pw_or1 (pt_cmpR op_eq (pe_ix ix_tup (pv 0) pe_int (fun _ _ => rfl)) pe_str (nomark _))))) (pss_one (ps_ret (pe_lst (pa_cons (pe_ix ix_tup (pv 0) (pe_un un_neg pe_int) (fun _ _ => rfl)) pa_nil)))) pss_nil)
      (pss_cons (ps_if (pt_cmpR op_eq (pe_ix ix_tup (pv 0) pe_int (fun _ _ => rfl)) pe_str (nomark _)) (pss_one (ps_ret (pe_lst pa_nil))) pss_nil)
      (pss_one (ps_ret (pe_callTy call_list_of (by rfl) T.b_list (by decide +kernel) (pa_cons (pe_slice sl_tup (pe_ix ix_tup (pv 0) pe_int (fun _ _ => rfl)) (po_some pe_int) (po_some pe_int)) pa_nil))))))), ?_⟩)
  · obtain ⟨v, e, rfl, _⟩ := h
    rfl
  · obtain ⟨v, e, rfl, ⟨a, xs, rfl, ha, hx⟩, h⟩ := h
    have pp : ∀ (v : V) (p : Pap), IsPap H v p → (∀ q ys H', Ex H H' → H' q = some (.lst ys) → All2 (IsRt H') ys [p.zero, p.share, p.drift] → Q (.ref q) H') → xs[1]? = some v →
        tRet (tCB (fun xs H_1 Q => ∃ p ys, xs = [.ref p] ∧ (SqL K H_1 p ys ∨ SqT K H_1 p ys) ∧ ∀ l, H_1 l = none → Q (.ref l) (upd H_1 l (.lst ys))) (tCons (tSl (rSlT K) (tOp (rIxT K) (tVar 0) (tC (.int 2))) (tPart (tC (.int 2))) (tPart (tC (.int 5)))) tNil)) { nx := fun _ H' => Q .non H', rt := Q } (L2.start ["entry"] [.ref a]) H := by
      rintro v p ⟨b, z, s, d, rfl, hb, h1, h2, h3⟩ k ex
      refine ⟨_, rfl, a, _, 2, .ref b, rfl, rfl, SqT.of ha, ?_, 2, rfl, 5, rfl, b, _, rfl, SqT.of hb, ?_, fun t ht => ⟨t, _, rfl, .inr (SqT.of upd_same), fun l hl => ?_⟩⟩
      · exact at_of (j := 2) rfl (by simpa using ex)
      · show ¬ (HT.sIx 6 0 (some 2) = 0 ∧ HT.sIx 6 6 (some 5) = 6)
        decide
      · have e1 := Ex.new (o := .tup (cutV [V.int p.first, V.int p.last, z, s, d, V.int p.checked] (some 2) (some 5))) ht
        have t2 := TT0.of (e1.trans (Ex.new (o := .lst (cutV [V.int p.first, V.int p.last, z, s, d, V.int p.checked] (some 2) (some 5))) hl))
        exact k l _ _ (e1.trans (Ex.new hl)) upd_same (.cons (h1.mono t2) (.cons (h2.mono t2) (.cons (h3.mono t2) .nil)))
    cases e with
    | paper sc p =>
      obtain ⟨v, rfl, hv⟩ := hx
      refine ⟨_, rfl, a, _, 0, _, rfl, rfl, SqT.of ha, rfl, rfl, _, rfl, dF kn_p_k ?_⟩
      refine ⟨_, rfl, a, _, 0, _, rfl, rfl, SqT.of ha, rfl, rfl, _, rfl, dF kn_p_w ?_⟩
      refine ⟨_, rfl, a, _, 0, _, rfl, rfl, SqT.of ha, rfl, rfl, _, rfl, dF kn_p_f ?_⟩
      exact pp v p hv h rfl
    | recall sc p d =>
      obtain ⟨v, rfl, hv⟩ := hx
      refine ⟨_, rfl, a, _, 0, _, rfl, rfl, SqT.of ha, rfl, rfl, _, rfl, dF kn_r_k ?_⟩
      refine ⟨_, rfl, a, _, 0, _, rfl, rfl, SqT.of ha, rfl, rfl, _, rfl, dF kn_r_w ?_⟩
      refine ⟨_, rfl, a, _, 0, _, rfl, rfl, SqT.of ha, rfl, rfl, _, rfl, dF kn_r_f ?_⟩
      exact pp v p hv h rfl
    | weighing sc d ls r =>
      obtain ⟨u, v, rfl, hu, hv⟩ := hx
      refine ⟨_, rfl, a, _, 0, _, rfl, rfl, SqT.of ha, rfl, rfl, _, rfl, dF kn_w_k ?_⟩
      refine ⟨_, rfl, a, _, 0, _, rfl, rfl, SqT.of ha, rfl, rfl, _, rfl, dT rfl ?_⟩
      refine ⟨_, rfl, 1, rfl, a, _, -1, _, rfl, rfl, SqT.of ha, rfl, by show 1 ≤ sizeLine; decide, fun p hp => h p _ _ (Ex.new hp) upd_same (.cons (hv.mono (TT0.of (Ex.new hp))) .nil)⟩
    | known ls r =>
      obtain ⟨u, v, rfl, hu, hv⟩ := hx
      refine ⟨_, rfl, a, _, 0, _, rfl, rfl, SqT.of ha, rfl, rfl, _, rfl, dT rfl (iteT ?_)⟩
      refine ⟨_, rfl, 1, rfl, a, _, -1, _, rfl, rfl, SqT.of ha, rfl, by show 1 ≤ sizeLine; decide, fun p hp => h p _ _ (Ex.new hp) upd_same (.cons (hv.mono (TT0.of (Ex.new hp))) .nil)⟩
    | find l b =>
      obtain rfl := hx
      refine ⟨_, rfl, a, _, 0, _, rfl, rfl, SqT.of ha, rfl, rfl, _, rfl, dF kn_f_k ?_⟩
      refine ⟨_, rfl, a, _, 0, _, rfl, rfl, SqT.of ha, rfl, rfl, _, rfl, dF kn_f_w ?_⟩
      refine ⟨_, rfl, a, _, 0, _, rfl, rfl, SqT.of ha, rfl, rfl, _, rfl, dT rfl ?_⟩
      exact ⟨by show 0 ≤ sizeLine; decide, fun p hp => h p _ _ (Ex.new hp) upd_same .nil⟩
end
end Kb

set_option Elab.async false
set_option linter.all false
set_option maxRecDepth 100000
set_option maxHeartbeats 4000000
/-! K64, 5: a weighing, an entry. -/
namespace Kb
open PySem PySem.Spec PyProof.Rows L2 Evl TL
section
variable {P : Program} {w : World} {K : PySem.W.Frag} {mg : Str → Option Value} {base : Heap} {aK a1 aL f : Addr} {fd : FuncData}
abbrev s_check_weighing : Stmt := topS 30
theorem sc_check_weighing : FnScope ["weighing", "scale", "day", "lots", "reading", "lot", "at"] ["weighing"] (defScope s_check_weighing) := ⟨rfl, rfl, rfl, by decide +kernel, rfl, by decide +kernel, by decide +kernel⟩
def spCheckWeighing : Sp := fun vs H Q _ => ∃ (v : V) (sc : Str) (day : Int) (ls : List Int) (r : Rt), vs = [v] ∧ IsTail H v (.weighing sc day ls r) ∧ ScOk sc ∧ DayOk day ∧ LotsOk ls ∧ RtOk r ∧ ∀ H', Ex H H' → Q .non H'
theorem ok_check_weighing (F : FnP K "check_weighing" "check_weighing" s_check_weighing f fd) (T : Tx K w mg aK a1 aL) (g_check_scale : Fd P w K mg base "check_scale" 2 ["text"] spCheckScale) (g_check_day : Fd P w K mg base "check_day" 2 ["day"] spCheckDay)
    (g_is_weight : Fd P w K mg base "is_weight" 3 ["weight"] spIsWeight) : FnOk P w K mg base CX0 4 f fd ["weighing"] spCheckWeighing := by
  refine F.ok sc_check_weighing (fun vs H Q E h => ?_) (fun cdv A outer s H vs Q E hr h => ⟨_, PSs.nox ((pss_cons (ps_asg (pv 0) (pg_tup rfl (pgs_cons (pg_name (i := 1) sc_check_weighing.nd rfl (Or.inl rfl)) (pgs_cons (pg_name (i := 2) sc_check_weighing.nd rfl (Or.inl rfl)) (pgs_cons (pg_name (i := 3) sc_check_weighing.nd rfl (Or.inr rfl)) (pgs_cons (pg_name (i := 4) sc_check_weighing.nd rfl (Or.inl rfl)) pgs_nil))))))
      (pss_cons (ps_expr (pe_fd g_check_scale (rm hr) rfl (pa_cons (pv 1) pa_nil)))
      (pss_cons (ps_expr (pe_fd g_check_day (rm hr) rfl (pa_cons (pv 2) pa_nil)))
      (pss_cons (ps_if (PW.pt (pw_or (pt_not (pt_chain op_le op_le pe_int (pe_callB call_len_seq (by rfl) T.b_len PySem.boot_len (pa_cons (pv 3) pa_nil)) (pe_gi rfl T.m_MAX_WEIGHED_weighings))) (pw_or1 (pt_not (pt_val (pe_callB (cr_all rfl) (by rfl) T.b_all (by decide +kernel) (pa_cons (pe_lc (own := [("lot", 5)]) rfl sc_check_weighing.nd (pi_tup (pv 3)) (blkOk_by (own := [("lot", 5)]) (N := ["weighing", "scale", "day", "lots", "reading", "lot", "at"]) (sc := defScope s_check_weighing) (by decide +kernel)) (fun _ _ _ _ _ => (pg_name (i := 5) sc_check_weighing.nd rfl (Or.inl rfl))) (fun _ _ _ _ _ => pts_nil) (fun _ _ _ _ _ => (pe_chain op_le op_le pe_int (pv 5) (pe_gi rfl T.m_MAX_NUMBER)))) pa_nil))))))) (pss_one ps_never) pss_nil)
      (pss_one (ps_if (PW.pt (pw_or (pt_not (pt_val (pe_callB (cr_all rfl) (by rfl) T.b_all (by decide +kernel) (pa_cons (pe_lc (own := [("at", 6)]) rfl sc_check_weighing.nd (pi_range1 rfl T.b_range (pa_cons (pe_op op_sub (pe_callB call_len_seq (by rfl) T.b_len PySem.boot_len (pa_cons (pv 3) pa_nil)) pe_int) pa_nil)) (blkOk_by (own := [("at", 6)]) (N := ["weighing", "scale", "day", "lots", "reading", "lot", "at"]) (sc := defScope s_check_weighing) (by decide +kernel)) (fun _ _ _ _ _ => (pg_name (i := 6) sc_check_weighing.nd rfl (Or.inl rfl))) (fun _ _ _ _ _ => pts_nil) (fun _ _ _ _ _ => (pe_cmpR op_lt (pe_ix (r := rIxT K) ix_tup (pv 3) (pv 6) (fun _ _ => rfl)) (pe_ix (r := rIxT K) ix_tup (pv 3) (pe_op op_add (pv 6) pe_int) (fun _ _ => rfl)) (nomark _)))) pa_nil)))) (pw_or1 (pt_not (pt_val (pe_fd g_is_weight (rm hr) rfl (pa_cons (pv 4) pa_nil))))))) (pss_one ps_never) pss_nil))))))), ?_⟩)
  · obtain ⟨v, sc, day, ls, r, rfl, _⟩ := h
    rfl
  · obtain ⟨v, sc, day, ls, r, rfl, ⟨t, xs, rfl, ht, u, x, rfl, ⟨a, rfl, ha⟩, hx⟩, osc, oday, ok, ort, h⟩ := h
    have n0 := ok.n0
    have n1 := ok.n1
    refine ⟨_, rfl, t, _, rfl, SqT.of ht, rfl, _, _, rfl, _, _, rfl, _, _, rfl, _, _, rfl, rfl, ?_⟩
    refine ⟨_, rfl, sc, rfl, osc, fun H1 e1 => ⟨_, rfl, day, rfl, oday.1, oday.2, ?_⟩⟩
    have ha1 := e1 a _ ha
    refine ⟨_, rfl, a, _, rfl, .inr (SqT.of ha1), _, _, rfl, rfl, _, rfl, dT (by rw [List.length_map]; omega) ⟨_, _, rfl, rfl, _, rfl, ?_⟩⟩
    have e8 : (!decide ((((ls.map V.int).length : Nat) : Int) ≤ 8)) = false := by
      rw [decide_eq_true (show (((ls.map V.int).length : Nat) : Int) ≤ 8 by rw [List.length_map]; omega)]
      rfl
    refine bF e8 ?_
    refine ⟨_, rfl, a, rfl, ⟨_, SqT.of ha1⟩, fun D hD => lots_all ha1 ok hD (fun _ => rfl) (fun _ => rfl) fun H2 e2 hy2 => ?_⟩
    refine ⟨D, _, rfl, SqL.of hy2, _, rfl, ?_⟩
    rw [all_trues]
    refine iteF ?_
    refine ⟨_, rfl, a, _, rfl, .inr (SqT.of (e2 a _ ha1)), _, _, rfl, rfl, _, rfl, by rw [List.length_map]; omega, by rw [List.length_map]; omega, ?_⟩
    have en : ((((ls.map V.int).length : Nat) : Int) - 1).toNat = ls.length - 1 := by rw [List.length_map]; omega
    rw [en]
    refine fun D2 hD2 => lots_up (e2 a _ ha1) ok hD2 (fun _ => rfl) (fun _ => rfl) (fun _ => rfl) fun H3 e3 hy3 => ?_
    refine ⟨D2, _, rfl, SqL.of hy3, _, rfl, ?_⟩
    rw [all_trues]
    refine iteF ⟨_, rfl, x, r, rfl, hx.mono (TT0.of ((e1.trans e2).trans e3)), ort, _, rfl, iteF (h H3 ((e1.trans e2).trans e3))⟩
theorem ink_p : inV (.str "paper") [.str "find", .str "known", .str "paper", .str "recall", .str "weighing"] = true := by decide +kernel
theorem ink_r : inV (.str "recall") [.str "find", .str "known", .str "paper", .str "recall", .str "weighing"] = true := by decide +kernel
theorem ink_w : inV (.str "weighing") [.str "find", .str "known", .str "paper", .str "recall", .str "weighing"] = true := by decide +kernel
theorem ink_k : inV (.str "known") [.str "find", .str "known", .str "paper", .str "recall", .str "weighing"] = true := by decide +kernel
theorem ink_f : inV (.str "find") [.str "find", .str "known", .str "paper", .str "recall", .str "weighing"] = true := by decide +kernel
abbrev s_check_entry : Stmt := topS 39
theorem sc_check_entry : FnScope ["entry", "kind", "part"] ["entry"] (defScope s_check_entry) := ⟨rfl, rfl, rfl, by decide +kernel, rfl, by decide +kernel, by decide +kernel⟩
def spCheckEntry : Sp := fun vs H Q _ => ∃ (v : V) (e : Ent), vs = [v] ∧ IsEnt H v e ∧ e.Ok ∧ ∀ H', Ex H H' → Q .non H'
theorem ok_check_entry (F : FnP K "check_entry" "check_entry" s_check_entry f fd) (T : Tx K w mg aK a1 aL) (g_check_weighing : Fd P w K mg base "check_weighing" 4 ["weighing"] spCheckWeighing) (g_check_known : Fd P w K mg base "check_known" 2 ["entry"] spCheckKnown)
    (g_is_scale : Fd P w K mg base "is_scale" 1 ["text"] spIsScale) (g_check_paper : Fd P w K mg base "check_paper" 4 ["paper"] spCheckPaper) (g_ratios_of : Fd P w K mg base "ratios_of" 1 ["entry"] spRatiosOf) (g_ratio_text : Fd P w K mg base "ratio_text" 1 ["first"] spRatioText) :
    FnOk P w K mg base CX0 5 f fd ["entry"] spCheckEntry := by
  refine F.ok sc_check_entry (fun vs H Q E h => ?_) (fun cdv A outer s H vs Q E hr h => ⟨_, PSs.nox ((pss_cons (ps_set (i := 1) sc_check_entry.nd rfl (Or.inl rfl) (pe_ix ix_tup (pv 0) pe_int (fun _ _ => rfl)))
      (pss_cons (ps_if (PW.pt (pw_or (pt_cmpR op_notIn_seq (pv 1) (pe_gr rfl T.m_KINDS) (by rfl)) (pw_or1 (pt_cmpR op_ne (pe_callB call_len_seq (by rfl) T.b_len PySem.boot_len (pa_cons (pv 0) pa_nil)) (pe_ix ix_kdict (pe_gr rfl T.m_LENGTHS) (pv 1) (fun _ _ => rfl)) (nomark _))))) (pss_one ps_never) pss_nil)
      (pss_cut (ps_if (pt_cmpR op_eq (pv 1) pe_str (nomark _)) (pss_one (ps_expr (pe_fd g_check_weighing (rm hr) rfl (pa_cons (pe_slice sl_tup (pv 0) (po_some pe_int) po_none) pa_nil)))) (pss_one (ps_if (pt_cmpR op_eq (pv 1) pe_str (nomark _)) (pss_one (ps_expr (pe_fd g_check_known (rm hr) rfl (pa_cons (pv 0) pa_nil)))) (pss_one (ps_if (pt_cmpR op_eq (pv 1) pe_str (nomark _)) (pss_one (ps_if (PW.pt (pw_or (pt_cmpR op_lt (pe_ix ix_tup (pv 0) pe_int (fun _ _ => rfl)) pe_int (nomark _)) (pw_or1 (pt_cmpR op_gt (pe_ix ix_tup (pv 0) pe_int (fun _ _ => rfl)) (pe_gi rfl T.m_MAX_LOT) (nomark _))))) (pss_one ps_never) pss_nil)) (pss_cons (ps_if (pt_not (pt_val (pe_fd g_is_scale (rm hr) rfl (pa_cons (pe_ix ix_tup (pv 0) pe_int (fun _ _ => rfl)) pa_nil)))) (pss_one ps_never) pss_nil)
      (pss_cons (ps_expr (pe_fd g_check_paper (rm hr) rfl (pa_cons (pe_ix ix_tup (pv 0) pe_int (fun _ _ => rfl)) pa_nil)))
      (pss_one (ps_if (PW.pt (pw_and (pt_cmpR op_eq (pv 1) pe_str (nomark _)) (pw_and1 (pt_not (pt_chain op_le op_le pe_int (pe_ix ix_tup (pv 0) pe_int (fun _ _ => rfl)) (pe_gi rfl T.m_MAX_DAY)))))) (pss_one ps_never) pss_nil)))))))))
      (pss_one (ps_if (pt_not (pt_val (pe_callB (cr_all rfl) (by rfl) T.b_all (by decide +kernel) (pa_cons (pe_lc (own := [("part", 2)]) rfl sc_check_entry.nd (pi_list (pe_fd g_ratios_of (rm hr) rfl (pa_cons (pv 0) pa_nil))) (blkOk_by (own := [("part", 2)]) (N := ["entry", "kind", "part"]) (sc := defScope s_check_entry) (by decide +kernel)) (fun _ _ _ _ _ => (pg_name (i := 2) sc_check_entry.nd rfl (Or.inl rfl))) (fun _ _ _ _ _ => pts_nil) (fun _ _ _ _ _ => (pe_cmpR op_le (pe_callB call_len_str (by rfl) T.b_len PySem.boot_len (pa_cons (pe_fd g_ratio_text (rm hr) rfl (pa_cons (pv 2) pa_nil)) pa_nil)) (pe_gi rfl T.m_MAX_TEXT) (nomark _)))) pa_nil)))) (pss_one ps_never) pss_nil)))))), ?_⟩)
  · obtain ⟨v, e, rfl, _⟩ := h
    rfl
  · obtain ⟨v, e, rfl, hv, ok, h⟩ := h
    obtain ⟨a, xs, rfl, ha, hx⟩ := id hv
    refine ⟨_, rfl, a, _, 0, .str e.kind, rfl, rfl, SqT.of ha, at_of (j := 0) rfl rfl, ?_⟩
    have hin : ∃ n : Nat, inV (.str e.kind) [.str "find", .str "known", .str "paper", .str "recall", .str "weighing"] = true ∧ KDct K w aL e.kind (.int n) ∧ (V.str e.kind :: xs).length = n := by
      cases e with
      | paper sc p => obtain ⟨v, rfl, _⟩ := hx; exact ⟨3, ink_p, T.L_paper, rfl⟩
      | recall sc p d => obtain ⟨v, rfl, _⟩ := hx; exact ⟨4, ink_r, T.L_recall, rfl⟩
      | weighing sc d ls r => obtain ⟨u, v, rfl, _⟩ := hx; exact ⟨5, ink_w, T.L_weighing, rfl⟩
      | known ls r => obtain ⟨u, v, rfl, _⟩ := hx; exact ⟨3, ink_k, T.L_known, rfl⟩
      | find l b => obtain rfl := hx; exact ⟨3, ink_f, T.L_find, rfl⟩
    obtain ⟨n, i1, i2, i3⟩ := hin
    refine ⟨_, rfl, aK, _, rfl, .inr (T.KINDS _), rfl, rfl, _, rfl, ?_⟩
    refine bF (show (!inV (.str e.kind) _) = false by rw [i1]; rfl) ?_
    refine ⟨_, rfl, a, _, rfl, .inr (SqT.of ha), _, rfl, aL, _, _, rfl, rfl, i2, rfl, _, rfl, nF (congrArg V.int (by rw [i3])) ?_⟩
    refine ⟨fun σ' H' => σ' = [some (.ref a), some (.str e.kind), none] ∧ Ex H H', ?_, ?_⟩
    · cases e with
      | paper sc p =>
        obtain ⟨v, rfl, hp⟩ := hx
        refine ⟨_, rfl, rfl, _, rfl, dF kn_p_w ⟨_, rfl, rfl, _, rfl, dF kn_p_k ⟨_, rfl, rfl, _, rfl, dF kn_p_f ?_⟩⟩⟩
        refine ⟨_, rfl, a, _, 1, _, rfl, rfl, SqT.of ha, rfl, sc, rfl, ok.1, fun H1 e1 => ⟨_, rfl, iteF ?_⟩⟩
        refine ⟨_, rfl, a, _, 2, _, rfl, rfl, SqT.of (e1 a _ ha), rfl, v, p, rfl, hp.mono (TT0.of e1), ok.2, fun H2 e2 => ⟨_, rfl, rfl, _, rfl, dF kn_p_r ?_⟩⟩
        exact ⟨rfl, e1.trans e2⟩
      | recall sc p d =>
        obtain ⟨v, rfl, hp⟩ := hx
        refine ⟨_, rfl, rfl, _, rfl, dF kn_r_w ⟨_, rfl, rfl, _, rfl, dF kn_r_k ⟨_, rfl, rfl, _, rfl, dF kn_r_f ?_⟩⟩⟩
        refine ⟨_, rfl, a, _, 1, _, rfl, rfl, SqT.of ha, rfl, sc, rfl, ok.1, fun H1 e1 => ⟨_, rfl, iteF ?_⟩⟩
        refine ⟨_, rfl, a, _, 2, _, rfl, rfl, SqT.of (e1 a _ ha), rfl, v, p, rfl, hp.mono (TT0.of e1), ok.2.1, fun H2 e2 => ⟨_, rfl, rfl, _, rfl, dT rfl ?_⟩⟩
        refine ⟨_, rfl, a, _, 3, _, rfl, rfl, SqT.of (e2 a _ (e1 a _ ha)), rfl, _, _, rfl, rfl, _, rfl, dT ok.2.2.1 ⟨_, _, rfl, rfl, _, rfl, ?_⟩⟩
        refine bF (show (!decide (d ≤ 999)) = false by rw [decide_eq_true ok.2.2.2]; rfl) ?_
        exact ⟨rfl, e1.trans e2⟩
      | weighing sc d ls r =>
        obtain ⟨u, v, rfl, hu, hv2⟩ := hx
        refine ⟨_, rfl, rfl, _, rfl, dT rfl ?_⟩
        refine ⟨_, rfl, 1, rfl, a, _, rfl, SqT.of ha, ?_, fun p hp => ?_⟩
        · show ¬ (HT.sIx 5 0 (some 1) = 0 ∧ HT.sIx 5 5 none = 5)
          decide
        · have t1 := TT0.of (Ex.new (o := .tup (cutV [V.str (Ent.weighing sc d ls r).kind, .str sc, .int d, u, v] (some 1) none)) hp)
          refine ⟨_, sc, d, ls, r, rfl, ⟨p, _, rfl, upd_same, u, v, rfl, hu.mono t1, hv2.mono t1⟩, ok.1, ok.2.1, ok.2.2.1, ok.2.2.2, fun H2 e2 => ⟨rfl, (Ex.new hp).trans e2⟩⟩
      | known ls r =>
        refine ⟨_, rfl, rfl, _, rfl, dF kn_k_w ⟨_, rfl, rfl, _, rfl, dT rfl ?_⟩⟩
        exact ⟨_, rfl, _, ls, r, rfl, hv, ok.1, ok.2, fun H2 e2 => ⟨rfl, e2⟩⟩
      | find l b =>
        obtain rfl := hx
        refine ⟨_, rfl, rfl, _, rfl, dF kn_f_w ⟨_, rfl, rfl, _, rfl, dF kn_f_k ⟨_, rfl, rfl, _, rfl, dT rfl ?_⟩⟩⟩
        refine ⟨_, rfl, a, _, 1, _, rfl, rfl, SqT.of ha, rfl, _, _, rfl, rfl, _, rfl, dF (show ¬ l < 0 from Int.not_lt.mpr ok.1) ?_⟩
        refine ⟨_, rfl, a, _, 1, _, rfl, rfl, SqT.of ha, rfl, _, _, rfl, rfl, _, rfl, dF (show ¬ 99 < l from Int.not_lt.mpr ok.2) ?_⟩
        exact ⟨rfl, Ex.refl H⟩
    · rintro σ' H1 ⟨rfl, e1⟩
      refine ⟨_, rfl, _, e, rfl, hv.mono (TT0.of e1), fun p ys H2 e2 hp hy => ⟨p, rfl, ⟨_, SqL.of hp⟩, fun D hD => ?_⟩⟩
      refine lc_walk (wk_list (K := K) (SqL.of hp)) (by rw [hy.len]; have := e.rts_len; omega) (fun _ => true) (fun _ y _ => y = .bl true) (fun _ _ _ _ r _ => r) hD (fun i x H3 Q1 Q2 hi it e3 q1 q2 => ?_) (fun zs H3 e3 hz hk => ?_)
      · obtain ⟨r, hr1, hr2⟩ := hy.get it
        have ort := Ent.rts_ok ok r (List.mem_of_getElem? hr1)
        have hl := rtText_len ort
        refine ⟨rfl, _, rfl, x, r, rfl, hr2.mono (TT0.of e3), ort, _, rfl, sizes (by omega), _, _, rfl, rfl, q1 rfl _ _ (Ex.refl _) ?_⟩
        exact congrArg V.bl (decide_eq_true (by omega))
      · rw [hk.trues] at hz
        refine ⟨D, _, rfl, SqL.of hz, _, rfl, ?_⟩
        rw [all_trues]
        exact iteF (h H3 ((e1.trans e2).trans e3))
end
end Kb

set_option Elab.async false
set_option linter.all false
set_option maxRecDepth 100000
set_option maxHeartbeats 4000000
/-! K64, 6: the texts of entries. -/
namespace Kb
open PySem PySem.Spec PyProof.Rows L2 Evl TL
section
variable {P : Program} {w : World} {K : PySem.W.Frag} {mg : Str → Option Value} {base : Heap} {aK a1 aL f : Addr} {fd : FuncData}
/-! ### lengths -/
theorem join_len (y : Str) : ∀ parts : List Str, (Txt.join y parts).length ≤ (parts.map (·.length)).sum + parts.length * y.length := by
  intro parts
  rw [join_eq]
  induction parts with
  | nil => exact Nat.zero_le _
  | cons x r ih =>
    cases r with
    | nil =>
      show x.length ≤ [x.length].sum + 1 * y.length
      rw [List.sum_cons]
      omega
    | cons z r =>
      show (x ++ y ++ Str.join y (z :: r)).length ≤ _
      rw [slen_append, slen_append, List.map_cons, List.sum_cons, List.length_cons, Nat.succ_mul]
      omega
theorem sum_le {α : Type} {g : α → Nat} {k : Nat} : ∀ {l : List α}, (∀ x ∈ l, g x ≤ k) → (l.map g).sum ≤ k * l.length
  | [], _ => Nat.zero_le _
  | x :: r, h => by
    have h1 := h x List.mem_cons_self
    have h2 := sum_le (l := r) fun y hy => h y (List.mem_cons_of_mem _ hy)
    rw [List.map_cons, List.sum_cons, List.length_cons, Nat.mul_succ]
    omega
theorem comma_len : ("," : Str).length = 1 := by decide +kernel
theorem blank_len : (" " : Str).length = 1 := by decide +kernel
def lotsText (ls : List Int) : Str := Txt.join "," (ls.map nt)
theorem lots_sum {ls : List Int} (ok : LotsOk ls) : ((ls.map nt).map (·.length)).sum ≤ 24 := by
  have h := sum_le (g := fun s : Str => s.length) (k := 3) (l := ls.map nt) fun x hx => by
    obtain ⟨i, hi, rfl⟩ := List.mem_map.mp hx
    obtain ⟨h0, h1⟩ := ok.r i hi
    exact nt_len h0 (by omega)
  have n1 := ok.n1
  rw [List.length_map] at h
  omega
theorem lotsText_len {ls : List Int} (ok : LotsOk ls) : (lotsText ls).length ≤ 40 := by
  have h := join_len "," (ls.map nt)
  have h2 := lots_sum ok
  have n1 := ok.n1
  rw [comma_len, List.length_map] at h
  unfold lotsText
  omega
theorem All2.map_eq {α : Type} {g : α → V} : ∀ {vs : List V} {xs : List α}, All2 (fun v x => v = g x) vs xs → vs = xs.map g
  | _, _, .nil => rfl
  | _, _, .cons a b => by rw [a, All2.map_eq b]; rfl
abbrev s_lots_text : Stmt := topS 40
theorem sc_lots_text : FnScope ["lots", "lot"] ["lots"] (defScope s_lots_text) := ⟨rfl, rfl, rfl, by decide +kernel, rfl, by decide +kernel, by decide +kernel⟩
def spLotsText : Sp := fun vs H Q _ => ∃ (v : V) (ls : List Int), vs = [v] ∧ IsLots H v ls ∧ LotsOk ls ∧ ∀ H', Ex H H' → Q (.str (lotsText ls)) H'
theorem ok_lots_text (F : FnP K "lots_text" "lots_text" s_lots_text f fd) (T : Tx K w mg aK a1 aL) : FnOk P w K mg base CX0 1 f fd ["lots"] spLotsText := by
  refine F.ok sc_lots_text (fun vs H Q E h => ?_) (fun cdv A outer s H vs Q E hr h => ⟨_, PSs.nox ((pss_one (ps_ret (pe_join pe_str (pe_lc (own := [("lot", 1)]) rfl sc_lots_text.nd (pi_tup (pv 0)) (blkOk_by (own := [("lot", 1)]) (N := ["lots", "lot"]) (sc := defScope s_lots_text) (by decide +kernel)) (fun _ _ _ _ _ => (pg_name (i := 1) sc_lots_text.nd rfl (Or.inl rfl))) (fun _ _ _ _ _ => pts_nil) (fun _ _ _ _ _ => (pe_callTy call_str_int (by rfl) T.b_str (by decide +kernel) (pa_cons (pv 1) pa_nil)))))))), ?_⟩)
  · obtain ⟨v, ls, rfl, _⟩ := h
    rfl
  · obtain ⟨v, ls, rfl, ⟨a, rfl, ha⟩, ok, h⟩ := h
    have n1 := ok.n1
    refine ⟨⟨_, rfl⟩, _, rfl, a, rfl, ⟨_, SqT.of ha⟩, fun D hD => lc_walk (wk_tup (K := K) (SqT.of ha)) (by rw [List.length_map]; omega) (fun _ => true) (fun i y _ => ∃ n, ls[i]? = some n ∧ y = .str (nt n)) (fun _ _ _ _ r _ => r) hD (fun i x H2 Q1 Q2 hi it e q1 q2 => ?_) (fun ys H' e hy hp => ?_)⟩
    · obtain ⟨b, hb, rfl⟩ := map_get it
      obtain ⟨b0, b1⟩ := ok.r b (List.mem_of_getElem? hb)
      exact ⟨rfl, _, rfl, b, rfl, log_small b0 (by omega), q1 rfl _ _ (Ex.refl _) ⟨b, hb, rfl⟩⟩
    · have k := (hp.all (S := fun v n => v = V.str (nt n)) (xs := ls) (by rw [List.length_map]; omega) fun i y x hx r => by
        obtain ⟨n, h1, h2⟩ := r
        rw [hx] at h1
        cases h1
        exact h2).map_eq
      rw [List.length_map, List.take_length] at k
      have hs := lots_sum ok
      refine ⟨_, D, ls.map nt, rfl, rfl, .inl (SqL.of (by rw [hy, k, List.map_map]; rfl)), ?_, h H' e⟩
      rw [comma_len, List.length_map]
      omega
/-! ### a paper's words -/
def papWords (sc : Str) (p : Pap) : List Str := [sc, nt p.first, nt p.last, rtText p.zero, rtText p.share, rtText p.drift, nt p.checked]
abbrev s_paper_words : Stmt := topS 41
theorem sc_paper_words : FnScope ["scale", "paper", "first", "last", "zero", "share", "drift", "checked"] ["scale", "paper"] (defScope s_paper_words) := ⟨rfl, rfl, rfl, by decide +kernel, rfl, by decide +kernel, by decide +kernel⟩
def spPaperWords : Sp := fun vs H Q _ => ∃ (v : V) (sc : Str) (p : Pap), vs = [.str sc, v] ∧ IsPap H v p ∧ PapOk p ∧ ∀ q H', H q = none → Ex H H' → H' q = some (.lst ((papWords sc p).map V.str)) → Q (.ref q) H'
theorem ok_paper_words (F : FnP K "paper_words" "paper_words" s_paper_words f fd) (T : Tx K w mg aK a1 aL) (g_ratio_text : Fd P w K mg base "ratio_text" 1 ["first"] spRatioText) : FnOk P w K mg base CX0 2 f fd ["scale", "paper"] spPaperWords := by
  refine F.ok sc_paper_words (fun vs H Q E h => ?_) (fun cdv A outer s H vs Q E hr h => ⟨_, PSs.nox ((pss_cons (ps_asg (pv 1) (pg_tup rfl (pgs_cons (pg_name (i := 2) sc_paper_words.nd rfl (Or.inl rfl)) (pgs_cons (pg_name (i := 3) sc_paper_words.nd rfl (Or.inl rfl)) (pgs_cons (pg_name (i := 4) sc_paper_words.nd rfl (Or.inl rfl)) (pgs_cons (pg_name (i := 5) sc_paper_words.nd rfl (Or.inl rfl)) (pgs_cons (pg_name (i := 6) sc_paper_words.nd rfl (Or.inl rfl)) (pgs_cons (pg_name (i := 7) sc_paper_words.nd rfl (Or.inl rfl)) pgs_nil))))))))
      (pss_one (ps_ret (pe_lst (pa_cons (pv 0) (pa_cons (pe_callTy call_str_int (by rfl) T.b_str (by decide +kernel) (pa_cons (pv 2) pa_nil)) (pa_cons (pe_callTy call_str_int (by rfl) T.b_str (by decide +kernel) (pa_cons (pv 3) pa_nil)) (pa_cons (pe_fd g_ratio_text (rm hr) rfl (pa_cons (pv 4) pa_nil)) (pa_cons (pe_fd g_ratio_text (rm hr) rfl (pa_cons (pv 5) pa_nil)) (pa_cons (pe_fd g_ratio_text (rm hr) rfl (pa_cons (pv 6) pa_nil)) (pa_cons (pe_callTy call_str_int (by rfl) T.b_str (by decide +kernel) (pa_cons (pv 7) pa_nil)) pa_nil)))))))))))), ?_⟩)
  · obtain ⟨v, sc, p, rfl, _⟩ := h
    rfl
  · obtain ⟨v, sc, p, rfl, ⟨a, z, sh, d, rfl, ha, hz, hs, hd⟩, ok, h⟩ := h
    have o1 := ok.c0
    have o2 := ok.c1
    have o3 := ok.f1
    have o4 := ok.l1
    refine ⟨_, rfl, a, _, rfl, SqT.of ha, rfl, _, _, rfl, _, _, rfl, _, _, rfl, _, _, rfl, _, _, rfl, _, _, rfl, rfl, ?_⟩
    refine ⟨_, rfl, _, rfl, _, rfl, log_small (by omega) (by omega), _, rfl, _, rfl, log_small (by omega) (by omega), _, rfl, z, _, rfl, hz, ok.z, _, rfl, sh, _, rfl, hs, ok.s, _, rfl, d, _, rfl, hd, ok.d, _, rfl, _, rfl, log_small (by omega) (by omega), ?_⟩
    exact ⟨by show 7 ≤ sizeLine; decide, fun q hq => h q _ hq (Ex.new hq) upd_same⟩
/-! ### an entry's text -/
def entWords : Ent → List Str
  | .paper sc p => papWords sc p
  | .recall sc p day => papWords sc p ++ [nt day]
  | .weighing sc day ls r => [sc, nt day, lotsText ls, rtText r]
  | .known ls r => [lotsText ls, rtText r]
  | .find lot has => [nt lot, if has = true then "yes" else "no"]
def entText (e : Ent) : Str := Txt.join " " ([e.kind] ++ entWords e)
theorem kind_len (e : Ent) : e.kind.length ≤ 40 := by
  cases e with
  | paper _ _ => exact (by decide +kernel : ("paper" : Str).length ≤ 40)
  | recall _ _ _ => exact (by decide +kernel : ("recall" : Str).length ≤ 40)
  | weighing _ _ _ _ => exact (by decide +kernel : ("weighing" : Str).length ≤ 40)
  | known _ _ => exact (by decide +kernel : ("known" : Str).length ≤ 40)
  | find _ _ => exact (by decide +kernel : ("find" : Str).length ≤ 40)
theorem yes_len (b : Bool) : (if b = true then ("yes" : Str) else "no").length ≤ 40 := by
  cases b with
  | true => exact (by decide +kernel : ("yes" : Str).length ≤ 40)
  | false => exact (by decide +kernel : ("no" : Str).length ≤ 40)
theorem pap_words_len {sc : Str} {p : Pap} (h : ScOk sc) (ok : PapOk p) : ∀ x ∈ papWords sc p, x.length ≤ 40 := by
  have o1 := ok.c0
  have o2 := ok.c1
  have o3 := ok.f1
  have o4 := ok.l1
  intro x hx
  unfold papWords at hx
  simp only [List.mem_cons, List.not_mem_nil, or_false] at hx
  rcases hx with rfl | rfl | rfl | rfl | rfl | rfl | rfl
  · have := h.2.1; omega
  · have := nt_len (i := p.first) (by omega) (by omega); omega
  · have := nt_len (i := p.last) (by omega) (by omega); omega
  · have := rtText_len ok.z; omega
  · have := rtText_len ok.s; omega
  · have := rtText_len ok.d; omega
  · have := nt_len (i := p.checked) (by omega) (by omega); omega
theorem entWords_len {e : Ent} (ok : e.Ok) : (∀ x ∈ entWords e, x.length ≤ 40) ∧ (entWords e).length ≤ 8 := by
  cases e with
  | paper sc p => exact ⟨pap_words_len ok.1 ok.2, by show 7 ≤ 8; decide⟩
  | recall sc p d =>
    refine ⟨fun x hx => ?_, by show 8 ≤ 8; decide⟩
    rcases List.mem_append.mp hx with hx | hx
    · exact pap_words_len ok.1 ok.2.1 x hx
    · rw [List.mem_singleton.mp hx]
      have := nt_len (i := d) ok.2.2.1 (by have := ok.2.2.2; omega)
      omega
  | weighing sc d ls r =>
    refine ⟨fun x hx => ?_, by show 4 ≤ 8; decide⟩
    simp only [entWords, List.mem_cons, List.not_mem_nil, or_false] at hx
    rcases hx with rfl | rfl | rfl | rfl
    · have := ok.1.2.1; omega
    · have := nt_len (i := d) ok.2.1.1 (by have := ok.2.1.2; omega); omega
    · exact lotsText_len ok.2.2.1
    · have := rtText_len ok.2.2.2; omega
  | known ls r =>
    refine ⟨fun x hx => ?_, by show 2 ≤ 8; decide⟩
    simp only [entWords, List.mem_cons, List.not_mem_nil, or_false] at hx
    rcases hx with rfl | rfl
    · exact lotsText_len ok.1
    · have := rtText_len ok.2; omega
  | find l b =>
    refine ⟨fun x hx => ?_, by show 2 ≤ 8; decide⟩
    simp only [entWords, List.mem_cons, List.not_mem_nil, or_false] at hx
    rcases hx with rfl | rfl
    · have := nt_len (i := l) ok.1 (by have := ok.2; omega); omega
    · exact yes_len b
abbrev s_entry_text : Stmt := topS 42
theorem sc_entry_text : FnScope ["entry", "kind", "words"] ["entry"] (defScope s_entry_text) := ⟨rfl, rfl, rfl, by decide +kernel, rfl, by decide +kernel, by decide +kernel⟩
def spEntryText : Sp := fun vs H Q _ => ∃ (v : V) (e : Ent), vs = [v] ∧ IsEnt H v e ∧ e.Ok ∧ ∀ H', Ex H H' → Q (.str (entText e)) H'
theorem ok_entry_text (F : FnP K "entry_text" "entry_text" s_entry_text f fd) (T : Tx K w mg aK a1 aL) (g_ratio_text : Fd P w K mg base "ratio_text" 1 ["first"] spRatioText) (g_lots_text : Fd P w K mg base "lots_text" 1 ["lots"] spLotsText)
    (g_paper_words : Fd P w K mg base "paper_words" 2 ["scale", "paper"] spPaperWords) : FnOk P w K mg base CX0 3 f fd ["entry"] spEntryText := by
  refine F.ok sc_entry_text (fun vs H Q E h => ?_) (fun cdv A outer s H vs Q E hr h => ⟨_, PSs.nox ((pss_cons (ps_set (i := 1) sc_entry_text.nd rfl (Or.inl rfl) (pe_ix ix_tup (pv 0) pe_int (fun _ _ => rfl)))
      (pss_cut (ps_if (pt_cmpR op_eq (pv 1) pe_str (nomark _)) (pss_one (ps_set (i := 2) sc_entry_text.nd rfl (Or.inl rfl) (pe_lst (pa_cons (pe_callTy call_str_int (by rfl) T.b_str (by decide +kernel) (pa_cons (pe_ix ix_tup (pv 0) pe_int (fun _ _ => rfl)) pa_nil)) (pa_cons (pe_ifExp (pt_val (pe_ix ix_tup (pv 0) pe_int (fun _ _ => rfl))) pe_str pe_str) pa_nil))))) (pss_one (ps_if (pt_cmpR op_eq (pv 1) pe_str (nomark _)) (pss_one (ps_set (i := 2) sc_entry_text.nd rfl (Or.inl rfl) (pe_lst (pa_cons (pe_fd g_lots_text (rm hr) rfl (pa_cons (pe_ix ix_tup (pv 0) pe_int (fun _ _ => rfl)) pa_nil)) (pa_cons (pe_fd g_ratio_text (rm hr) rfl (pa_cons (pe_ix ix_tup (pv 0) pe_int (fun _ _ => rfl)) pa_nil)) pa_nil))))) (pss_one (ps_if (pt_cmpR op_eq (pv 1) pe_str (nomark _)) (pss_one (ps_set (i := 2) sc_entry_text.nd rfl (Or.inl rfl) (pe_lst (pa_cons (pe_ix ix_tup (pv 0) pe_int (fun _ _ => rfl)) (pa_cons (pe_callTy call_str_int (by rfl) T.b_str (by decide +kernel) (pa_cons (pe_ix ix_tup (pv 0) pe_int (fun _ _ => rfl)) pa_nil)) (pa_cons (pe_fd g_lots_text (rm hr) rfl (pa_cons (pe_ix ix_tup (pv 0) pe_int (fun _ _ => rfl)) pa_nil)) (pa_cons (pe_fd g_ratio_text (rm hr) rfl (pa_cons (pe_ix ix_tup (pv 0) pe_int (fun _ _ => rfl)) pa_nil)) pa_nil))))))) (pss_cons (ps_set (i := 2) sc_entry_text.nd rfl (Or.inl rfl) (pe_fd g_paper_words (rm hr) rfl (pa_cons (pe_ix ix_tup (pv 0) pe_int (fun _ _ => rfl)) (pa_cons (pe_ix ix_tup (pv 0) pe_int (fun _ _ => rfl)) pa_nil))))
      (pss_one (ps_if (pt_cmpR op_eq (pv 1) pe_str (nomark _)) (pss_one (ps_expr (pe_bm PySem.F.plainAttrs_list PySem.F.slot_list_append PySem.F.type_list_append mt_append (pv 2) (pa_cons (pe_callTy call_str_int (by rfl) T.b_str (by decide +kernel) (pa_cons (pe_ix ix_tup (pv 0) pe_int (fun _ _ => rfl)) pa_nil)) pa_nil)))) pss_nil))))))))
      (pss_one (ps_ret (pe_join pe_str (pe_op op_cat (pe_lst (pa_cons (pv 1) pa_nil)) (pv 2)))))))), ?_⟩)
  · obtain ⟨v, e, rfl, _⟩ := h
    rfl
  · obtain ⟨v, e, rfl, ⟨a, xs, rfl, ha, hx⟩, ok, h⟩ := h
    refine ⟨_, rfl, a, _, 0, .str e.kind, rfl, rfl, SqT.of ha, at_of (j := 0) rfl rfl, ?_⟩
    refine ⟨fun σ' H' => ∃ q, σ' = [some (.ref a), some (.str e.kind), some (.ref q)] ∧ Ex H H' ∧ H' q = some (.lst ((entWords e).map V.str)), ?_, ?_⟩
    · cases e with
      | paper sc p =>
        obtain ⟨v, rfl, hp⟩ := hx
        refine ⟨_, rfl, rfl, _, rfl, dF kn_p_f ⟨_, rfl, rfl, _, rfl, dF kn_p_k ⟨_, rfl, rfl, _, rfl, dF kn_p_w ?_⟩⟩⟩
        refine ⟨_, rfl, a, _, 1, _, rfl, rfl, SqT.of ha, rfl, _, rfl, a, _, 2, _, rfl, rfl, SqT.of ha, rfl, v, sc, p, rfl, hp, ok.2, fun q H2 hq e2 hl => ⟨_, rfl, rfl, _, rfl, dF kn_p_r ?_⟩⟩
        exact ⟨q, rfl, e2, hl⟩
      | recall sc p d =>
        obtain ⟨v, rfl, hp⟩ := hx
        refine ⟨_, rfl, rfl, _, rfl, dF kn_r_f ⟨_, rfl, rfl, _, rfl, dF kn_r_k ⟨_, rfl, rfl, _, rfl, dF kn_r_w ?_⟩⟩⟩
        refine ⟨_, rfl, a, _, 1, _, rfl, rfl, SqT.of ha, rfl, _, rfl, a, _, 2, _, rfl, rfl, SqT.of ha, rfl, v, sc, p, rfl, hp, ok.2.1, fun q H2 hq e2 hl => ⟨_, rfl, rfl, _, rfl, dT rfl ?_⟩⟩
        refine ⟨_, rfl, .inl ⟨rfl, _, SqL.of hl⟩, _, rfl, a, _, 3, _, rfl, rfl, SqT.of (e2 a _ ha), rfl, d, rfl, log_small ok.2.2.1 (by have := ok.2.2.2; omega), q, _, _, rfl, rfl, hl, by show 7 < sizeLine; decide, ?_⟩
        exact ⟨q, rfl, e2.mut hq, by rw [upd_same]; exact congrArg (fun z => some (HO.lst z)) (by rw [entWords, List.map_append]; rfl)⟩
      | weighing sc d ls r =>
        obtain ⟨u, v, rfl, hu, hv⟩ := hx
        refine ⟨_, rfl, rfl, _, rfl, dF kn_w_f ⟨_, rfl, rfl, _, rfl, dF kn_w_k ⟨_, rfl, rfl, _, rfl, dT rfl ?_⟩⟩⟩
        refine ⟨_, rfl, a, _, 1, _, rfl, rfl, SqT.of ha, rfl, _, rfl, a, _, 2, _, rfl, rfl, SqT.of ha, rfl, d, rfl, log_small ok.2.1.1 (by have := ok.2.1.2; omega), ?_⟩
        refine ⟨_, rfl, a, _, 3, _, rfl, rfl, SqT.of ha, rfl, u, ls, rfl, hu, ok.2.2.1, fun H2 e2 => ?_⟩
        refine ⟨_, rfl, a, _, 4, _, rfl, rfl, SqT.of (e2 a _ ha), rfl, v, r, rfl, hv.mono (TT0.of e2), ok.2.2.2, by show 4 ≤ sizeLine; decide, fun q hq => ?_⟩
        exact ⟨q, rfl, e2.trans (Ex.new hq), upd_same⟩
      | known ls r =>
        obtain ⟨u, v, rfl, hu, hv⟩ := hx
        refine ⟨_, rfl, rfl, _, rfl, dF kn_k_f ⟨_, rfl, rfl, _, rfl, dT rfl ?_⟩⟩
        refine ⟨_, rfl, a, _, 1, _, rfl, rfl, SqT.of ha, rfl, u, ls, rfl, hu, ok.1, fun H2 e2 => ?_⟩
        refine ⟨_, rfl, a, _, 2, _, rfl, rfl, SqT.of (e2 a _ ha), rfl, v, r, rfl, hv.mono (TT0.of e2), ok.2, by show 2 ≤ sizeLine; decide, fun q hq => ?_⟩
        exact ⟨q, rfl, e2.trans (Ex.new hq), upd_same⟩
      | find l b =>
        obtain rfl := hx
        refine ⟨_, rfl, rfl, _, rfl, dT rfl ?_⟩
        refine ⟨_, rfl, a, _, 1, _, rfl, rfl, SqT.of ha, rfl, l, rfl, log_small ok.1 (by have := ok.2; omega), _, rfl, a, _, 2, _, rfl, rfl, SqT.of ha, rfl, b, rfl, ?_⟩
        cases b with
        | true => exact ⟨by show 2 ≤ sizeLine; decide, fun q hq => ⟨q, rfl, Ex.new hq, upd_same⟩⟩
        | false => exact ⟨by show 2 ≤ sizeLine; decide, fun q hq => ⟨q, rfl, Ex.new hq, upd_same⟩⟩
    · rintro σ' H1 ⟨q, rfl, e1, hq⟩
      obtain ⟨w1, w2⟩ := entWords_len ok
      refine ⟨⟨_, rfl⟩, _, rfl, by show 1 ≤ sizeLine; decide, fun l hl => ?_⟩
      have e2 := Ex.new (o := .lst [.str e.kind]) hl
      refine ⟨_, rfl, l, q, _, _, rfl, rfl, upd_same, e2 q _ hq, ?_, fun m hm => ?_⟩
      · rw [List.length_map]
        show 1 + (entWords e).length ≤ sizeLine
        exact sizes (by omega)
      · refine ⟨_, m, [e.kind] ++ entWords e, rfl, rfl, .inl (SqL.of (by rw [upd_same, List.map_append]; rfl)), ?_, h _ ((e1.trans e2).trans (Ex.new hm))⟩
        have hs := sum_le (g := fun s : Str => s.length) (k := 40) (l := [e.kind] ++ entWords e) fun x hx => by
          rcases List.mem_append.mp hx with hx | hx
          · rw [List.mem_singleton.mp hx]
            exact kind_len e
          · exact w1 x hx
        have hl : ([e.kind] ++ entWords e).length ≤ 9 := by
          rw [List.length_append]
          show 1 + (entWords e).length ≤ 9
          omega
        rw [blank_len]
        omega
end
end Kb

set_option Elab.async false
set_option linter.all false
set_option maxRecDepth 100000
set_option maxHeartbeats 4000000
/-! K64, 7: the book in the heap, and what changes it. -/
namespace Kb
open PySem PySem.Spec PyProof.Rows L2 Evl TL
/-! ### a book in the heap -/
theorem nm {a b : Addr} {ps : List Addr} (h : a ∉ ps) (k : b ∈ ps) : b ≠ a := fun e => h (e ▸ k)
structure TB (K : PySem.W.Frag) (mg : Str → Option Value) (C : Addr) : Prop where
  cl : Cls K C
  nV : NoAttr K C "_versions"
  nS : NoAttr K C "_stands"
  m_Book : mg "Book" = some (.ref C)
def pf (lv ls : Addr) : List (Str × V) := [("_versions", V.ref lv), ("_stands", V.ref ls)]
theorem q_sv : (("_stands" : Str) == "_versions") = false := by decide +kernel
theorem q_vs : ¬ (("_versions" : Str) = "_stands") := by decide +kernel
theorem pf_v (lv ls : Addr) : (pf lv ls).lookup ("_versions" : Str) = some (.ref lv) := by
  unfold pf
  rw [List.lookup_cons, beq_self_eq_true]
theorem pf_s (lv ls : Addr) : (pf lv ls).lookup ("_stands" : Str) = some (.ref ls) := by
  unfold pf
  rw [List.lookup_cons, q_sv, List.lookup_cons, beq_self_eq_true]
theorem pf_no (lv ls : Addr) {m : Str} (h1 : (m == "_versions") = false) (h2 : (m == "_stands") = false) : (pf lv ls).lookup m = none := by
  unfold pf
  rw [List.lookup_cons, h1, List.lookup_cons, h2]
  rfl
theorem pf_put (lv ls : Addr) : putF "_stands" (.ref ls) (putF "_versions" (.ref lv) []) = pf lv ls := by
  show (if ("_versions" : Str) = "_stands" then [(("_versions" : Str), V.ref ls)] else (("_versions" : Str), V.ref lv) :: putF "_stands" (V.ref ls) []) = pf lv ls
  rw [if_neg q_vs]
  rfl
abbrev Rec := List Ent × Bool
def RecOk (r : Rec) : Prop := r.1 ≠ [] ∧ ∃ k : Str, ∀ e ∈ r.1, e.kind = k ∧ e.Ok
structure BookAt (C : Addr) (H : Hp) (x lv ls : Addr) (ps : List Addr) (rs : List Rec) : Prop where
  ins : ∃ dx, H x = some (.ins C dx (pf lv ls))
  vs : H lv = some (.lst (ps.map V.ref))
  st : H ls = some (.lst (rs.map fun r => V.bl r.2))
  nd : (lv :: ls :: ps).Nodup
  len : ps.length = rs.length
  recs : ∀ (i : Nat) p (r : Rec), ps[i]? = some p → rs[i]? = some r → ∃ xs, H p = some (.lst xs) ∧ All2 (IsEnt H) xs r.1
  ok : ∀ r ∈ rs, RecOk r
section
variable {C : Addr} {H H' : Hp} {x lv ls p : Addr} {ps : List Addr} {rs : List Rec}
theorem BookAt.ex (B : BookAt C H x lv ls ps rs) (e : Ex H H') : BookAt C H' x lv ls ps rs where
  ins := let ⟨dx, h⟩ := B.ins; ⟨dx, e x _ h⟩
  vs := e lv _ B.vs
  st := e ls _ B.st
  nd := B.nd
  len := B.len
  recs := fun i p r h1 h2 => let ⟨xs, a, b⟩ := B.recs i p r h1 h2; ⟨xs, e p _ a, b.imp fun _ _ q => q.mono (TT0.of e)⟩
  ok := B.ok
theorem BookAt.neq (B : BookAt C H x lv ls ps rs) : lv ≠ ls ∧ lv ∉ ps ∧ ls ∉ ps ∧ ps.Nodup := by
  have h := B.nd
  rw [List.nodup_cons, List.nodup_cons, List.mem_cons, not_or] at h
  exact ⟨h.1.1, h.1.2, h.2.1, h.2.2⟩
theorem BookAt.get (B : BookAt C H x lv ls ps rs) {i : Nat} {r : Rec} (h : rs[i]? = some r) : ∃ p xs, ps[i]? = some p ∧ H p = some (.lst xs) ∧ All2 (IsEnt H) xs r.1 := by
  have hi : i < ps.length := by rw [B.len]; exact (List.getElem?_eq_some_iff.mp h).1
  have e := List.getElem?_eq_getElem hi
  obtain ⟨xs, a, b⟩ := B.recs i _ r e h
  exact ⟨_, xs, e, a, b⟩
theorem BookAt.lst (B : BookAt C H x lv ls ps rs) {p : Addr} (h : p ∈ ps) : ∃ xs, H p = some (.lst xs) := by
  obtain ⟨i, hi, e⟩ := List.getElem_of_mem h
  have hr : i < rs.length := by rw [← B.len]; exact hi
  obtain ⟨xs, a, _⟩ := B.recs i p rs[i] (by rw [List.getElem?_eq_getElem hi, e]) (List.getElem?_eq_getElem hr)
  exact ⟨xs, a⟩
/-- what a book may change -/
def Foot (lv ls : Addr) (ps : List Addr) (b : Addr) : Prop := b = lv ∨ b = ls ∨ b ∈ ps
def Off (F : Addr → Prop) (H H' : Hp) : Prop := ∀ b o, H b = some o → ¬ F b → H' b = some o
theorem Off.trans {F F' : Addr → Prop} {H H1 H2 : Hp} (a : Off F H H1) (b : Off F' H1 H2) (h : ∀ b o, H b = some o → ¬ F b → ¬ F' b) : Off F H H2 := fun c o e n => b c o (a c o e n) (h c o e n)
theorem Off.of {F : Addr → Prop} (e : Ex H H') : Off F H H' := fun b o h _ => e b o h
theorem BookAt.tt (B : BookAt C H x lv ls ps rs) (f : Off (Foot lv ls ps) H H') : TT0 H H' := fun b xs h => f b _ h fun z => by
  rcases z with z | z | z
  · rw [z, B.vs] at h; cases h
  · rw [z, B.st] at h; cases h
  · obtain ⟨ys, e⟩ := B.lst z
    rw [e] at h; cases h
theorem BookAt.nox (B : BookAt C H x lv ls ps rs) : ¬ Foot lv ls ps x := fun z => by
  obtain ⟨dx, e⟩ := B.ins
  rcases z with z | z | z
  · rw [z, B.vs] at e; cases e
  · rw [z, B.st] at e; cases e
  · obtain ⟨ys, q⟩ := B.lst z
    rw [q] at e; cases e
/-- another book is changed -/
theorem BookAt.other (B : BookAt C H x lv ls ps rs) {F : Addr → Prop} (f : Off F H H') (t : TT0 H H') (hx : ¬ F x) (hF : ∀ b, Foot lv ls ps b → ¬ F b) : BookAt C H' x lv ls ps rs where
  ins := let ⟨dx, h⟩ := B.ins; ⟨dx, f x _ h hx⟩
  vs := f lv _ B.vs (hF lv (.inl rfl))
  st := f ls _ B.st (hF ls (.inr (.inl rfl)))
  nd := B.nd
  len := B.len
  recs := fun i p r h1 h2 => let ⟨xs, a, b⟩ := B.recs i p r h1 h2; ⟨xs, f p _ a (hF p (.inr (.inr (List.mem_of_getElem? h1)))), b.imp fun _ _ q => q.mono t⟩
  ok := B.ok
/-- a record more -/
theorem BookAt.added (B : BookAt C H x lv ls ps rs) {v : V} {e : Ent} (hp : H p = none) (hv : IsEnt H v e) (ok : e.Ok) :
    BookAt C (upd (upd (upd H p (.lst [v])) lv (.lst (ps.map V.ref ++ [.ref p]))) ls (.lst ((rs.map fun r => V.bl r.2) ++ [.bl true]))) x lv ls (ps ++ [p]) (rs ++ [([e], true)]) ∧
    Off (Foot lv ls ps) H (upd (upd (upd H p (.lst [v])) lv (.lst (ps.map V.ref ++ [.ref p]))) ls (.lst ((rs.map fun r => V.bl r.2) ++ [.bl true]))) := by
  obtain ⟨n1, n2, n3, n4⟩ := B.neq
  have hpv : lv ≠ p := ne_of_none B.vs hp
  have hps : ls ≠ p := ne_of_none B.st hp
  have off : Off (Foot lv ls ps) H (upd (upd (upd H p (.lst [v])) lv (.lst (ps.map V.ref ++ [.ref p]))) ls (.lst ((rs.map fun r => V.bl r.2) ++ [.bl true]))) := fun b o h n => by
    rw [upd_ne (fun z => n (.inr (.inl z))), upd_ne (fun z => n (.inl z)), upd_ne (ne_of_none h hp)]
    exact h
  have tt := B.tt off
  refine ⟨⟨?_, ?_, ?_, ?_, ?_, ?_, ?_⟩, off⟩
  · obtain ⟨dx, h⟩ := B.ins
    exact ⟨dx, off x _ h B.nox⟩
  · rw [upd_ne n1, upd_same, List.map_append]
    rfl
  · rw [upd_same, List.map_append]
    rfl
  · rw [List.nodup_cons, List.nodup_cons, List.mem_cons, not_or, List.mem_append, not_or, List.mem_append, not_or, List.mem_singleton, List.mem_singleton, List.nodup_append]
    refine ⟨⟨n1, n2, hpv⟩, ⟨n3, hps⟩, n4, by simp, fun a ha b hb => ?_⟩
    rw [List.mem_singleton.mp hb]
    obtain ⟨ys, q⟩ := B.lst ha
    exact ne_of_none q hp
  · rw [List.length_append, List.length_append, B.len]
    rfl
  · intro i q r h1 h2
    by_cases hi : i < ps.length
    · rw [List.getElem?_append_left hi] at h1
      rw [List.getElem?_append_left (by rw [← B.len]; exact hi)] at h2
      obtain ⟨xs, a, b⟩ := B.recs i q r h1 h2
      have hq := List.mem_of_getElem? h1
      refine ⟨xs, ?_, b.imp fun _ _ z => z.mono tt⟩
      rw [upd_ne (nm n3 hq), upd_ne (nm n2 hq), upd_ne (ne_of_none a hp)]
      exact a
    · rw [List.getElem?_append_right (by omega)] at h1
      rw [List.getElem?_append_right (by rw [← B.len]; omega)] at h2
      have i0 : i - ps.length = 0 := by
        have := (List.getElem?_eq_some_iff.mp h1).1
        simp at this
        omega
      rw [i0] at h1
      rw [← B.len, i0] at h2
      cases h1
      cases h2
      refine ⟨[v], ?_, .cons (hv.mono tt) .nil⟩
      rw [upd_ne hps.symm, upd_ne hpv.symm, upd_same]
  · intro r hr
    rcases List.mem_append.mp hr with hr | hr
    · exact B.ok r hr
    · rw [List.mem_singleton.mp hr]
      exact ⟨by simp, e.kind, fun e' he => by rw [List.mem_singleton.mp he]; exact ⟨rfl, ok⟩⟩
/-- a version more -/
theorem BookAt.corrected (B : BookAt C H x lv ls ps rs) {v : V} {e : Ent} {i : Nat} {r : Rec} {xs : List V} (hi : rs[i]? = some r) (hp : ps[i]? = some p) (hx : H p = some (.lst xs)) (ha : All2 (IsEnt H) xs r.1) (hv : IsEnt H v e) (ok : e.Ok) (hk : ∀ e' ∈ r.1, e'.kind = e.kind) :
    BookAt C (upd H p (.lst (xs ++ [v]))) x lv ls ps (rs.set i (r.1 ++ [e], r.2)) ∧ Off (Foot lv ls ps) H (upd H p (.lst (xs ++ [v]))) := by
  obtain ⟨n1, n2, n3, n4⟩ := B.neq
  have pin := List.mem_of_getElem? hp
  have off : Off (Foot lv ls ps) H (upd H p (.lst (xs ++ [v]))) := fun b o h n => by
    rw [upd_ne (fun z => n (.inr (.inr (by rw [z]; exact pin))))]
    exact h
  have tt := B.tt off
  refine ⟨⟨?_, ?_, ?_, B.nd, ?_, ?_, ?_⟩, off⟩
  · obtain ⟨dx, h⟩ := B.ins
    exact ⟨dx, off x _ h B.nox⟩
  · rw [upd_ne (nm n2 pin).symm]
    exact B.vs
  · rw [upd_ne (nm n3 pin).symm, B.st, List.map_set]
    have e1 : (rs.map fun r => V.bl r.2).set i (V.bl r.2) = rs.map fun r => V.bl r.2 := by
      refine List.ext_getElem? fun j => ?_
      rw [List.getElem?_set]
      by_cases hj : i = j
      · subst hj
        have hl : i < rs.length := (List.getElem?_eq_some_iff.mp hi).1
        rw [if_pos rfl, if_pos (by rw [List.length_map]; exact hl), List.getElem?_map, hi]
        rfl
      · rw [if_neg hj]
    rw [e1]
  · rw [List.length_set]
    exact B.len
  · intro j q s h1 h2
    rw [List.getElem?_set] at h2
    by_cases hj : i = j
    · subst hj
      have hl : i < rs.length := (List.getElem?_eq_some_iff.mp hi).1
      rw [if_pos rfl, if_pos hl] at h2
      cases h2
      rw [hp] at h1
      cases h1
      exact ⟨xs ++ [v], upd_same, (ha.imp fun _ _ z => z.mono tt).snoc (hv.mono tt)⟩
    · rw [if_neg hj] at h2
      obtain ⟨ys, a, b⟩ := B.recs j q s h1 h2
      have hq : q ≠ p := fun z => hj (nd_ix n4 hp (by rw [← z]; exact h1))
      exact ⟨ys, by rw [upd_ne hq]; exact a, b.imp fun _ _ z => z.mono tt⟩
  · intro s hs
    rcases List.mem_or_eq_of_mem_set hs with hs | hs
    · exact B.ok s hs
    · subst hs
      obtain ⟨r1, k, r2⟩ := B.ok r (List.mem_of_getElem? hi)
      refine ⟨by simp, e.kind, fun e' he => ?_⟩
      rcases List.mem_append.mp he with he | he
      · exact ⟨hk e' he, (r2 e' he).2⟩
      · rw [List.mem_singleton.mp he]
        exact ⟨rfl, ok⟩
/-- a record stands, or is withdrawn -/
theorem BookAt.stood (B : BookAt C H x lv ls ps rs) {i : Nat} {r : Rec} (hi : rs[i]? = some r) (b : Bool) :
    BookAt C (upd H ls (.lst ((rs.map fun r => V.bl r.2).set i (.bl b)))) x lv ls ps (rs.set i (r.1, b)) ∧ Off (Foot lv ls ps) H (upd H ls (.lst ((rs.map fun r => V.bl r.2).set i (.bl b)))) := by
  obtain ⟨n1, n2, n3, n4⟩ := B.neq
  have off : Off (Foot lv ls ps) H (upd H ls (.lst ((rs.map fun r => V.bl r.2).set i (.bl b)))) := fun c o h n => by
    rw [upd_ne (fun z => n (.inr (.inl z)))]
    exact h
  have tt := B.tt off
  refine ⟨⟨?_, ?_, ?_, B.nd, ?_, ?_, ?_⟩, off⟩
  · obtain ⟨dx, h⟩ := B.ins
    exact ⟨dx, off x _ h B.nox⟩
  · rw [upd_ne n1]
    exact B.vs
  · rw [upd_same, List.map_set]
  · rw [List.length_set]
    exact B.len
  · intro j q s h1 h2
    have hq := List.mem_of_getElem? h1
    rw [List.getElem?_set] at h2
    by_cases hj : i = j
    · subst hj
      have hl : i < rs.length := (List.getElem?_eq_some_iff.mp hi).1
      rw [if_pos rfl, if_pos hl] at h2
      cases h2
      obtain ⟨ys, a, c⟩ := B.recs i q r h1 hi
      exact ⟨ys, by rw [upd_ne (nm n3 hq)]; exact a, c.imp fun _ _ z => z.mono tt⟩
    · rw [if_neg hj] at h2
      obtain ⟨ys, a, c⟩ := B.recs j q s h1 h2
      exact ⟨ys, by rw [upd_ne (nm n3 hq)]; exact a, c.imp fun _ _ z => z.mono tt⟩
  · intro s hs
    rcases List.mem_or_eq_of_mem_set hs with hs | hs
    · exact B.ok s hs
    · subst hs
      exact B.ok r (List.mem_of_getElem? hi)
end
end Kb

set_option Elab.async false
set_option linter.all false
set_option maxRecDepth 100000
set_option maxHeartbeats 4000000
/-! K64, 8: the book's methods that change it. -/
namespace Kb
open PySem PySem.Spec PyProof.Rows L2 Evl TL
section
variable {P : Program} {w : World} {K : PySem.W.Frag} {mg : Str → Option Value} {base : Heap} {aK a1 aL C f : Addr} {fd : FuncData}
abbrev s_Book_init : Stmt := inClass (topS 46) 0
theorem sc_Book_init : FnScope ["self"] ["self"] (defScope s_Book_init) := ⟨rfl, rfl, rfl, by decide +kernel, rfl, by decide +kernel, by decide +kernel⟩
def spInit (C : Addr) : Sp := fun vs H Q _ => ∃ (x dx : Addr), vs = [.ref x] ∧ H x = some (.ins C dx []) ∧ ∀ (H' : Hp) (lv ls : Addr), H lv = none → H ls = none → BookAt C H' x lv ls [] [] → (∀ b o, H b = some o → b ≠ x → H' b = some o) → Q .non H'
theorem ok_init (F : FnP K "__init__" "Book.__init__" s_Book_init f fd) (T : Tx K w mg aK a1 aL) (B : TB K mg C) : FnOk P w K mg base CX0 1 f fd ["self"] (spInit C) := by
  refine F.ok sc_Book_init (fun vs H Q E h => ?_) (fun cdv A outer s H vs Q E hr h => ⟨_, PSs.nox ((pss_cons (ps_fld (pv 0) (pe_lst pa_nil) rfl)
      (pss_one (ps_fld (pv 0) (pe_lst pa_nil) rfl)))), ?_⟩)
  · obtain ⟨x, dx, rfl, _⟩ := h
    rfl
  · obtain ⟨x, dx, rfl, hx, h⟩ := h
    refine ⟨Nat.zero_le _, fun lv hlv => ?_⟩
    have nv : x ≠ lv := ne_of_none hx hlv
    refine ⟨_, rfl, x, C, dx, [], rfl, (by rw [upd_ne nv]; exact hx), B.cl, B.nV, (by show 0 < 1000; decide), ?_⟩
    refine ⟨Nat.zero_le _, fun ls hls => ?_⟩
    have ns : x ≠ ls := fun z => by
      rw [← z, upd_same] at hls
      cases hls
    have nvs : lv ≠ ls := fun z => by
      rw [← z, upd_ne nv.symm, upd_same] at hls
      cases hls
    have hls0 : H ls = none := by
      rw [upd_ne ns.symm, upd_ne nvs.symm] at hls
      exact hls
    refine ⟨_, rfl, x, C, dx, _, rfl, (by rw [upd_ne ns, upd_same]), B.cl, B.nS, (by show 1 < 1000; decide), ?_⟩
    refine h _ lv ls hlv hls0 ⟨⟨dx, by rw [upd_same, pf_put]⟩, ?_, ?_, ?_, rfl, fun i p r h1 _ => (by simp at h1), fun r hr => (by simp at hr)⟩ fun b o hb hbx => ?_
    · rw [upd_ne nv.symm, upd_ne nvs, upd_ne nv.symm, upd_same]
      rfl
    · rw [upd_ne ns.symm, upd_same]
      rfl
    · simp [nvs]
    · rw [upd_ne hbx, upd_ne (ne_of_none hb hls0), upd_ne hbx, upd_ne (ne_of_none hb hlv)]
      exact hb
abbrev s_Book_place : Stmt := inClass (topS 46) 1
theorem sc_Book_place : FnScope ["self", "number"] ["self", "number"] (defScope s_Book_place) := ⟨rfl, rfl, rfl, by decide +kernel, rfl, by decide +kernel, by decide +kernel⟩
def spPlace (C : Addr) : Sp := fun vs H Q _ => ∃ (x : Addr) (n : Int) (lv ls : Addr) (ps : List Addr) (rs : List Rec), vs = [.ref x, .int n] ∧ BookAt C H x lv ls ps rs ∧ 1 ≤ n ∧ n ≤ rs.length ∧ Q (.int (n - 1)) H
theorem ok_place (F : FnP K "place" "Book.place" s_Book_place f fd) (T : Tx K w mg aK a1 aL) (B : TB K mg C) : FnOk P w K mg base CX0 1 f fd ["self", "number"] (spPlace C) := by
  refine F.ok sc_Book_place (fun vs H Q E h => ?_) (fun cdv A outer s H vs Q E hr h => ⟨_, PSs.nox ((pss_cons (ps_if (PW.pt (pw_or (pt_cmpR op_lt (pv 1) pe_int (nomark _)) (pw_or1 (pt_cmpR op_gt (pv 1) (pe_callB call_len_seq (by rfl) T.b_len PySem.boot_len (pa_cons (pe_fld (pv 0) rfl) pa_nil)) (nomark _))))) (pss_one ps_never) pss_nil)
      (pss_one (ps_ret (pe_op op_sub (pv 1) pe_int))))), ?_⟩)
  · obtain ⟨x, n, lv, ls, ps, rs, rfl, _⟩ := h
    rfl
  · obtain ⟨x, n, lv, ls, ps, rs, rfl, Bk, h1, h2, h⟩ := h
    obtain ⟨dx, hI⟩ := Bk.ins
    refine ⟨_, rfl, _, _, rfl, rfl, _, rfl, dF (Int.not_lt.mpr h1) ?_⟩
    refine ⟨_, rfl, _, rfl, x, C, dx, _, _, rfl, hI, B.cl, B.nV, pf_v _ _, lv, _, rfl, .inl (SqL.of Bk.vs), _, _, rfl, rfl, _, rfl, dF (by rw [List.length_map, Bk.len]; omega) ?_⟩
    exact ⟨_, rfl, _, _, rfl, rfl, h⟩
abbrev s_Book_add : Stmt := inClass (topS 46) 2
theorem sc_Book_add : FnScope ["self", "entry"] ["self", "entry"] (defScope s_Book_add) := ⟨rfl, rfl, rfl, by decide +kernel, rfl, by decide +kernel, by decide +kernel⟩
def spAdd (C : Addr) : Sp := fun vs H Q _ => ∃ (x : Addr) (v : V) (e : Ent) (lv ls : Addr) (ps : List Addr) (rs : List Rec), vs = [.ref x, v] ∧ BookAt C H x lv ls ps rs ∧ IsEnt H v e ∧ e.Ok ∧ rs.length < 30 ∧
  ∀ (H' : Hp) p, H p = none → BookAt C H' x lv ls (ps ++ [p]) (rs ++ [([e], true)]) → Off (Foot lv ls ps) H H' → Q (.int ((rs.length : Int) + 1)) H'
theorem ok_add (F : FnP K "add" "Book.add" s_Book_add f fd) (T : Tx K w mg aK a1 aL) (B : TB K mg C) (g_check_entry : Fd P w K mg base "check_entry" 5 ["entry"] spCheckEntry) : FnOk P w K mg base CX0 6 f fd ["self", "entry"] (spAdd C) := by
  refine F.ok sc_Book_add (fun vs H Q E h => ?_) (fun cdv A outer s H vs Q E hr h => ⟨_, PSs.nox ((pss_cons (ps_expr (pe_fd g_check_entry (rm hr) rfl (pa_cons (pv 1) pa_nil)))
      (pss_cons (ps_if (pt_cmpR op_ge (pe_callB call_len_seq (by rfl) T.b_len PySem.boot_len (pa_cons (pe_fld (pv 0) rfl) pa_nil)) (pe_gi rfl T.m_MAX_RECORDS) (nomark _)) (pss_one ps_never) pss_nil)
      (pss_cons (ps_expr (pe_bm PySem.F.plainAttrs_list PySem.F.slot_list_append PySem.F.type_list_append mt_append (pe_fld (pv 0) rfl) (pa_cons (pe_lst (pa_cons (pv 1) pa_nil)) pa_nil)))
      (pss_cons (ps_expr (pe_bm PySem.F.plainAttrs_list PySem.F.slot_list_append PySem.F.type_list_append mt_append (pe_fld (pv 0) rfl) (pa_cons pe_bl pa_nil)))
      (pss_one (ps_ret (pe_callB call_len_seq (by rfl) T.b_len PySem.boot_len (pa_cons (pe_fld (pv 0) rfl) pa_nil))))))))), ?_⟩)
  · obtain ⟨x, v, e, lv, ls, ps, rs, rfl, _⟩ := h
    rfl
  · obtain ⟨x, v, e, lv, ls, ps, rs, rfl, Bk0, hv0, ok, hl, h⟩ := h
    refine ⟨_, rfl, v, e, rfl, hv0, ok, fun H1 e1 => ?_⟩
    have Bk := Bk0.ex e1
    have hv := hv0.mono (TT0.of e1)
    obtain ⟨dx, hI⟩ := Bk.ins
    have pl := Bk.len
    have hnx := Bk.nox
    refine ⟨_, rfl, x, C, dx, _, _, rfl, hI, B.cl, B.nV, pf_v _ _, lv, _, rfl, .inl (SqL.of Bk.vs), _, _, rfl, rfl, _, rfl, dF (by rw [List.length_map, pl]; omega) ?_⟩
    refine ⟨_, rfl, x, C, dx, _, _, rfl, hI, B.cl, B.nV, pf_v _ _, .inl ⟨rfl, _, SqL.of Bk.vs⟩, _, rfl, by show 1 ≤ sizeLine; decide, fun p hp => ?_⟩
    refine ⟨lv, _, _, rfl, rfl, by rw [upd_ne (ne_of_none Bk.vs hp)]; exact Bk.vs, small1000 (by rw [List.length_map, pl]; omega), ?_⟩
    refine ⟨_, rfl, x, C, dx, _, _, rfl, by rw [upd_ne (fun z => hnx (.inl z)), upd_ne (ne_of_none hI hp)]; exact hI, B.cl, B.nS, pf_s _ _, ?_⟩
    have hst : upd (upd H1 p (.lst [v])) lv (.lst (ps.map V.ref ++ [.ref p])) ls = some (.lst (rs.map fun r => V.bl r.2)) := by
      rw [upd_ne Bk.neq.1.symm, upd_ne (ne_of_none Bk.st hp)]
      exact Bk.st
    refine ⟨.inl ⟨rfl, _, SqL.of hst⟩, ls, _, _, rfl, rfl, hst, small1000 (by rw [List.length_map]; omega), ?_⟩
    obtain ⟨B2, off⟩ := Bk.added hp hv ok
    obtain ⟨dx2, hI2⟩ := B2.ins
    refine ⟨_, rfl, x, C, dx2, _, _, rfl, hI2, B.cl, B.nV, pf_v _ _, lv, _, rfl, .inl (SqL.of B2.vs), ?_⟩
    rw [List.length_map, List.length_append, pl]
    exact h _ p (fresh_back e1 hp) B2 ((Off.of e1).trans off fun _ _ _ n => n)
abbrev s_Book_correct : Stmt := inClass (topS 46) 3
theorem sc_Book_correct : FnScope ["self", "number", "entry", "versions"] ["self", "number", "entry"] (defScope s_Book_correct) := ⟨rfl, rfl, rfl, by decide +kernel, rfl, by decide +kernel, by decide +kernel⟩
def spCorrect (C : Addr) : Sp := fun vs H Q _ => ∃ (x : Addr) (n : Int) (i : Nat) (v : V) (e : Ent) (r : Rec) (lv ls : Addr) (ps : List Addr) (rs : List Rec), vs = [.ref x, .int n, v] ∧ BookAt C H x lv ls ps rs ∧ IsEnt H v e ∧ e.Ok ∧ n = (i : Int) + 1 ∧ rs[i]? = some r ∧
  (∀ e' ∈ r.1, e'.kind = e.kind) ∧ r.1.length < 6 ∧ ∀ H' : Hp, BookAt C H' x lv ls ps (rs.set i (r.1 ++ [e], r.2)) → Off (Foot lv ls ps) H H' → Q .non H'
theorem ok_correct (F : FnP K "correct" "Book.correct" s_Book_correct f fd) (T : Tx K w mg aK a1 aL) (B : TB K mg C) (g_check_entry : Fd P w K mg base "check_entry" 5 ["entry"] spCheckEntry) (g_Book_place : Md P w K mg base C "place" 1 ["self", "number"] (spPlace C)) :
    FnOk P w K mg base CX0 6 f fd ["self", "number", "entry"] (spCorrect C) := by
  refine F.ok sc_Book_correct (fun vs H Q E h => ?_) (fun cdv A outer s H vs Q E hr h => ⟨_, PSs.nox ((pss_cons (ps_set (i := 3) sc_Book_correct.nd rfl (Or.inl rfl) (pe_ix ix_list (pe_fld (pv 0) rfl) (pe_md B.cl (pv 0) g_Book_place (rm hr) (pa_cons (pv 1) pa_nil)) (fun _ _ => rfl)))
      (pss_cons (ps_expr (pe_fd g_check_entry (rm hr) rfl (pa_cons (pv 2) pa_nil)))
      (pss_cons (ps_if (pt_cmpR op_ne (pe_ix ix_tup (pv 2) pe_int (fun _ _ => rfl)) (pe_ix ix_tup (pe_ix ix_list (pv 3) pe_int (fun _ _ => rfl)) pe_int (fun _ _ => rfl)) (nomark _)) (pss_one ps_never) pss_nil)
      (pss_cons (ps_if (pt_cmpR op_ge (pe_callB call_len_seq (by rfl) T.b_len PySem.boot_len (pa_cons (pv 3) pa_nil)) (pe_gi rfl T.m_MAX_VERSIONS) (nomark _)) (pss_one ps_never) pss_nil)
      (pss_one (ps_expr (pe_bm PySem.F.plainAttrs_list PySem.F.slot_list_append PySem.F.type_list_append mt_append (pv 3) (pa_cons (pv 2) pa_nil))))))))), ?_⟩)
  · obtain ⟨x, n, i, v, e, r, lv, ls, ps, rs, rfl, _⟩ := h
    rfl
  · obtain ⟨x, n, i, v, e, r, lv, ls, ps, rs, rfl, Bk0, hv0, ok, rfl, hi, hk, h6, h⟩ := h
    obtain ⟨dx, hI⟩ := Bk0.ins
    have hil : i < rs.length := (List.getElem?_eq_some_iff.mp hi).1
    obtain ⟨p, xs, hp, hx, ha⟩ := Bk0.get hi
    refine ⟨_, rfl, x, C, dx, _, _, rfl, hI, B.cl, B.nV, pf_v _ _, _, rfl, x, dx, _, rfl, hI, pf_no _ _ (by decide +kernel) (by decide +kernel), _, rfl, x, _, lv, ls, ps, rs, rfl, Bk0, by omega, by omega, ?_⟩
    refine ⟨lv, _, _, .ref p, rfl, rfl, SqL.of Bk0.vs, at_of (j := i) (by omega) (by rw [List.getElem?_map, hp]; rfl), ?_⟩
    refine ⟨_, rfl, v, e, rfl, hv0, ok, fun H1 e1 => ?_⟩
    have Bk := Bk0.ex e1
    have hv := hv0.mono (TT0.of e1)
    have hx1 := e1 p _ hx
    have ha1 := ha.imp fun _ _ q => IsEnt.mono (TT0.of e1) q
    obtain ⟨a, ys, ev, hva, _⟩ := id hv
    have r0 : ∃ e0, r.1[0]? = some e0 := by
      obtain ⟨r1, _⟩ := Bk.ok r (List.mem_of_getElem? hi)
      cases q : r.1 with
      | nil => exact absurd q r1
      | cons e0 l => exact ⟨e0, rfl⟩
    obtain ⟨e0, he0⟩ := r0
    obtain ⟨v0, hv00, b0, zs, rfl, hb0, _⟩ := ha1.get' he0
    have kk : e0.kind = e.kind := hk e0 (List.mem_of_getElem? he0)
    subst ev
    refine ⟨_, rfl, a, _, 0, _, rfl, rfl, SqT.of hva, at_of (j := 0) rfl rfl, _, rfl, p, _, 0, _, rfl, rfl, SqL.of hx1, at_of (j := 0) rfl hv00, b0, _, 0, _, rfl, rfl, SqT.of hb0, at_of (j := 0) rfl rfl, rfl, _, rfl, nF (by rw [kk]) ?_⟩
    refine ⟨_, rfl, p, _, rfl, .inl (SqL.of hx1), _, _, rfl, rfl, _, rfl, dF (by rw [ha1.len]; omega) ?_⟩
    obtain ⟨B2, off⟩ := Bk.corrected hi hp hx1 ha1 hv ok hk
    exact ⟨_, rfl, .inl ⟨rfl, _, SqL.of hx1⟩, _, rfl, p, _, _, rfl, rfl, hx1, small1000 (by rw [ha1.len]; omega), h _ B2 ((Off.of e1).trans off fun _ _ _ n => n)⟩
abbrev s_Book_set_standing : Stmt := inClass (topS 46) 4
theorem sc_Book_set_standing : FnScope ["self", "number", "stands", "at"] ["self", "number", "stands"] (defScope s_Book_set_standing) := ⟨rfl, rfl, rfl, by decide +kernel, rfl, by decide +kernel, by decide +kernel⟩
def spSet (C : Addr) : Sp := fun vs H Q _ => ∃ (x : Addr) (n : Int) (i : Nat) (b : Bool) (r : Rec) (lv ls : Addr) (ps : List Addr) (rs : List Rec), vs = [.ref x, .int n, .bl b] ∧ BookAt C H x lv ls ps rs ∧ n = (i : Int) + 1 ∧ rs[i]? = some r ∧ r.2 ≠ b ∧
  ∀ H' : Hp, BookAt C H' x lv ls ps (rs.set i (r.1, b)) → Off (Foot lv ls ps) H H' → Q .non H'
theorem ok_set (F : FnP K "set_standing" "Book.set_standing" s_Book_set_standing f fd) (T : Tx K w mg aK a1 aL) (B : TB K mg C) (g_Book_place : Md P w K mg base C "place" 1 ["self", "number"] (spPlace C)) :
    FnOk P w K mg base CX0 2 f fd ["self", "number", "stands"] (spSet C) := by
  refine F.ok sc_Book_set_standing (fun vs H Q E h => ?_) (fun cdv A outer s H vs Q E hr h => ⟨_, PSs.nox ((pss_cons (ps_set (i := 3) sc_Book_set_standing.nd rfl (Or.inl rfl) (pe_md B.cl (pv 0) g_Book_place (rm hr) (pa_cons (pv 1) pa_nil)))
      (pss_cons (ps_if (pt_cmpR op_eq (pe_ix ix_list (pe_fld (pv 0) rfl) (pv 3) (fun _ _ => rfl)) (pv 2) (nomark _)) (pss_one ps_never) pss_nil)
      (pss_one (ps_asg (pv 2) (pg_sub (pe_fld (pv 0) rfl) (pv 3) set_list)))))), ?_⟩)
  · obtain ⟨x, n, i, b, r, lv, ls, ps, rs, rfl, _⟩ := h
    rfl
  · obtain ⟨x, n, i, b, r, lv, ls, ps, rs, rfl, Bk, rfl, hi, hb, h⟩ := h
    obtain ⟨dx, hI⟩ := Bk.ins
    have hil : i < rs.length := (List.getElem?_eq_some_iff.mp hi).1
    refine ⟨_, rfl, x, dx, _, rfl, hI, pf_no _ _ (by decide +kernel) (by decide +kernel), _, rfl, x, _, lv, ls, ps, rs, rfl, Bk, by omega, by omega, ?_⟩
    refine ⟨_, rfl, x, C, dx, _, _, rfl, hI, B.cl, B.nS, pf_s _ _, _, rfl, ls, _, _, .bl r.2, rfl, rfl, SqL.of Bk.st, at_of (j := i) (by omega) (by rw [List.getElem?_map, hi]; rfl), _, rfl, rfl, _, rfl, dF (fun z => hb (V.bl.inj z)) ?_⟩
    obtain ⟨B2, off⟩ := Bk.stood hi b
    refine ⟨_, rfl, _, rfl, x, C, dx, _, _, rfl, hI, B.cl, B.nS, pf_s _ _, _, rfl, ls, _, _, i, rfl, rfl, Bk.st, ?_, h _ B2 off⟩
    have e : (i : Int) + 1 - 1 = (i : Int) := by omega
    rw [e]
    exact ixN_nat (by rw [List.length_map]; exact hil)
abbrev s_Book_withdraw : Stmt := inClass (topS 46) 5
theorem sc_Book_withdraw : FnScope ["self", "number"] ["self", "number"] (defScope s_Book_withdraw) := ⟨rfl, rfl, rfl, by decide +kernel, rfl, by decide +kernel, by decide +kernel⟩
def spWithdraw (C : Addr) (b : Bool) : Sp := fun vs H Q _ => ∃ (x : Addr) (n : Int) (i : Nat) (r : Rec) (lv ls : Addr) (ps : List Addr) (rs : List Rec), vs = [.ref x, .int n] ∧ BookAt C H x lv ls ps rs ∧ n = (i : Int) + 1 ∧ rs[i]? = some r ∧ r.2 ≠ b ∧
  ∀ H' : Hp, BookAt C H' x lv ls ps (rs.set i (r.1, b)) → Off (Foot lv ls ps) H H' → Q .non H'
theorem ok_withdraw (F : FnP K "withdraw" "Book.withdraw" s_Book_withdraw f fd) (T : Tx K w mg aK a1 aL) (B : TB K mg C) (g_Book_set_standing : Md P w K mg base C "set_standing" 2 ["self", "number", "stands"] (spSet C)) :
    FnOk P w K mg base CX0 3 f fd ["self", "number"] (spWithdraw C false) := by
  refine F.ok sc_Book_withdraw (fun vs H Q E h => ?_) (fun cdv A outer s H vs Q E hr h => ⟨_, PSs.nox ((pss_one (ps_expr (pe_md B.cl (pv 0) g_Book_set_standing (rm hr) (pa_cons (pv 1) (pa_cons pe_bl pa_nil)))))), ?_⟩)
  · obtain ⟨x, n, i, r, lv, ls, ps, rs, rfl, _⟩ := h
    rfl
  · obtain ⟨x, n, i, r, lv, ls, ps, rs, rfl, Bk, hn, hi, hb, h⟩ := h
    obtain ⟨dx, hI⟩ := Bk.ins
    exact ⟨_, rfl, x, dx, _, rfl, hI, pf_no _ _ (by decide +kernel) (by decide +kernel), _, rfl, x, n, i, false, r, lv, ls, ps, rs, rfl, Bk, hn, hi, hb, fun H' B' o => h H' B' o⟩
abbrev s_Book_restore : Stmt := inClass (topS 46) 6
theorem sc_Book_restore : FnScope ["self", "number"] ["self", "number"] (defScope s_Book_restore) := ⟨rfl, rfl, rfl, by decide +kernel, rfl, by decide +kernel, by decide +kernel⟩
theorem ok_restore (F : FnP K "restore" "Book.restore" s_Book_restore f fd) (T : Tx K w mg aK a1 aL) (B : TB K mg C) (g_Book_set_standing : Md P w K mg base C "set_standing" 2 ["self", "number", "stands"] (spSet C)) :
    FnOk P w K mg base CX0 3 f fd ["self", "number"] (spWithdraw C true) := by
  refine F.ok sc_Book_restore (fun vs H Q E h => ?_) (fun cdv A outer s H vs Q E hr h => ⟨_, PSs.nox ((pss_one (ps_expr (pe_md B.cl (pv 0) g_Book_set_standing (rm hr) (pa_cons (pv 1) (pa_cons pe_bl pa_nil)))))), ?_⟩)
  · obtain ⟨x, n, i, r, lv, ls, ps, rs, rfl, _⟩ := h
    rfl
  · obtain ⟨x, n, i, r, lv, ls, ps, rs, rfl, Bk, hn, hi, hb, h⟩ := h
    obtain ⟨dx, hI⟩ := Bk.ins
    exact ⟨_, rfl, x, dx, _, rfl, hI, pf_no _ _ (by decide +kernel) (by decide +kernel), _, rfl, x, n, i, true, r, lv, ls, ps, rs, rfl, Bk, hn, hi, hb, fun H' B' o => h H' B' o⟩
end
end Kb

set_option Elab.async false
set_option linter.all false
set_option maxRecDepth 100000
set_option maxHeartbeats 4000000
/-! K64, the plain law, 1: different entries have different texts; one ascending list of texts. -/
namespace Kb
open PySem PySem.Spec PyProof.Rows L2 Evl TL
/-! ### numbers -/
theorem tl_nt {i : Int} (h : 0 ≤ i) : tl (nt i) = numL i.toNat := by
  obtain ⟨n, rfl⟩ := Int.eq_ofNat_of_zero_le h
  exact tl_num n
theorem nt_inj {i j : Int} (hi : 0 ≤ i) (hj : 0 ≤ j) (h : nt i = nt j) : i = j := by
  have e : numL i.toNat = numL j.toNat := by rw [← tl_nt hi, ← tl_nt hj, h]
  have := numL_inj e
  omega
theorem nt_free {i : Int} {s : Nat} (h : 0 ≤ i) (hs : s < 48 ∨ 57 < s) : s ∉ tl (nt i) := by
  rw [tl_nt h]
  exact numL_free hs
theorem tl_slash : tl ("/" : Str) = [47] := by decide +kernel
theorem tl_comma : tl ("," : Str) = [44] := by decide +kernel
theorem tl_blank : tl (" " : Str) = [32] := by decide +kernel
/-! ### ratios -/
theorem rt_spl {r : Rt} (ok : RtOk r) : spl [47] 0 [] (tl (rtText r)) = if r.2 = 1 then [tl (nt r.1)] else [tl (nt r.1), tl (nt r.2)] := by
  have f1 : 47 ∉ tl (nt r.1) := nt_free ok.n0 (.inl (by decide))
  have f2 : 47 ∉ tl (nt r.2) := nt_free (Int.le_trans (by decide) ok.d0) (.inl (by decide))
  unfold rtText
  split
  · exact spl_join (s := 47) (S := []) (parts := [tl (nt r.1)]) (by simp) fun p hp => by rw [List.mem_singleton.mp hp]; exact f1
  · have e : tl (nt r.1 ++ "/" ++ nt r.2) = joinL [47] [tl (nt r.1), tl (nt r.2)] := by
      rw [tl_append, tl_append, tl_slash, List.append_assoc]
      rfl
    rw [e]
    refine spl_join (s := 47) (S := []) (by simp) fun p hp => ?_
    simp only [List.mem_cons, List.not_mem_nil, or_false] at hp
    rcases hp with rfl | rfl
    · exact f1
    · exact f2
theorem rtText_inj {r r' : Rt} (ok : RtOk r) (ok' : RtOk r') (h : rtText r = rtText r') : r = r' := by
  have d0 := Int.le_trans (by decide : (0 : Int) ≤ 1) ok.d0
  have d0' := Int.le_trans (by decide : (0 : Int) ≤ 1) ok'.d0
  have e := rt_spl ok
  rw [h, rt_spl ok'] at e
  obtain ⟨n, d⟩ := r
  obtain ⟨n', d'⟩ := r'
  dsimp only at *
  by_cases h1 : d = 1
  · by_cases h2 : d' = 1
    · rw [if_pos h1, if_pos h2] at e
      have := nt_inj ok'.n0 ok.n0 (ext_tl (List.singleton_inj.mp e))
      have t : n' = n := this
      rw [t, h1, h2]
    · rw [if_pos h1, if_neg h2] at e
      simp at e
  · by_cases h2 : d' = 1
    · rw [if_neg h1, if_pos h2] at e
      simp at e
    · rw [if_neg h1, if_neg h2] at e
      injection e with e1 e2
      have a := nt_inj ok'.n0 ok.n0 (ext_tl e1)
      have b := nt_inj d0' d0 (ext_tl (List.singleton_inj.mp e2))
      have t : n' = n := a
      rw [t, b]
theorem rt_free {r : Rt} (ok : RtOk r) {s : Nat} (hs : s < 47 ∨ 57 < s) : s ∉ tl (rtText r) := by
  have f1 : s ∉ tl (nt r.1) := nt_free ok.n0 (by omega)
  have f2 : s ∉ tl (nt r.2) := nt_free (Int.le_trans (by decide) ok.d0) (by omega)
  unfold rtText
  split
  · exact f1
  · rw [tl_append, tl_append, tl_slash, List.mem_append, List.mem_append, List.mem_singleton]
    rintro ((h | h) | h)
    · exact f1 h
    · omega
    · exact f2 h
/-! ### lots -/
theorem lots_inj {ls ls' : List Int} (ok : LotsOk ls) (ok' : LotsOk ls') (h : lotsText ls = lotsText ls') : ls = ls' := by
  have key : ∀ {l : List Int}, LotsOk l → spl [44] 0 [] (tl (lotsText l)) = (l.map nt).map tl := fun {l} o => by
    unfold lotsText
    rw [join_eq, tl_join, tl_comma]
    refine spl_join (s := 44) (S := []) (fun z => ?_) fun p hp => ?_
    · have := o.n0
      rw [List.map_eq_nil_iff, List.map_eq_nil_iff] at z
      rw [z] at this
      simp at this
    · obtain ⟨q, hq, rfl⟩ := List.mem_map.mp hp
      obtain ⟨i, hi, rfl⟩ := List.mem_map.mp hq
      exact nt_free (o.r i hi).1 (.inl (by decide))
  have e : (ls.map nt).map tl = (ls'.map nt).map tl := by rw [← key ok, ← key ok', h]
  have e2 := map_tl_inj e
  clear e h key
  have o1 := ok.r
  have o2 := ok'.r
  clear ok ok'
  induction ls generalizing ls' with
  | nil =>
    cases ls' with
    | nil => rfl
    | cons b r => cases e2
  | cons a l ih =>
    cases ls' with
    | nil => cases e2
    | cons b r =>
      rw [List.map_cons, List.map_cons] at e2
      injection e2 with h1 h2
      rw [nt_inj (o1 a List.mem_cons_self).1 (o2 b List.mem_cons_self).1 h1, ih h2 (fun i hi => o1 i (List.mem_cons_of_mem _ hi)) fun i hi => o2 i (List.mem_cons_of_mem _ hi)]
theorem mem_joinL {s t : Nat} : ∀ {parts : List (List Nat)}, s ∈ joinL [t] parts → s = t ∨ ∃ p ∈ parts, s ∈ p
  | [], h => by cases h
  | [p], h => .inr ⟨p, List.mem_singleton.mpr rfl, h⟩
  | p :: q :: r, h => by
    have h2 : s ∈ p ++ ([t] ++ joinL [t] (q :: r)) := h
    rw [List.mem_append, List.mem_append, List.mem_singleton] at h2
    rcases h2 with h2 | h2 | h2
    · exact .inr ⟨p, List.mem_cons_self, h2⟩
    · exact .inl h2
    · rcases mem_joinL h2 with h3 | ⟨z, hz, h3⟩
      · exact .inl h3
      · exact .inr ⟨z, List.mem_cons_of_mem _ hz, h3⟩
theorem lots_free {ls : List Int} (ok : LotsOk ls) {s : Nat} (hs : s < 44) : s ∉ tl (lotsText ls) := by
  unfold lotsText
  rw [join_eq, tl_join, tl_comma]
  intro h
  rcases mem_joinL h with h | ⟨p, hp, h⟩
  · omega
  · obtain ⟨q, hq, rfl⟩ := List.mem_map.mp hp
    obtain ⟨i, hi, rfl⟩ := List.mem_map.mp hq
    exact nt_free (ok.r i hi).1 (by omega) h
/-! ### entries -/
theorem sc_free {z : Str} (h : ScOk z) : 32 ∉ tl z := fun q => absurd (h.2.2 32 q) (by decide +kernel)
theorem pap_free {sc : Str} {p : Pap} (h : ScOk sc) (ok : PapOk p) : ∀ x ∈ papWords sc p, 32 ∉ tl x := by
  have o1 := ok.c0
  have o2 := ok.c1
  have o3 := ok.f1
  intro x hx
  unfold papWords at hx
  simp only [List.mem_cons, List.not_mem_nil, or_false] at hx
  rcases hx with rfl | rfl | rfl | rfl | rfl | rfl | rfl
  · exact sc_free h
  · exact nt_free (by omega) (by decide)
  · exact nt_free (by omega) (by decide)
  · exact rt_free ok.z (by decide)
  · exact rt_free ok.s (by decide)
  · exact rt_free ok.d (by decide)
  · exact nt_free o1 (by decide)
theorem words_free {e : Ent} (ok : e.Ok) : ∀ x ∈ [e.kind] ++ entWords e, 32 ∉ tl x := by
  intro x hx
  rcases List.mem_append.mp hx with hx | hx
  · rw [List.mem_singleton.mp hx]
    cases e with
    | paper _ _ => exact (by decide +kernel : 32 ∉ tl ("paper" : Str))
    | recall _ _ _ => exact (by decide +kernel : 32 ∉ tl ("recall" : Str))
    | weighing _ _ _ _ => exact (by decide +kernel : 32 ∉ tl ("weighing" : Str))
    | known _ _ => exact (by decide +kernel : 32 ∉ tl ("known" : Str))
    | find _ _ => exact (by decide +kernel : 32 ∉ tl ("find" : Str))
  · cases e with
    | paper sc p => exact pap_free ok.1 ok.2 x hx
    | recall sc p d =>
      rcases List.mem_append.mp hx with hx | hx
      · exact pap_free ok.1 ok.2.1 x hx
      · rw [List.mem_singleton.mp hx]
        exact nt_free ok.2.2.1 (by decide)
    | weighing sc d ls r =>
      simp only [entWords, List.mem_cons, List.not_mem_nil, or_false] at hx
      rcases hx with rfl | rfl | rfl | rfl
      · exact sc_free ok.1
      · exact nt_free ok.2.1.1 (by decide)
      · exact lots_free ok.2.2.1 (by decide)
      · exact rt_free ok.2.2.2 (by decide)
    | known ls r =>
      simp only [entWords, List.mem_cons, List.not_mem_nil, or_false] at hx
      rcases hx with rfl | rfl
      · exact lots_free ok.1 (by decide)
      · exact rt_free ok.2 (by decide)
    | find l b =>
      simp only [entWords, List.mem_cons, List.not_mem_nil, or_false] at hx
      rcases hx with rfl | rfl
      · exact nt_free ok.1 (by decide)
      · cases b with
        | true => exact (by decide +kernel : 32 ∉ tl ("yes" : Str))
        | false => exact (by decide +kernel : 32 ∉ tl ("no" : Str))
theorem words_of {e e' : Ent} (ok : e.Ok) (ok' : e'.Ok) (h : entText e = entText e') : [e.kind] ++ entWords e = [e'.kind] ++ entWords e' := by
  have key : ∀ {e : Ent}, e.Ok → spl [32] 0 [] (tl (entText e)) = ([e.kind] ++ entWords e).map tl := fun {e} o => by
    unfold entText
    rw [join_eq, tl_join, tl_blank]
    refine spl_join (s := 32) (S := []) (by simp) fun p hp => ?_
    obtain ⟨q, hq, rfl⟩ := List.mem_map.mp hp
    exact words_free o q hq
  exact map_tl_inj (by rw [← key ok, ← key ok', h])
theorem pap_inj {sc sc' : Str} {p p' : Pap} (ok : PapOk p) (ok' : PapOk p') (h : papWords sc p = papWords sc' p') : sc = sc' ∧ p = p' := by
  have o1 := ok.c0
  have o2 := ok.c1
  have o3 := ok.f1
  have q1 := ok'.c0
  have q2 := ok'.c1
  have q3 := ok'.f1
  unfold papWords at h
  injection h with h0 h
  injection h with h1 h
  injection h with h2 h
  injection h with h3 h
  injection h with h4 h
  injection h with h5 h
  injection h with h6 h
  have e1 := nt_inj (by omega) (by omega) h1
  have e2 := nt_inj (by omega) (by omega) h2
  have e3 := rtText_inj ok.z ok'.z h3
  have e4 := rtText_inj ok.s ok'.s h4
  have e5 := rtText_inj ok.d ok'.d h5
  have e6 := nt_inj (by omega) (by omega) h6
  refine ⟨h0, ?_⟩
  cases p
  cases p'
  dsimp only at *
  rw [e1, e2, e3, e4, e5, e6]
theorem ks_pr : ¬ ("paper" : Str) = "recall" := by decide +kernel
theorem ks_pw : ¬ ("paper" : Str) = "weighing" := by decide +kernel
theorem ks_pk : ¬ ("paper" : Str) = "known" := by decide +kernel
theorem ks_pf : ¬ ("paper" : Str) = "find" := by decide +kernel
theorem ks_rw : ¬ ("recall" : Str) = "weighing" := by decide +kernel
theorem ks_rk : ¬ ("recall" : Str) = "known" := by decide +kernel
theorem ks_rf : ¬ ("recall" : Str) = "find" := by decide +kernel
theorem ks_wk : ¬ ("weighing" : Str) = "known" := by decide +kernel
theorem ks_wf : ¬ ("weighing" : Str) = "find" := by decide +kernel
theorem ks_kf : ¬ ("known" : Str) = "find" := by decide +kernel
theorem yn : ¬ ("yes" : Str) = "no" := by decide +kernel
theorem entText_inj {e e' : Ent} (ok : e.Ok) (ok' : e'.Ok) (h : entText e = entText e') : e = e' := by
  have hw := words_of ok ok' h
  injection hw with hk hw
  cases e with
  | paper sc p =>
    cases e' with
    | paper sc' p' => obtain ⟨a, b⟩ := pap_inj ok.2 ok'.2 hw; rw [a, b]
    | recall _ _ _ => exact absurd hk ks_pr
    | weighing _ _ _ _ => exact absurd hk ks_pw
    | known _ _ => exact absurd hk ks_pk
    | find _ _ => exact absurd hk ks_pf
  | recall sc p d =>
    cases e' with
    | paper _ _ => exact absurd hk.symm ks_pr
    | recall sc' p' d' =>
      have hw2 : papWords sc p ++ [nt d] = papWords sc' p' ++ [nt d'] := hw
      obtain ⟨a, b⟩ := List.append_inj' hw2 rfl
      obtain ⟨a1, a2⟩ := pap_inj ok.2.1 ok'.2.1 a
      rw [a1, a2, nt_inj ok.2.2.1 ok'.2.2.1 (List.singleton_inj.mp b)]
    | weighing _ _ _ _ => exact absurd hk ks_rw
    | known _ _ => exact absurd hk ks_rk
    | find _ _ => exact absurd hk ks_rf
  | weighing sc d ls r =>
    cases e' with
    | paper _ _ => exact absurd hk.symm ks_pw
    | recall _ _ _ => exact absurd hk.symm ks_rw
    | weighing sc' d' ls' r' =>
      have hw2 : [sc, nt d, lotsText ls, rtText r] = [sc', nt d', lotsText ls', rtText r'] := hw
      injection hw2 with h0 hw2
      injection hw2 with h1 hw2
      injection hw2 with h2 hw2
      injection hw2 with h3 _
      rw [h0, nt_inj ok.2.1.1 ok'.2.1.1 h1, lots_inj ok.2.2.1 ok'.2.2.1 h2, rtText_inj ok.2.2.2 ok'.2.2.2 h3]
    | known _ _ => exact absurd hk ks_wk
    | find _ _ => exact absurd hk ks_wf
  | known ls r =>
    cases e' with
    | paper _ _ => exact absurd hk.symm ks_pk
    | recall _ _ _ => exact absurd hk.symm ks_rk
    | weighing _ _ _ _ => exact absurd hk.symm ks_wk
    | known ls' r' =>
      have hw2 : [lotsText ls, rtText r] = [lotsText ls', rtText r'] := hw
      injection hw2 with h0 hw2
      injection hw2 with h1 _
      rw [lots_inj ok.1 ok'.1 h0, rtText_inj ok.2 ok'.2 h1]
    | find _ _ => exact absurd hk ks_kf
  | find l b =>
    cases e' with
    | paper _ _ => exact absurd hk.symm ks_pf
    | recall _ _ _ => exact absurd hk.symm ks_rf
    | weighing _ _ _ _ => exact absurd hk.symm ks_wf
    | known _ _ => exact absurd hk.symm ks_kf
    | find l' b' =>
      have hw2 : [nt l, if b = true then ("yes" : Str) else "no"] = [nt l', if b' = true then ("yes" : Str) else "no"] := hw
      injection hw2 with h0 hw2
      injection hw2 with h1 _
      rw [nt_inj ok.1 ok'.1 h0]
      cases b <;> cases b'
      · rfl
      · exact absurd h1.symm yn
      · exact absurd h1 yn
      · rfl
/-! ### one ascending list -/
def leS (x y : Str) : Prop := tl x ≤ tl y
theorem leS_of {x y : Str} (h : ltCps y.cps.toList x.cps.toList = false) : leS x y := by
  rw [ltCps_eq] at h
  exact List.not_lt.mp (of_decide_eq_false h)
theorem rising_pw : ∀ (l : List Str) (p : Str), risingS p l = true → (p :: l).Pairwise leS
  | [], p, _ => List.pairwise_singleton _ _
  | x :: r, p, h => by
    have h2 : (!ltCps x.cps.toList p.cps.toList && risingS x r) = true := h
    rw [Bool.and_eq_true] at h2
    have h3 : leS p x := leS_of (by simpa using h2.1)
    have ih := rising_pw r x h2.2
    rw [List.pairwise_cons]
    refine ⟨fun y hy => ?_, ih⟩
    rcases List.mem_cons.mp hy with hy | hy
    · rw [hy]
      exact h3
    · exact List.le_trans h3 ((List.pairwise_cons.mp ih).1 y hy)
theorem sorted_pw {l : List Str} (h : sortedS l = true) : l.Pairwise leS := by
  cases l with
  | nil => exact .nil
  | cons x r => exact rising_pw r x h
theorem one_list : ∀ {l m : List Str}, l.Pairwise leS → m.Pairwise leS → l.Nodup → m.Nodup → (∀ x, x ∈ l ↔ x ∈ m) → l = m
  | [], [], _, _, _, _, _ => rfl
  | [], y :: m, _, _, _, _, h => absurd ((h y).mpr List.mem_cons_self) (by simp)
  | x :: l, [], _, _, _, _, h => absurd ((h x).mp List.mem_cons_self) (by simp)
  | x :: l, y :: m, p, q, n, k, h => by
    rw [List.pairwise_cons] at p q
    rw [List.nodup_cons] at n k
    have e : x = y := by
      rcases List.mem_cons.mp ((h x).mp List.mem_cons_self) with a | a
      · exact a
      · rcases List.mem_cons.mp ((h y).mpr List.mem_cons_self) with b | b
        · exact b.symm
        · exact ext_tl (List.le_antisymm (p.1 y b) (q.1 x a))
    subst e
    rw [one_list p.2 q.2 n.2 k.2 fun z => ?_]
    constructor
    · intro hz
      rcases List.mem_cons.mp ((h z).mp (List.mem_cons_of_mem _ hz)) with a | a
      · subst a
        exact absurd hz n.1
      · exact a
    · intro hz
      rcases List.mem_cons.mp ((h z).mpr (List.mem_cons_of_mem _ hz)) with a | a
      · subst a
        exact absurd hz k.1
      · exact a
end Kb

set_option Elab.async false
set_option linter.all false
set_option maxRecDepth 100000
set_option maxHeartbeats 4000000
/-! K64, 9: what the book tells. -/
namespace Kb
open PySem PySem.Spec PyProof.Rows L2 Evl TL
/-! ### plain: which records stand, what stands in them -/
def keepR (rs : List Rec) (i : Nat) : Bool := match rs[i]? with
  | some r => r.2
  | none => false
def stI (rs : List Rec) : List Nat := (List.range rs.length).filter (keepR rs)
def nV (i : Nat) : V := .int ((i : Int) + 1)
def Pres (rs : List Rec) (e : Ent) : Prop := ∃ (i : Nat) (r : Rec), rs[i]? = some r ∧ r.2 = true ∧ r.1.getLast? = some e
structure Evid (rs : List Rec) (es : List Ent) : Prop where
  up : (es.map entText).Pairwise leS
  nd : (es.map entText).Nodup
  mem : ∀ e, e ∈ es ↔ Pres rs e
theorem mem_stI {rs : List Rec} {i : Nat} : i ∈ stI rs ↔ ∃ r, rs[i]? = some r ∧ r.2 = true := by
  unfold stI keepR
  rw [List.mem_filter, List.mem_range]
  constructor
  · rintro ⟨h, k⟩
    rw [List.getElem?_eq_getElem h] at k ⊢
    exact ⟨_, rfl, k⟩
  · rintro ⟨r, h, k⟩
    refine ⟨(List.getElem?_eq_some_iff.mp h).1, ?_⟩
    rw [h]
    exact k
theorem stI_len (rs : List Rec) : (stI rs).length ≤ rs.length := by
  have h := List.length_filter_le (keepR rs) (List.range rs.length)
  rw [List.length_range] at h
  exact h
theorem All2.last {α : Type} {R : V → α → Prop} {vs : List V} {xs : List α} {x : α} (h : All2 R vs xs) (hl : xs.getLast? = some x) : ∃ us v, vs = us ++ [v] ∧ R v x := by
  have hx : xs[xs.length - 1]? = some x := by rw [← List.getLast?_eq_getElem?]; exact hl
  obtain ⟨v, hv, r⟩ := h.get' hx
  have n0 : 0 < xs.length := by
    cases xs with
    | nil => cases hl
    | cons _ _ => exact Nat.succ_pos _
  refine ⟨vs.dropLast, v, ?_, r⟩
  have hne : vs ≠ [] := fun z => by
    have := h.len
    rw [z] at this
    simp at this
    omega
  have e := List.dropLast_concat_getLast hne
  have e2 : vs.getLast hne = v := by
    have : vs.getLast? = some v := by rw [List.getLast?_eq_getElem?, h.len]; exact hv
    rw [List.getLast?_eq_some_getLast hne] at this
    exact Option.some.inj this
  rw [e2] at e
  exact e.symm
theorem Pk.choose {α β : Type} {R : Nat → V → Prop} {S : V → β → Prop} {g : β → α} {xs : List α} {n : Nat} {ys : List V} (h : Pk (fun _ => true) R n ys) (hn : n ≤ xs.length) (f : ∀ i y x, xs[i]? = some x → R i y → ∃ e, g e = x ∧ S y e) :
    ∃ es : List β, All2 S ys es ∧ es.map g = xs.take n := by
  induction h with
  | zero => exact ⟨[], .nil, rfl⟩
  | @yes i ys y _ _ r ih =>
    have hi : i < xs.length := by omega
    have e : xs[i]? = some xs[i] := List.getElem?_eq_getElem hi
    obtain ⟨es, a, b⟩ := ih (by omega)
    obtain ⟨e0, h1, h2⟩ := f i y _ e r
    refine ⟨es ++ [e0], a.snoc h2, ?_⟩
    rw [List.map_append, b, List.take_succ, e, List.map_cons, h1]
    rfl
  | no _ a _ => cases a
/-! ### the dict by text -/
structure FoundOk (H : Hp) (kvs : List (Key × V)) (S : Ent → Prop) : Prop where
  has : ∀ k v, valV kvs k = some v → ∃ e, S e ∧ k = .inr (entText e) ∧ IsEnt H v e
  all : ∀ e, S e → (valV kvs (.inr (entText e))).isSome = true
  nd : (kvs.map (·.1)).Nodup
theorem nd_put {kvs : List (Key × V)} {k : Key} (v : V) (hn : (kvs.map (·.1)).Nodup) : ((putK kvs k v).map (·.1)).Nodup := by
  unfold putK
  split
  · rw [List.map_map]
    have e : ((fun x : Key × V => x.1) ∘ fun kv : Key × V => if kv.1 = k then (kv.1, v) else kv) = fun x => x.1 := by
      funext x
      show (if x.1 = k then (x.1, v) else x).1 = x.1
      split <;> rfl
    rw [e]
    exact hn
  · rename_i h
    rw [List.map_append, List.nodup_append]
    refine ⟨hn, by simp, fun a ha b hb => ?_⟩
    rw [List.map_cons, List.map_nil, List.mem_singleton] at hb
    subst hb
    rintro rfl
    obtain ⟨p, hp, e⟩ := List.mem_map.mp ha
    exact h (List.any_eq_true.mpr ⟨p, hp, decide_eq_true e⟩)
theorem FoundOk.put {H H' : Hp} {kvs : List (Key × V)} {S S' : Ent → Prop} {e : Ent} {v : V} (F : FoundOk H kvs S) (t : TT0 H H') (hv : IsEnt H' v e) (hS : ∀ e', S' e' ↔ S e' ∨ e' = e) : FoundOk H' (putK kvs (.inr (entText e)) v) S' where
  has := fun k u h => by
    rw [valV_put] at h
    by_cases hk : k = .inr (entText e)
    · rw [if_pos hk] at h
      cases h
      exact ⟨e, (hS e).mpr (.inr rfl), hk, hv⟩
    · rw [if_neg hk] at h
      obtain ⟨e', a, b, c⟩ := F.has k u h
      exact ⟨e', (hS e').mpr (.inl a), b, c.mono t⟩
  all := fun e' h => by
    rw [valV_put]
    split
    · rfl
    · rename_i hk
      rcases (hS e').mp h with h | h
      · exact F.all e' h
      · subst h
        exact absurd rfl hk
  nd := nd_put v F.nd
theorem val_of_mem {kvs : List (Key × V)} {p : Key × V} (h : p ∈ kvs) : (valV kvs p.1).isSome = true := by
  rw [← valV_any]
  exact List.any_eq_true.mpr ⟨p, h, decide_eq_true rfl⟩
theorem mem_of_val {kvs : List (Key × V)} {k : Key} (h : (valV kvs k).isSome = true) : k ∈ kvs.map (·.1) := by
  rw [← valV_any] at h
  obtain ⟨p, hp, e⟩ := List.any_eq_true.mp h
  exact List.mem_map.mpr ⟨p, hp, of_decide_eq_true e⟩
theorem FoundOk.keys {H : Hp} {kvs : List (Key × V)} {S : Ent → Prop} (F : FoundOk H kvs S) : ∃ ks : List Str, kvs.map (·.1) = ks.map Sum.inr := by
  have key : ∀ l : List (Key × V), (∀ p ∈ l, ∃ t, p.1 = Sum.inr t) → ∃ ks : List Str, l.map (·.1) = ks.map Sum.inr := by
    intro l
    induction l with
    | nil => exact fun _ => ⟨[], rfl⟩
    | cons p r ih =>
      intro h
      obtain ⟨t, ht⟩ := h p List.mem_cons_self
      obtain ⟨ks, hk⟩ := ih fun q hq => h q (List.mem_cons_of_mem _ hq)
      exact ⟨t :: ks, by rw [List.map_cons, List.map_cons, ht, hk]⟩
  refine key kvs fun p hp => ?_
  obtain ⟨v, hv⟩ := Option.isSome_iff_exists.mp (val_of_mem hp)
  obtain ⟨e, _, he, _⟩ := F.has _ _ hv
  exact ⟨_, he⟩
theorem nodup_inr {l : List Str} (h : (l.map (Sum.inr : Str → Key)).Nodup) : l.Nodup := List.Pairwise.of_map Sum.inr (fun _ _ hne e => hne (congrArg Sum.inr e)) h
theorem wk_enum {K : PySem.W.Frag} {H : Hp} {a : Addr} {xs : List V} (h : SqL K H a xs) : Wk (Ite K a) xs.length (fun i x H' => ∃ T y, x = .ref T ∧ H' T = some (.tup [.int (i : Nat), y]) ∧ xs[i]? = some y) H where
  stop := fun H' e => ⟨xs, ex_l e h, Nat.le_refl _⟩
  go := fun i H' hi e => ⟨xs, xs[i], ex_l e h, by simp [hi]⟩
  yld := fun i H' x H2 hi e y => by
    obtain ⟨T, z, rfl, hT, rfl, hz⟩ := y
    exact ⟨Ex.new hT, T, z, rfl, upd_same, hz xs (ex_l e h)⟩
section
variable {P : Program} {w : World} {K : PySem.W.Frag} {mg : Str → Option Value} {base : Heap} {aK a1 aL C f : Addr} {fd : FuncData}
abbrev s_Book_versions : Stmt := inClass (topS 46) 9
theorem sc_Book_versions : FnScope ["self", "number"] ["self", "number"] (defScope s_Book_versions) := ⟨rfl, rfl, rfl, by decide +kernel, rfl, by decide +kernel, by decide +kernel⟩
def spVersions (C : Addr) : Sp := fun vs H Q _ => ∃ (x : Addr) (n : Int) (i : Nat) (r : Rec) (lv ls : Addr) (ps : List Addr) (rs : List Rec), vs = [.ref x, .int n] ∧ BookAt C H x lv ls ps rs ∧ n = (i : Int) + 1 ∧ rs[i]? = some r ∧
  ∀ q xs H', H q = none → Ex H H' → H' q = some (.lst xs) → All2 (IsEnt H') xs r.1 → Q (.ref q) H'
theorem ok_versions (F : FnP K "versions" "Book.versions" s_Book_versions f fd) (T : Tx K w mg aK a1 aL) (B : TB K mg C) (g_Book_place : Md P w K mg base C "place" 1 ["self", "number"] (spPlace C)) :
    FnOk P w K mg base CX0 2 f fd ["self", "number"] (spVersions C) := by
  refine F.ok sc_Book_versions (fun vs H Q E h => ?_) (fun cdv A outer s H vs Q E hr h => ⟨_, PSs.nox ((pss_one (ps_ret (pe_callTy call_list_of (by rfl) T.b_list (by decide +kernel) (pa_cons (pe_ix ix_list (pe_fld (pv 0) rfl) (pe_md B.cl (pv 0) g_Book_place (rm hr) (pa_cons (pv 1) pa_nil)) (fun _ _ => rfl)) pa_nil))))), ?_⟩)
  · obtain ⟨x, n, i, r, lv, ls, ps, rs, rfl, _⟩ := h
    rfl
  · obtain ⟨x, n, i, r, lv, ls, ps, rs, rfl, Bk, rfl, hi, h⟩ := h
    obtain ⟨dx, hI⟩ := Bk.ins
    have hil : i < rs.length := (List.getElem?_eq_some_iff.mp hi).1
    obtain ⟨p, xs, hp, hx, ha⟩ := Bk.get hi
    refine ⟨_, rfl, x, C, dx, _, _, rfl, hI, B.cl, B.nV, pf_v _ _, _, rfl, x, dx, _, rfl, hI, pf_no _ _ (by decide +kernel) (by decide +kernel), _, rfl, x, _, lv, ls, ps, rs, rfl, Bk, by omega, by omega, ?_⟩
    refine ⟨lv, _, _, .ref p, rfl, rfl, SqL.of Bk.vs, at_of (j := i) (by omega) (by rw [List.getElem?_map, hp]; rfl), p, xs, rfl, .inl (SqL.of hx), fun l hl => ?_⟩
    exact h l xs _ hl (Ex.new hl) upd_same (ha.imp fun _ _ q => q.mono (TT0.of (Ex.new hl)))
abbrev s_Book_standing : Stmt := inClass (topS 46) 10
theorem sc_Book_standing : FnScope ["self", "at", "stands"] ["self"] (defScope s_Book_standing) := ⟨rfl, rfl, rfl, by decide +kernel, rfl, by decide +kernel, by decide +kernel⟩
def spStanding (C : Addr) : Sp := fun vs H Q _ => ∃ (x lv ls : Addr) (ps : List Addr) (rs : List Rec), vs = [.ref x] ∧ BookAt C H x lv ls ps rs ∧ rs.length ≤ 30 ∧ ∀ q H', H q = none → Ex H H' → H' q = some (.lst ((stI rs).map nV)) → Q (.ref q) H'
theorem ok_standing (F : FnP K "standing" "Book.standing" s_Book_standing f fd) (T : Tx K w mg aK a1 aL) (B : TB K mg C) : FnOk P w K mg base CX0 1 f fd ["self"] (spStanding C) := by
  refine F.ok sc_Book_standing (fun vs H Q E h => ?_) (fun cdv A outer s H vs Q E hr h => ⟨_, PSs.nox ((pss_one (ps_ret (pe_lc (own := [("at", 1), ("stands", 2)]) rfl sc_Book_standing.nd (pi_enum (by rfl) T.b_enumerate (pa_cons (pe_fld (pv 0) rfl) pa_nil)) (blkOk_by (own := [("at", 1), ("stands", 2)]) (N := ["self", "at", "stands"]) (sc := defScope s_Book_standing) (by decide +kernel)) (fun _ _ _ _ _ => (pg_tupK (K := K) (n := 2) rfl rfl (pgs_cons (pg_name (i := 1) sc_Book_standing.nd rfl (Or.inl rfl)) (pgs_cons (pg_name (i := 2) sc_Book_standing.nd rfl (Or.inl rfl)) pgs_nil)))) (fun _ _ _ _ _ => pts_one (pt_val (pv 2))) (fun _ _ _ _ _ => (pe_op op_add (pv 1) pe_int)))))), ?_⟩)
  · obtain ⟨x, lv, ls, ps, rs, rfl, _⟩ := h
    rfl
  · obtain ⟨x, lv, ls, ps, rs, rfl, Bk, h30, h⟩ := h
    obtain ⟨dx, hI⟩ := Bk.ins
    have hst : SqL K H ls (rs.map fun r => V.bl r.2) := SqL.of Bk.st
    refine ⟨_, rfl, x, C, dx, _, _, rfl, hI, B.cl, B.nS, pf_s _ _, ls, _, rfl, hst, fun D hD => lc_walk (wk_enum hst) (by rw [List.length_map]; omega) (keepR rs) (fun i y _ => y = nV i) (fun _ _ _ _ r _ => r) hD (fun i v H2 Q1 Q2 hi it e q1 q2 => ?_) (fun ys H' e hy hp => ?_)⟩
    · obtain ⟨t, y, rfl, ht, hy⟩ := it
      have hr : ∃ r, rs[i]? = some r ∧ y = .bl r.2 := by
        rw [List.getElem?_map] at hy
        cases q : rs[i]? with
        | none =>
          rw [q] at hy
          cases hy
        | some r =>
          rw [q] at hy
          exact ⟨r, rfl, (Option.some.inj hy).symm⟩
      obtain ⟨r, hr1, rfl⟩ := hr
      have hk : keepR rs i = r.2 := by
        unfold keepR
        rw [hr1]
      refine ⟨t, _, rfl, SqT.of ht, rfl, _, _, rfl, _, _, rfl, rfl, rfl, _, rfl, r.2, rfl, ?_⟩
      cases hb : r.2 with
      | true =>
        rw [hb] at hk
        exact ⟨_, rfl, _, _, rfl, rfl, q1 hk _ _ (Ex.refl _) rfl⟩
      | false =>
        rw [hb] at hk
        exact q2 hk _ (Ex.refl _)
    · have k := (hp.filter (S := fun v n => v = nV n) (xs := List.range rs.length) (p := keepR rs) (by rw [List.length_map, List.length_range]; exact Nat.le_refl _)
        (fun i n hn => by rw [List.getElem?_range (by have := (List.getElem?_eq_some_iff.mp hn).1; rwa [List.length_range] at this)] at hn; cases hn; rfl)
        (fun i y n hn _ r => by rw [List.getElem?_range (by have := (List.getElem?_eq_some_iff.mp hn).1; rwa [List.length_range] at this)] at hn; cases hn; exact r)).map_eq
      rw [List.length_map, List.take_of_length_le (by rw [List.length_range]; exact Nat.le_refl _)] at k
      rw [k] at hy
      exact h D H' hD e hy
end
end Kb

set_option Elab.async false
set_option linter.all false
set_option maxRecDepth 100000
set_option maxHeartbeats 4000000
/-! K64, 10: the evidence. -/
namespace Kb
open PySem PySem.Spec PyProof.Rows L2 Evl TL
/-- in the first n records that stand -/
def Sub (rs : List Rec) (n : Nat) (e : Ent) : Prop := ∃ k j r, k < n ∧ (stI rs)[k]? = some j ∧ rs[j]? = some r ∧ r.1.getLast? = some e
theorem sub_zero {rs : List Rec} {e : Ent} : ¬ Sub rs 0 e := fun ⟨_, _, _, h, _⟩ => absurd h (Nat.not_lt_zero _)
theorem sub_succ {rs : List Rec} {n j : Nat} {r : Rec} {e0 : Ent} (h1 : (stI rs)[n]? = some j) (h2 : rs[j]? = some r) (h3 : r.1.getLast? = some e0) (e : Ent) : Sub rs (n + 1) e ↔ Sub rs n e ∨ e = e0 := by
  constructor
  · rintro ⟨k, j', r', hk, a, b, c⟩
    rcases Nat.lt_or_ge k n with z | z
    · exact .inl ⟨k, j', r', z, a, b, c⟩
    · have : k = n := by omega
      subst this
      rw [h1] at a
      cases a
      rw [h2] at b
      cases b
      rw [h3] at c
      cases c
      exact .inr rfl
  · rintro (⟨k, j', r', hk, a, b, c⟩ | rfl)
    · exact ⟨k, j', r', by omega, a, b, c⟩
    · exact ⟨n, j, r, by omega, h1, h2, h3⟩
theorem sub_pres {rs : List Rec} {e : Ent} : Sub rs (stI rs).length e ↔ Pres rs e := by
  constructor
  · rintro ⟨k, j, r, hk, a, b, c⟩
    obtain ⟨r', b', d⟩ := mem_stI.mp (List.mem_of_getElem? a)
    rw [b] at b'
    cases b'
    exact ⟨j, r, b, d, c⟩
  · rintro ⟨i, r, a, b, c⟩
    obtain ⟨k, hk, e1⟩ := List.getElem_of_mem (mem_stI.mpr ⟨r, a, b⟩)
    exact ⟨k, i, r, hk, by rw [List.getElem?_eq_getElem hk, e1], a, c⟩
theorem pres_ok {C : Addr} {H : Hp} {x lv ls : Addr} {ps : List Addr} {rs : List Rec} (B : BookAt C H x lv ls ps rs) {e : Ent} (h : Pres rs e) : e.Ok := by
  obtain ⟨i, r, a, _, c⟩ := h
  obtain ⟨_, k, q⟩ := B.ok r (List.mem_of_getElem? a)
  exact (q e (List.mem_of_getLast? c)).2
section
variable {P : Program} {w : World} {K : PySem.W.Frag} {mg : Str → Option Value} {base : Heap} {aK a1 aL C f : Addr} {fd : FuncData}
abbrev s_Book_evidence : Stmt := inClass (topS 46) 11
theorem sc_Book_evidence : FnScope ["self", "found", "number", "entry", "text"] ["self"] (defScope s_Book_evidence) := ⟨rfl, rfl, rfl, by decide +kernel, rfl, by decide +kernel, by decide +kernel⟩
def spEvidence (C : Addr) : Sp := fun vs H Q _ => ∃ (x lv ls : Addr) (ps : List Addr) (rs : List Rec), vs = [.ref x] ∧ BookAt C H x lv ls ps rs ∧ rs.length ≤ 30 ∧
  ∀ q xs es H', H q = none → Ex H H' → H' q = some (.lst xs) → Evid rs es → es.length ≤ 30 → All2 (IsEnt H') xs es → Q (.ref q) H'
theorem ok_evidence (F : FnP K "evidence" "Book.evidence" s_Book_evidence f fd) (T : Tx K w mg aK a1 aL) (B : TB K mg C) (g_Book_standing : Md P w K mg base C "standing" 1 ["self"] (spStanding C)) (g_entry_text : Fd P w K mg base "entry_text" 3 ["entry"] spEntryText) :
    FnOk P w K mg base CX0 4 f fd ["self"] (spEvidence C) := by
  refine F.ok sc_Book_evidence (fun vs H Q E h => ?_) (fun cdv A outer s H vs Q E hr h => ⟨_, PSs.nox ((pss_cons (ps_set (i := 1) sc_Book_evidence.nd rfl (Or.inr rfl) pe_dnewK)
      (pss_cons (ps_for PassesOwn.never rfl (pi_list (pe_md0 B.cl (pv 0) g_Book_standing (rm hr))) (pg_name (i := 2) sc_Book_evidence.nd rfl (Or.inl rfl)) (pss_cons (ps_set (i := 3) sc_Book_evidence.nd rfl (Or.inl rfl) (pe_ix ix_list (pe_ix ix_list (pe_fld (pv 0) rfl) (pe_op op_sub (pv 2) pe_int) (fun _ _ => rfl)) (pe_un un_neg pe_int) (fun _ _ => rfl)))
      (pss_one (ps_dput (hu_of hr) (pv 1) (pe_fd g_entry_text (rm hr) rfl (pa_cons (pv 3) pa_nil)) (pv 3) rfl))))
      (pss_one (ps_ret (pe_lc (own := [("text", 4)]) rfl sc_Book_evidence.nd (pi_list (pe_callB (call_sortedD rfl) (by rfl) T.b_sorted (by decide +kernel) (pa_cons (pv 1) pa_nil))) (blkOk_by (own := [("text", 4)]) (N := ["self", "found", "number", "entry", "text"]) (sc := defScope s_Book_evidence) (by decide +kernel)) (fun _ _ _ _ _ => (pg_name (i := 4) sc_Book_evidence.nd rfl (Or.inl rfl))) (fun _ _ _ _ _ => pts_nil) (fun _ _ _ _ _ => (pe_dget (hu_of hr) (pv 1) (pv 4) (fun _ _ => rfl))))))))), ?_⟩)
  · obtain ⟨x, lv, ls, ps, rs, rfl, _⟩ := h
    rfl
  · obtain ⟨x, lv, ls, ps, rs, rfl, Bk, h30, h⟩ := h
    refine fun d hd => ?_
    have e1 := Ex.new (o := .dK []) hd
    have Bk1 := Bk.ex e1
    obtain ⟨dx, hI⟩ := Bk1.ins
    refine ⟨_, rfl, x, dx, _, rfl, hI, pf_no _ _ (by decide +kernel) (by decide +kernel), x, lv, ls, ps, rs, rfl, Bk1, h30, fun q H2 hq e2 hq2 => ⟨q, rfl, ⟨_, SqL.of hq2⟩, ?_⟩⟩
    have e02 := e1.trans e2
    have hq0 : H q = none := fresh_back e1 hq
    have hd2 : H2 d = some (.dK []) := e2 d _ upd_same
    have ndq : d ≠ q := ne_of hd2 hq2 (by intro z; cases z)
    have sl := stI_len rs
    refine for_list (K := K) (a := q) (xs := (stI rs).map nV) (fun i σ' H' => ∃ u v kvs, σ' = [some (.ref x), some (.ref d), u, v, none] ∧ Ex H H' ∧ H' q = some (.lst ((stI rs).map nV)) ∧ H' d = some (.dK kvs) ∧ kvs.length ≤ i ∧ FoundOk H' kvs (Sub rs i))
      ⟨none, none, [], rfl, e02, hq2, hd2, Nat.le_refl _, ⟨fun k v z => (by cases z), fun e z => absurd z sub_zero, List.nodup_nil⟩⟩ (fun i σ' H' _ ⟨_, _, _, _, _, hq', _⟩ => SqL.of hq') ?_ ?_
    · rintro i y σ' H' hi ⟨u, v, kvs, rfl, eH, hq', hd', hl, F⟩
      have hj : ∃ j, (stI rs)[i]? = some j ∧ y = nV j := by
        rw [List.getElem?_map] at hi
        cases z : (stI rs)[i]? with
        | none =>
          rw [z] at hi
          cases hi
        | some j =>
          rw [z] at hi
          exact ⟨j, rfl, (Option.some.inj hi).symm⟩
      obtain ⟨j, hj, rfl⟩ := hj
      have hil : i < (stI rs).length := (List.getElem?_eq_some_iff.mp hj).1
      obtain ⟨r, hr1, hr2⟩ := mem_stI.mp (List.mem_of_getElem? hj)
      have Bk' := Bk.ex eH
      obtain ⟨dx', hI'⟩ := Bk'.ins
      obtain ⟨p, xs, hp, hx, ha⟩ := Bk'.get hr1
      obtain ⟨rne, _⟩ := Bk.ok r (List.mem_of_getElem? hr1)
      obtain ⟨e0, he0⟩ : ∃ e0, r.1.getLast? = some e0 := ⟨_, List.getLast?_eq_some_getLast rne⟩
      obtain ⟨us, v0, rfl, hv0⟩ := ha.last he0
      have ok0 : e0.Ok := pres_ok Bk ⟨j, r, hr1, hr2, he0⟩
      refine ⟨_, rfl, x, C, dx', _, _, rfl, hI', B.cl, B.nV, pf_v _ _, _, rfl, _, _, rfl, rfl, lv, _, _, .ref p, rfl, rfl, SqL.of Bk'.vs, at_of (j := j) (by omega) (by rw [List.getElem?_map, hp]; rfl), 1, rfl, p, _, _, v0, rfl, rfl, SqL.of hx, atI_last us v0, ?_⟩
      refine ⟨_, rfl, _, rfl, _, rfl, v0, e0, rfl, hv0, ok0, fun H3 e3 => ⟨d, _, rfl, DPut.k (k := .inr (entText e0)) (e3 d _ hd') (small1000 (by omega)), ?_⟩⟩
      have tu : TT0 H3 (upd H3 d (.dK (putK kvs (.inr (entText e0)) v0))) := TT0.upd fun zs z => by
        rw [e3 d _ hd'] at z
        cases z
      refine ⟨_, _, putK kvs (.inr (entText e0)) v0, rfl, (eH.trans e3).mut hd, ?_, upd_same, ?_, F.put ((TT0.of e3).trans tu) (hv0.mono ((TT0.of e3).trans tu)) (sub_succ hj hr1 he0)⟩
      · rw [upd_ne ndq.symm]
        exact e3 q _ hq'
      · have := length_putK kvs (.inr (entText e0)) v0
        omega
    · rintro σ' H' ⟨u, v, kvs, rfl, eH, hq', hd', hl, F⟩
      rw [List.length_map] at F hl
      obtain ⟨ks, hks⟩ := F.keys
      have lk : kvs.length = ks.length := by
        have := congrArg List.length hks
        rwa [List.length_map, List.length_map] at this
      refine ⟨_, rfl, d, kvs, ks, rfl, Rd.of hd', hks, by omega, fun ys p hperm hsort hp => ?_⟩
      have e5 := Ex.new (o := .lst (ys.map V.str)) hp
      have ylen : ys.length = ks.length := hperm.length_eq
      refine ⟨p, rfl, ⟨_, SqL.of upd_same⟩, fun D hD => lc_walk (wk_list (K := K) (SqL.of upd_same)) (by rw [List.length_map]; omega) (fun _ => true)
        (fun i y H6 => ∃ e, ys[i]? = some (entText e) ∧ IsEnt H6 y e ∧ Pres rs e) (fun i y H6 H7 ⟨e, a, b, c⟩ t => ⟨e, a, b.mono t, c⟩) hD (fun i y H6 Q1 Q2 hi it e6 q1 q2 => ?_) (fun zs H6 e6 hz hk => ?_)⟩
      · have hy : ∃ t, ys[i]? = some t ∧ y = .str t := by
          rw [List.getElem?_map] at it
          cases z : ys[i]? with
          | none =>
            rw [z] at it
            cases it
          | some t =>
            rw [z] at it
            exact ⟨t, rfl, (Option.some.inj it).symm⟩
        obtain ⟨t, ht, rfl⟩ := hy
        have tin : (Sum.inr t : Key) ∈ kvs.map (·.1) := by
          rw [hks]
          exact List.mem_map.mpr ⟨t, hperm.mem_iff.mp (List.mem_of_getElem? ht), rfl⟩
        obtain ⟨p0, hp0, ep0⟩ := List.mem_map.mp tin
        have hs := val_of_mem hp0
        rw [ep0] at hs
        obtain ⟨v0, hv0⟩ := Option.isSome_iff_exists.mp hs
        obtain ⟨e0, hS, hk0, he0⟩ := F.has _ _ hv0
        have et : t = entText e0 := Sum.inr.inj hk0
        have g : DGet H6 d (kV (.inr t)) (some v0) := by
          rw [← hv0]
          exact DGet.k (e6 d _ (e5 d _ hd'))
        exact ⟨rfl, _, rfl, _, rfl, d, v0, rfl, g, q1 rfl _ _ (Ex.refl _) ⟨e0, by rw [ht, et], he0.mono (TT0.of (e5.trans e6)), sub_pres.mp hS⟩⟩
      · obtain ⟨es, h1, h2⟩ := hk.choose (xs := ys) (g := entText) (S := fun v e => IsEnt H6 v e ∧ Pres rs e) (by rw [List.length_map]; exact Nat.le_refl _) fun i y t ht ⟨e, a, b, c⟩ => by
          rw [ht] at a
          exact ⟨e, (Option.some.inj a).symm, b, c⟩
        rw [List.length_map, List.take_length] at h2
        have yn : ys.Nodup := hperm.nodup_iff.mpr (nodup_inr (by rw [← hks]; exact F.nd))
        have mem1 : ∀ e ∈ es, Pres rs e := fun e he => by
          obtain ⟨i, hi, ei⟩ := List.getElem_of_mem he
          obtain ⟨_, _, q⟩ := h1.get' (i := i) (x := e) (by rw [List.getElem?_eq_getElem hi, ei])
          exact q.2
        have lz := h1.len
        have le : es.length = ys.length := by rw [← h2, List.length_map]
        refine h D zs es H6 (fresh_back (eH.trans e5) hD) ((eH.trans e5).trans e6) hz ⟨by rw [h2]; exact sorted_pw hsort, by rw [h2]; exact yn, fun e => ⟨mem1 e, fun he => ?_⟩⟩ (by omega) (h1.imp fun _ _ q => q.1)
        have s1 := F.all e (sub_pres.mpr he)
        have s2 := mem_of_val s1
        rw [hks] at s2
        obtain ⟨t, ht, et⟩ := List.mem_map.mp s2
        have et2 : t = entText e := Sum.inr.inj et
        rw [et2] at ht
        have s3 : entText e ∈ es.map entText := by
          rw [h2]
          exact hperm.mem_iff.mpr ht
        obtain ⟨e', he', ee⟩ := List.mem_map.mp s3
        rw [← entText_inj (pres_ok Bk (mem1 e' he')) (pres_ok Bk he) ee]
        exact he'
abbrev s_Book_of_kind : Stmt := inClass (topS 46) 12
theorem sc_Book_of_kind : FnScope ["self", "kind", "entry"] ["self", "kind"] (defScope s_Book_of_kind) := ⟨rfl, rfl, rfl, by decide +kernel, rfl, by decide +kernel, by decide +kernel⟩
def kindsL : List V := [.str "find", .str "known", .str "paper", .str "recall", .str "weighing"]
def spOfKind (C : Addr) : Sp := fun vs H Q _ => ∃ (x : Addr) (k : Str) (lv ls : Addr) (ps : List Addr) (rs : List Rec), vs = [.ref x, .str k] ∧ BookAt C H x lv ls ps rs ∧ rs.length ≤ 30 ∧ inV (.str k) kindsL = true ∧
  ∀ q xs es H', H q = none → Ex H H' → H' q = some (.lst xs) → Evid rs es → es.length ≤ 30 → All2 (IsTail H') xs (es.filter fun e => decide (e.kind = k)) → Q (.ref q) H'
theorem cut_tail (k : V) (xs : List V) : cutV (k :: xs) (some 1) none = xs := by
  unfold cutV
  have e1 : HT.sIx (k :: xs).length 0 (some 1) = 1 := by
    rw [show (some (1 : Int)) = some ((1 : Nat) : Int) from rfl, HT.sIx_nat, List.length_cons]
    omega
  rw [e1, HT.sIx_none, List.length_cons, List.drop_succ_cons, List.drop_zero, Nat.add_sub_cancel, List.take_length]
theorem cut_not (k : V) (xs : List V) : ¬ (HT.sIx (k :: xs).length 0 (some 1) = 0 ∧ HT.sIx (k :: xs).length (k :: xs).length none = (k :: xs).length) := by
  rintro ⟨h, _⟩
  rw [show (some (1 : Int)) = some ((1 : Nat) : Int) from rfl, HT.sIx_nat, List.length_cons] at h
  omega
theorem ok_of_kind (F : FnP K "of_kind" "Book.of_kind" s_Book_of_kind f fd) (T : Tx K w mg aK a1 aL) (B : TB K mg C) (g_Book_evidence : Md P w K mg base C "evidence" 4 ["self"] (spEvidence C)) :
    FnOk P w K mg base CX0 5 f fd ["self", "kind"] (spOfKind C) := by
  refine F.ok sc_Book_of_kind (fun vs H Q E h => ?_) (fun cdv A outer s H vs Q E hr h => ⟨_, PSs.nox ((pss_cons (ps_if (pt_cmpR op_notIn_seq (pv 1) (pe_gr rfl T.m_KINDS) (by rfl)) (pss_one ps_never) pss_nil)
      (pss_one (ps_ret (pe_lc (own := [("entry", 2)]) rfl sc_Book_of_kind.nd (pi_list (pe_md0 B.cl (pv 0) g_Book_evidence (rm hr))) (blkOk_by (own := [("entry", 2)]) (N := ["self", "kind", "entry"]) (sc := defScope s_Book_of_kind) (by decide +kernel)) (fun _ _ _ _ _ => (pg_name (i := 2) sc_Book_of_kind.nd rfl (Or.inl rfl))) (fun _ _ _ _ _ => pts_one (pt_cmpR op_eq (pe_ix (r := rIxT K) ix_tup (pv 2) pe_int (fun _ _ => rfl)) (pv 1) (nomark _))) (fun _ _ _ _ _ => (pe_slice (r := rSlT K) sl_tup (pv 2) (po_some pe_int) po_none))))))), ?_⟩)
  · obtain ⟨x, k, lv, ls, ps, rs, rfl, _⟩ := h
    rfl
  · obtain ⟨x, k, lv, ls, ps, rs, rfl, Bk, h30, hk, h⟩ := h
    obtain ⟨dx, hI⟩ := Bk.ins
    refine ⟨_, rfl, aK, _, rfl, .inr (T.KINDS _), rfl, rfl, _, rfl, ?_⟩
    refine bF (show (!inV (.str k) kindsL) = false by rw [hk]; rfl) ?_
    refine ⟨_, rfl, x, dx, _, rfl, hI, pf_no _ _ (by decide +kernel) (by decide +kernel), x, lv, ls, ps, rs, rfl, Bk, h30, fun q xs es H2 hq e2 hq2 ev h30e ha => ⟨q, rfl, ⟨_, SqL.of hq2⟩, fun D hD => ?_⟩⟩
    have lx := ha.len
    refine lc_walk (wk_list (K := K) (SqL.of hq2)) (by omega) (fun i => match es[i]? with | some e => decide (e.kind = k) | none => false) (fun i y H6 => ∃ e, es[i]? = some e ∧ IsTail H6 y e)
      (fun i y H6 H7 ⟨e, a, b⟩ t => ⟨e, a, b.mono t⟩) hD (fun i y H6 Q1 Q2 hi it e6 q1 q2 => ?_) (fun zs H6 e6 hz hp => ?_)
    · obtain ⟨e, he, hv⟩ := ha.get it
      obtain ⟨a, as, rfl, hA, hB⟩ := hv.mono (TT0.of e6)
      refine ⟨rfl, _, rfl, a, _, 0, .str e.kind, rfl, rfl, SqT.of hA, at_of (j := 0) rfl rfl, _, rfl, rfl, _, rfl, ?_⟩
      by_cases hke : e.kind = k
      · refine dT (congrArg V.str hke) ⟨_, rfl, 1, rfl, a, _, rfl, SqT.of hA, cut_not _ _, fun p hp => q1 (by rw [he]; exact decide_eq_true hke) _ _ (Ex.new hp) ⟨e, he, p, as, rfl, ?_, hB.mono (TT0.of (Ex.new hp))⟩⟩
        rw [upd_same, cut_tail]
      · exact dF (fun z => hke (V.str.inj z)) (q2 (by rw [he]; exact decide_eq_false hke) _ (Ex.refl _))
    · have k2 := hp.filter (S := IsTail H6) (xs := es) (p := fun e => decide (e.kind = k)) (by omega) (fun i e he => by rw [he]) fun i y e he _ ⟨e', a, b⟩ => by
        rw [he] at a
        cases a
        exact b
      rw [lx, List.take_length] at k2
      exact h D zs es H6 (fresh_back e2 hD) (e2.trans e6) hz ev h30e k2
end
end Kb

set_option Elab.async false
set_option linter.all false
set_option maxRecDepth 100000
set_option maxHeartbeats 4000000
/-! K64, 11: the law's numbers. -/
namespace Kb
open PySem PySem.Spec PyProof.Rows L2 Evl TL
theorem m_small {j : Int} (h : 0 ≤ j ∧ j < 2 ^ 62) (i : Int) : CMul i j := .inr ⟨by omega, by omega⟩
theorem m_smallL {i : Int} (h : 0 ≤ i ∧ i < 2 ^ 62) (j : Int) : CMul i j := .inl ⟨by omega, by omega⟩
section
variable {P : Program} {w : World} {K : PySem.W.Frag} {mg : Str → Option Value} {base : Heap} {aK a1 aL C f : Addr} {fd : FuncData}
/-- a new list of ints, no longer than 260 -/
def NumL (H H' : Hp) (q : Addr) (n : Nat) : Prop := H q = none ∧ Ex H H' ∧ ∃ ms : List Int, H' q = some (.lst (ms.map V.int)) ∧ ms.length = n
theorem NumL.app {H H' : Hp} {q : Addr} {n : Nat} {ms : List Int} (h0 : H q = none) (e : Ex H H') (hl : ms.length = n) (z : Int) : NumL H (upd H' q (.lst (ms.map V.int ++ [.int z]))) q (n + 1) :=
  ⟨h0, e.mut h0, ms ++ [z], by rw [upd_same, List.map_append]; rfl, by rw [List.length_append, hl]; rfl⟩
abbrev s_l_numbers : Stmt := topS 48
theorem sc_l_numbers : FnScope ["_law_script", "_law_many", "_law_numbers_here", "_law_k", "_law_cell", "_law_j", "_law_mixed", "_law_base", "_law_last"] ["_law_script", "_law_many"] (defScope s_l_numbers) := ⟨rfl, rfl, rfl, by decide +kernel, rfl, by decide +kernel, by decide +kernel⟩
def spNumbers (K : PySem.W.Frag) : Sp := fun vs H Q _ => ∃ (a : Addr) (ns : List Int), vs = [.ref a, .int 260] ∧ SqL K H a (ns.map V.int) ∧ ns.length ≤ 63 ∧ ∀ q H', NumL H H' q 260 → Q (.ref q) H'
theorem ok_numbers (F : FnP K "_law_numbers" "_law_numbers" s_l_numbers f fd) (T : Tx K w mg aK a1 aL) : FnOk P w K mg base CX0 1 f fd ["_law_script", "_law_many"] (spNumbers K) := by
  refine F.ok sc_l_numbers (fun vs H Q E h => ?_) (fun cdv A outer s H vs Q E hr h => ⟨_, PSs.nox ((pss_cons (ps_set (i := 2) sc_l_numbers.nd rfl (Or.inl rfl) (pe_lst pa_nil))
      (pss_cons (ps_for PassesOwn.never rfl (pi_range1 rfl T.b_range (pa_cons (pe_callB call_len_seq (by rfl) T.b_len PySem.boot_len (pa_cons (pv 0) pa_nil)) pa_nil)) (pg_name (i := 3) sc_l_numbers.nd rfl (Or.inl rfl)) (pss_cons (ps_set (i := 4) sc_l_numbers.nd rfl (Or.inl rfl) (pe_callB call_abs (by rfl) T.b_abs (by decide +kernel) (pa_cons (pe_callTy call_int1 (by rfl) T.b_int (by decide +kernel) (pa_cons (pe_ix ix_list (pv 0) (pv 3) (fun _ _ => rfl)) pa_nil)) pa_nil)))
      (pss_one (ps_if (pt_cmpR op_ge (pv 4) (pe_op op_pow pe_int pe_int) (nomark _)) (pss_one (ps_for PassesOwn.never rfl (pi_range1 rfl T.b_range (pa_cons pe_int pa_nil)) (pg_name (i := 5) sc_l_numbers.nd rfl (Or.inl rfl)) (pss_one (ps_if (PW.pt (pw_and (pt_cmpR op_gt (pv 4) pe_int (nomark _)) (pw_and1 (pt_cmpR op_lt (pe_callB call_len_seq (by rfl) T.b_len PySem.boot_len (pa_cons (pv 2) pa_nil)) (pv 1) (nomark _))))) (pss_cons (ps_expr (pe_bm PySem.F.plainAttrs_list PySem.F.slot_list_append PySem.F.type_list_append mt_append (pv 2) (pa_cons (pe_op op_mod (pv 4) pe_int) pa_nil)))
      (pss_one (ps_set (i := 4) sc_l_numbers.nd rfl (Or.inl rfl) (pe_op op_fdiv (pv 4) pe_int)))) pss_nil)))) (pss_one (ps_if (pt_cmpR op_lt (pe_callB call_len_seq (by rfl) T.b_len PySem.boot_len (pa_cons (pv 2) pa_nil)) (pv 1) (nomark _)) (pss_cons (ps_set (i := 6) sc_l_numbers.nd rfl (Or.inl rfl) (pe_op op_mod (pe_callTy call_int1 (by rfl) T.b_int (by decide +kernel) (pa_cons (pe_op op_add (pe_op op_add (pe_op op_mul (pv 4) pe_int) (pe_op op_mul (pv 3) pe_int)) pe_int) pa_nil)) pe_int))
      (pss_one (ps_expr (pe_bm PySem.F.plainAttrs_list PySem.F.slot_list_append PySem.F.type_list_append mt_append (pv 2) (pa_cons (pe_op op_fdiv (pe_op op_mod (pe_callTy call_int1 (by rfl) T.b_int (by decide +kernel) (pa_cons (pe_op op_add (pe_op op_add (pe_op op_mul (pv 6) pe_int) (pe_op op_mul pe_int (pv 3))) pe_int) pa_nil)) pe_int) pe_int) pa_nil))))) pss_nil))))))
      (pss_cons (ps_set (i := 7) sc_l_numbers.nd rfl (Or.inl rfl) (pe_callB call_len_seq (by rfl) T.b_len PySem.boot_len (pa_cons (pv 2) pa_nil)))
      (pss_cons (ps_set (i := 8) sc_l_numbers.nd rfl (Or.inl rfl) (pe_op op_add pe_int (pe_callB call_len_seq (by rfl) T.b_len PySem.boot_len (pa_cons (pv 0) pa_nil))))
      (pss_cons (ps_for PassesOwn.never rfl (pi_range1 rfl T.b_range (pa_cons (pe_callB (call_max2 rfl) (by rfl) T.b_max (by decide +kernel) (pa_cons pe_int (pa_cons (pe_op op_sub (pv 1) (pv 7)) pa_nil))) pa_nil)) (pg_name (i := 3) sc_l_numbers.nd rfl (Or.inl rfl)) (pss_cons (ps_if (pt_cmpR op_gt (pv 7) pe_int (nomark _)) (pss_one (ps_set (i := 8) sc_l_numbers.nd rfl (Or.inl rfl) (pe_op op_add (pv 8) (pe_ix ix_list (pv 2) (pe_op op_mod (pv 3) (pv 7)) (fun _ _ => rfl))))) pss_nil)
      (pss_cons (ps_set (i := 8) sc_l_numbers.nd rfl (Or.inl rfl) (pe_op op_mod (pe_callTy call_int1 (by rfl) T.b_int (by decide +kernel) (pa_cons (pe_op op_add (pe_op op_mul (pv 8) pe_int) (pv 3)) pa_nil)) pe_int))
      (pss_one (ps_expr (pe_bm PySem.F.plainAttrs_list PySem.F.slot_list_append PySem.F.type_list_append mt_append (pv 2) (pa_cons (pe_op op_fdiv (pv 8) pe_int) pa_nil)))))))
      (pss_one (ps_ret (pe_slice sl_list (pv 2) po_none (po_some (pv 1))))))))))), ?_⟩)
  · obtain ⟨a, ns, rfl, _⟩ := h
    rfl
  · obtain ⟨a, ns, rfl, hS, h63, h⟩ := h
    refine ⟨Nat.zero_le _, fun q hq => ?_⟩
    have e1 := Ex.new (o := .lst []) hq
    refine ⟨_, rfl, a, _, rfl, .inl (ex_l e1 hS), ((ns.map V.int).length : Int), rfl, by rw [List.length_map]; omega, by rw [List.length_map]; omega, ?_⟩
    rw [Int.toNat_natCast]
    refine for_range (fun _ σ' H' => ∃ u1 u2 u3 u4 n, σ' = [some (.ref a), some (.int 260), some (.ref q), u1, u2, u3, u4, none, none] ∧ NumL H H' q n ∧ n ≤ 260)
      ⟨none, none, none, none, 0, rfl, ⟨hq, e1, [], upd_same, rfl⟩, Nat.zero_le _⟩ ?_ ?_
    · rintro i σ' H' hi ⟨u1, u2, u3, u4, n, rfl, ⟨_, eH, ms, hms, hn⟩, h260⟩
      rw [List.length_map] at hi
      have hg := List.getElem?_eq_getElem hi
      have ez : (0 : Int) + (i : Int) = (i : Int) := Int.zero_add _
      refine ⟨_, rfl, _, rfl, a, _, _, .int ns[i], rfl, rfl, ex_l eH hS, at_of ez (by rw [List.getElem?_map, hg]; rfl), .inl ⟨_, rfl, _, rfl, ?_⟩⟩
      generalize (if ns[i] < 0 then -ns[i] else ns[i]) = c
      refine ⟨_, rfl, _, _, rfl, rfl, ⟨by decide, by decide, by decide⟩, _, _, rfl, rfl, _, rfl, ?_⟩
      refine ite2 (fun _ => ?_) (fun _ => ?_)
      · refine ⟨60, rfl, by decide, by decide, for_range (n := 60) (fun _ σ2 H2 => ∃ v2 v3 n2 c2, σ2 = [some (.ref a), some (.int 260), some (.ref q), v2, some (.int c2), v3, u4, none, none] ∧ NumL H H2 q n2 ∧ n2 ≤ 260) ⟨_, _, n, c, rfl, ⟨hq, eH, ms, hms, hn⟩, h260⟩ ?_ ?_⟩
        · rintro j σ2 H2 hj ⟨v2, v3, n2, c2, rfl, ⟨_, eH2, ms2, hms2, hn2⟩, h2⟩
          refine ⟨_, rfl, _, _, rfl, rfl, _, rfl, ?_⟩
          refine ite2 (fun _ => ?_) (fun _ => ?_)
          · refine ⟨_, rfl, q, _, rfl, .inl (SqL.of hms2), _, rfl, _, _, rfl, rfl, _, rfl, ?_⟩
            refine ite2 (fun hlt => ?_) (fun _ => ?_)
            · have hlt2 : n2 < 260 := by
                have := of_decide_eq_true hlt
                rw [List.length_map, hn2] at this
                omega
              refine ⟨_, rfl, .inl ⟨rfl, _, SqL.of hms2⟩, _, rfl, _, _, rfl, rfl, by show (0 : Int) < 10007; decide, q, _, _, rfl, rfl, hms2, small1000 (by rw [List.length_map]; omega), ?_⟩
              refine ⟨_, rfl, _, _, rfl, rfl, ⟨by decide, by decide⟩, ?_⟩
              exact ⟨_, _, n2 + 1, _, rfl, NumL.app hq eH2 hn2 _, hlt2⟩
            · exact ⟨_, _, n2, c2, rfl, ⟨hq, eH2, ms2, hms2, hn2⟩, h2⟩
          · exact ⟨_, _, n2, c2, rfl, ⟨hq, eH2, ms2, hms2, hn2⟩, h2⟩
        · rintro σ2 H2 ⟨v2, v3, n2, c2, rfl, N2, h2⟩
          exact ⟨_, _, _, _, n2, rfl, N2, h2⟩
      · refine ⟨_, rfl, q, _, rfl, .inl (SqL.of hms), _, rfl, _, _, rfl, rfl, _, rfl, ?_⟩
        refine ite2 (fun hlt => ?_) (fun _ => ?_)
        · have hlt2 : n < 260 := by
            have := of_decide_eq_true hlt
            rw [List.length_map, hn] at this
            omega
          refine ⟨_, rfl, _, _, rfl, rfl, m_small (by decide) _, _, rfl, _, _, rfl, rfl, m_small (by decide) _, _, _, rfl, rfl, _, _, rfl, rfl, .inl ⟨_, rfl, _, _, rfl, rfl, by show (0 : Int) < 2147483647; decide, ?_⟩⟩
          refine ⟨_, rfl, .inl ⟨rfl, _, SqL.of hms⟩, _, rfl, _, _, rfl, rfl, m_small (by decide) _, _, rfl, _, _, rfl, rfl, m_smallL (by decide) _, _, _, rfl, rfl, _, _, rfl, rfl, .inl ⟨_, rfl, _, _, rfl, rfl, by show (0 : Int) < 2147483647; decide, _, _, rfl, rfl, ⟨by decide, by decide⟩, ?_⟩⟩
          refine ⟨q, _, _, rfl, rfl, hms, small1000 (by rw [List.length_map]; omega), ?_⟩
          exact ⟨_, _, _, _, n + 1, rfl, NumL.app hq eH hn _, hlt2⟩
        · exact ⟨_, _, _, _, n, rfl, ⟨hq, eH, ms, hms, hn⟩, h260⟩
    · rintro σ' H' ⟨u1, u2, u3, u4, n, rfl, ⟨_, eH, ms, hms, hn⟩, h260⟩
      refine ⟨_, rfl, q, _, rfl, .inl (SqL.of hms), ?_⟩
      refine ⟨_, rfl, a, _, rfl, .inl (ex_l eH hS), _, _, rfl, rfl, ?_⟩
      refine ⟨_, rfl, _, rfl, _, _, rfl, rfl, _, _, rfl, ?_⟩
      rw [List.length_map, hn]
      have em : (if (260 : Int) - (n : Int) > 0 then (260 : Int) - (n : Int) else 0) = ((260 - n : Nat) : Int) := by
        split <;> omega
      rw [em]
      refine ⟨_, rfl, by omega, by omega, ?_⟩
      rw [Int.toNat_natCast]
      refine for_range (fun i σ2 H2 => ∃ v1 z, σ2 = [some (.ref a), some (.int 260), some (.ref q), v1, u2, u3, u4, some (.int (n : Int)), some (.int z)] ∧ NumL H H2 q (n + i)) ⟨_, _, rfl, ⟨hq, eH, ms, hms, hn⟩⟩ ?_ ?_
      · rintro i σ2 H2 hi ⟨v1, z, rfl, ⟨_, eH2, ms2, hms2, hn2⟩⟩
        refine ⟨_, rfl, _, _, rfl, rfl, _, rfl, ?_⟩
        have fin : ∀ z2 : Int, tSeq (tAsg (tOp (rI (fun _ j => 0 < j) fun i j => .int (i % j)) (tCB (fun xs H Q => (∃ i, xs = [.int i] ∧ Q (.int i) H) ∨ ∃ k, xs = [.bl k] ∧ Q (.int (if k then 1 else 0)) H) (tCons (tOp (rI0 fun i j => .int (i + j)) (tOp (rI CMul fun i j => .int (i * j)) (tVar 8) (tC (.int 48271))) (tVar 3)) tNil)) (tC (.int 2147483647))) (gName 8))
            (tDrop (tBM K "list" rAppend (tVar 2) (tCons (tOp (rI CDiv fun i j => .int (i / j)) (tVar 8) (tC (.int 7))) tNil)))
            { nx := fun σ2 H2 => ∃ v1 z, σ2 = [some (.ref a), some (.int 260), some (.ref q), v1, u2, u3, u4, some (.int (n : Int)), some (.int z)] ∧ NumL H H2 q (n + (i + 1)), rt := Q }
            [some (.ref a), some (.int 260), some (.ref q), some (.int (0 + (i : Int))), u2, u3, u4, some (.int (n : Int)), some (.int z2)] H2 := by
          intro z2
          refine ⟨_, rfl, _, _, rfl, rfl, m_small (by decide) _, _, rfl, _, _, rfl, rfl, .inl ⟨_, rfl, _, _, rfl, rfl, by show (0 : Int) < 2147483647; decide, ?_⟩⟩
          refine ⟨_, rfl, .inl ⟨rfl, _, SqL.of hms2⟩, _, rfl, _, _, rfl, rfl, ⟨by decide, by decide⟩, q, _, _, rfl, rfl, hms2, small1000 (by rw [List.length_map]; omega), ?_⟩
          exact ⟨_, _, rfl, NumL.app hq eH2 hn2 _⟩
        refine ite2 (fun hb => ?_) (fun _ => ?_)
        · have hb2 : 0 < n := by
            have := of_decide_eq_true hb
            omega
          have hx : (((0 + (i : Int)) % (n : Int)).toNat) < ms2.length := by
            have h1 := Int.emod_lt_of_pos (0 + (i : Int)) (show (0 : Int) < (n : Int) by omega)
            have h0 := Int.emod_nonneg (0 + (i : Int)) (show (n : Int) ≠ 0 by omega)
            omega
          have h0 := Int.emod_nonneg (0 + (i : Int)) (show (n : Int) ≠ 0 by omega)
          have hg := List.getElem?_eq_getElem hx
          refine ⟨_, rfl, _, rfl, _, rfl, _, rfl, _, _, rfl, rfl, by show (0 : Int) < (n : Int); omega, q, _, _, .int ms2[((0 + (i : Int)) % (n : Int)).toNat], rfl, rfl, SqL.of hms2, at_of (j := ((0 + (i : Int)) % (n : Int)).toNat) (by omega) (by rw [List.getElem?_map, hg]; rfl), _, _, rfl, rfl, ?_⟩
          exact fin _
        · exact fin _
      · rintro σ2 H2 ⟨v1, z, rfl, ⟨_, eH2, ms2, hms2, hn2⟩⟩
        have l260 : ms2.length = 260 := by omega
        refine ⟨_, rfl, _, rfl, _, rfl, q, _, rfl, SqL.of hms2, fun p hp => h p _ ⟨fresh_back eH2 hp, eH2.trans (Ex.new hp), ms2, ?_, l260⟩⟩
        rw [upd_same]
        have ec : cutV (ms2.map V.int) none (some 260) = ms2.map V.int := by
          unfold cutV
          rw [HT.sIx_none, show (some (260 : Int)) = some ((260 : Nat) : Int) from rfl, HT.sIx_nat, List.length_map, l260]
          exact List.take_of_length_le (by rw [List.length_drop, List.length_map, l260]; decide)
        rw [ec]
end
end Kb

set_option Elab.async false
set_option linter.all false
set_option maxRecDepth 100000
set_option maxHeartbeats 4000000
/-! K64, 12: what the law draws: ratios, papers, lots. -/
namespace Kb
open PySem PySem.Spec PyProof.Rows L2 Evl TL
section
variable {P : Program} {w : World} {K : PySem.W.Frag} {mg : Str → Option Value} {base : Heap} {aK a1 aL C f : Addr} {fd : FuncData}
theorem rt_of {n d g : Nat} (hg : g = Nat.gcd n d) (hn : n < 1000) (hd : 0 < d) (h1 : d < 1000) : RtOk ((n : Int) / (g : Int), (d : Int) / (g : Int)) ∧ ((n : Int) < (d : Int) → (n : Int) / (g : Int) < (d : Int) / (g : Int)) := by
  have gp : 0 < g := by rw [hg]; exact Nat.gcd_pos_of_pos_right _ hd
  obtain ⟨k, hk⟩ : g ∣ d := by rw [hg]; exact Nat.gcd_dvd_right n d
  obtain ⟨m, hm⟩ : g ∣ n := by rw [hg]; exact Nat.gcd_dvd_left n d
  have en : (n : Int) / (g : Int) = (m : Int) := by rw [← Int.natCast_ediv, hm, Nat.mul_div_cancel_left _ gp]
  have ed : (d : Int) / (g : Int) = (k : Int) := by rw [← Int.natCast_ediv, hk, Nat.mul_div_cancel_left _ gp]
  have kp : 0 < k := by
    rcases Nat.eq_zero_or_pos k with z | z
    · rw [z, Nat.mul_zero] at hk
      omega
    · exact z
  have mn : m ≤ n := by rw [hm]; exact Nat.le_mul_of_pos_left _ gp
  have kd : k ≤ d := by rw [hk]; exact Nat.le_mul_of_pos_left _ gp
  have gg : Nat.gcd m k = 1 := by
    have h := Nat.gcd_mul_left g m k
    rw [← hm, ← hk, ← hg] at h
    exact (Nat.mul_left_cancel gp (by rw [Nat.mul_one]; exact h)).symm
  rw [en, ed]
  refine ⟨⟨by show (0 : Int) ≤ (m : Int); omega, by show (m : Int) < 1000; omega, by show (1 : Int) ≤ (k : Int); omega, by show (k : Int) < 1000; omega, gg⟩, fun hlt => ?_⟩
  rcases Nat.lt_or_ge m k with z | z
  · omega
  · exfalso
    have : g * k ≤ g * m := Nat.mul_le_mul_left g z
    rw [← hk, ← hm] at this
    omega
abbrev s_l_ratio : Stmt := topS 49
theorem sc_l_ratio : FnScope ["_law_n", "_law_d", "_law_one", "_law_other", "_law_turn", "_law_rest"] ["_law_n", "_law_d"] (defScope s_l_ratio) := ⟨rfl, rfl, rfl, by decide +kernel, rfl, by decide +kernel, by decide +kernel⟩
def spRatio : Sp := fun vs H Q _ => ∃ n d : Int, vs = [.int n, .int d] ∧ 0 ≤ n ∧ n < 1000 ∧ 1 ≤ d ∧ d < 400 ∧ ∀ v r H', Ex H H' → IsRt H' v r → RtOk r → (n < d → r.1 < r.2) → Q v H'
theorem ok_l_ratio (F : FnP K "_law_ratio" "_law_ratio" s_l_ratio f fd) (T : Tx K w mg aK a1 aL) : FnOk P w K mg base CX0 1 f fd ["_law_n", "_law_d"] spRatio := by
  refine F.ok sc_l_ratio (fun vs H Q E h => ?_) (fun cdv A outer s H vs Q E hr h => ⟨_, PSs.nox ((pss_cons (ps_set (i := 2) sc_l_ratio.nd rfl (Or.inl rfl) (pe_callB call_abs (by rfl) T.b_abs (by decide +kernel) (pa_cons (pv 0) pa_nil)))
      (pss_cons (ps_set (i := 3) sc_l_ratio.nd rfl (Or.inl rfl) (pe_callB call_abs (by rfl) T.b_abs (by decide +kernel) (pa_cons (pv 1) pa_nil)))
      (pss_cons (ps_for PassesOwn.never rfl (pi_range1 rfl T.b_range (pa_cons pe_int pa_nil)) (pg_name (i := 4) sc_l_ratio.nd rfl (Or.inl rfl)) (pss_cons (ps_if (pt_cmpR op_eq (pv 3) pe_int (nomark _)) (pss_one ps_break) pss_nil)
      (pss_cons (ps_set (i := 5) sc_l_ratio.nd rfl (Or.inl rfl) (pe_op op_mod (pe_callTy call_int1 (by rfl) T.b_int (by decide +kernel) (pa_cons (pv 2) pa_nil)) (pv 3)))
      (pss_cons (ps_set (i := 2) sc_l_ratio.nd rfl (Or.inl rfl) (pv 3))
      (pss_one (ps_set (i := 3) sc_l_ratio.nd rfl (Or.inl rfl) (pv 5)))))))
      (pss_one (ps_ret (pe_tup (pa_cons (pe_op op_fdiv (pv 0) (pv 2)) (pa_cons (pe_op op_fdiv (pv 1) (pv 2)) pa_nil))))))))), ?_⟩)
  · obtain ⟨n, d, rfl, _⟩ := h
    rfl
  · obtain ⟨n, d, rfl, hn0, hn1, hd0, hd1, h⟩ := h
    obtain ⟨n, rfl⟩ := Int.eq_ofNat_of_zero_le hn0
    obtain ⟨d, rfl⟩ := Int.eq_ofNat_of_zero_le (show 0 ≤ d by omega)
    have en : (if (n : Int) < 0 then -(n : Int) else n) = n := if_neg (by omega)
    have ed : (if (d : Int) < 0 then -(d : Int) else d) = d := if_neg (by omega)
    refine ⟨_, rfl, _, rfl, _, rfl, _, rfl, ?_⟩
    rw [en, ed]
    refine ⟨400, rfl, by decide, by decide, for_range (n := 400) (fun i σ' H' => ∃ (x y : Nat) (u v : Option V), σ' = [some (.int n), some (.int d), some (.int x), some (.int y), u, v] ∧ H' = H ∧ y + i ≤ d ∧ Nat.gcd x y = Nat.gcd n d) ⟨n, d, none, none, rfl, rfl, Nat.le_refl _, rfl⟩ ?_ ?_⟩
    · rintro i σ' H' hi ⟨x, y, u, v, rfl, rfl, hy, hg⟩
      refine ⟨_, rfl, rfl, _, rfl, ?_⟩
      by_cases y0 : y = 0
      · subst y0
        refine dT rfl ?_
        rw [Nat.gcd_zero_right] at hg
        have gp : 0 < x := by rw [hg]; exact Nat.gcd_pos_of_pos_right _ (by omega)
        have gd : x ≤ d := by rw [hg]; exact Nat.gcd_le_right _ (by omega)
        have c : CDiv (n : Int) (x : Int) := ⟨by omega, by omega⟩
        have c2 : CDiv (d : Int) (x : Int) := ⟨by omega, by omega⟩
        refine ⟨_, rfl, _, rfl, _, _, rfl, rfl, c, _, rfl, _, rfl, _, _, rfl, rfl, c2, by show 2 ≤ sizeLine; decide, fun p hp => ?_⟩
        obtain ⟨r1, r2⟩ := rt_of (n := n) (d := d) (g := x) hg (by omega) (by omega) (by omega)
        exact h (.ref p) _ _ (Ex.new hp) ⟨p, rfl, upd_same⟩ r1 r2
      · refine dF (fun z => y0 (by have := V.int.inj z; omega)) ?_
        refine ⟨_, rfl, .inl ⟨_, rfl, _, rfl, _, _, rfl, rfl, by show (0 : Int) < (y : Int); omega, ?_⟩⟩
        refine ⟨_, rfl, _, rfl, ?_⟩
        refine ⟨y, x % y, _, _, rfl, rfl, ?_, ?_⟩
        · have := Nat.mod_lt x (Nat.pos_of_ne_zero y0)
          omega
        · rw [← hg, Nat.gcd_comm x y, Nat.gcd_rec y x, Nat.gcd_comm]
    · rintro σ' H' ⟨x, y, u, v, rfl, rfl, hy, hg⟩
      exfalso
      omega
abbrev s_l_lots : Stmt := topS 51
theorem sc_l_lots : FnScope ["_law_number", "_law_lots_here", "_law_k"] ["_law_number"] (defScope s_l_lots) := ⟨rfl, rfl, rfl, by decide +kernel, rfl, by decide +kernel, by decide +kernel⟩
def spLots : Sp := fun vs H Q _ => ∃ n : Int, vs = [.int n] ∧ ∀ v ls H', Ex H H' → IsLots H' v ls → LotsOk ls → Q v H'
/-- the k-th lot's least number -/
def lot0 (k : Nat) : Int := 12 * (k : Int) + 40 * (if k = 3 then 1 else 0)
theorem ok_l_lots (F : FnP K "_law_lots" "_law_lots" s_l_lots f fd) (T : Tx K w mg aK a1 aL) : FnOk P w K mg base CX0 1 f fd ["_law_number"] spLots := by
  refine F.ok sc_l_lots (fun vs H Q E h => ?_) (fun cdv A outer s H vs Q E hr h => ⟨_, PSs.nox ((pss_cons (ps_set (i := 1) sc_l_lots.nd rfl (Or.inl rfl) (pe_lst pa_nil))
      (pss_cons (ps_for PassesOwn.never rfl (pi_range1 rfl T.b_range (pa_cons (pe_op op_add pe_int (pe_op op_mod (pv 0) pe_int)) pa_nil)) (pg_name (i := 2) sc_l_lots.nd rfl (Or.inl rfl)) (pss_one (ps_expr (pe_bm PySem.F.plainAttrs_list PySem.F.slot_list_append PySem.F.type_list_append mt_append (pv 1) (pa_cons (pe_op op_add (pe_op op_add (pe_op op_mod (pe_op op_fdiv (pe_op op_fdiv (pv 0) pe_int) (pe_op op_add pe_int (pe_op op_mul pe_int (pv 2)))) pe_int) (pe_op op_mul pe_int (pv 2))) (pe_op op_mul pe_int (pe_callTy call_int1 (by rfl) T.b_int (by decide +kernel) (pa_cons (pe_cmpR op_eq (pv 2) pe_int (nomark _)) pa_nil)))) pa_nil)))))
      (pss_one (ps_ret (pe_callTy call_tuple_of (by rfl) T.b_tuple (by decide +kernel) (pa_cons (pv 1) pa_nil))))))), ?_⟩)
  · obtain ⟨n, rfl, _⟩ := h
    rfl
  · obtain ⟨n, rfl, h⟩ := h
    refine ⟨Nat.zero_le _, fun q hq => ?_⟩
    have m0 := Int.emod_nonneg n (show (4 : Int) ≠ 0 by decide)
    have m1 := Int.emod_lt_of_pos n (show (0 : Int) < 4 by decide)
    refine ⟨_, rfl, _, _, rfl, rfl, by show (0 : Int) < 4; decide, _, _, rfl, rfl, _, rfl, by omega, by omega, ?_⟩
    obtain ⟨m, hm⟩ : ∃ m : Nat, (1 + n % 4).toNat = m := ⟨_, rfl⟩
    rw [hm]
    refine for_range (n := m) (fun i σ' H' => ∃ u ms, σ' = [some (.int n), some (.ref q), u] ∧ Ex H H' ∧ H' q = some (.lst (ms.map V.int)) ∧ ms.length = i ∧ ∀ (j : Nat) z, ms[j]? = some z → lot0 j ≤ z ∧ z < lot0 j + 12) ⟨none, [], rfl, Ex.new hq, upd_same, rfl, fun j z hj => by simp at hj⟩ ?_ ?_
    · rintro i σ' H' hi ⟨u, ms, rfl, eH, hms, hl, hb⟩
      have e0 : (0 : Int) + (i : Int) = (i : Int) := Int.zero_add _
      have c : CDiv (n / 4) (1 + 7 * (0 + (i : Int))) := ⟨by omega, by omega⟩
      refine ⟨_, rfl, .inl ⟨rfl, _, SqL.of hms⟩, _, rfl, _, _, rfl, rfl, ⟨by decide, by decide⟩, _, rfl, _, _, rfl, rfl, m_smallL (by decide) _, _, _, rfl, rfl, _, _, rfl, rfl, c, _, _, rfl, rfl, by show (0 : Int) < 12; decide, _, rfl, _, _, rfl, rfl, m_smallL (by decide) _, _, _, rfl, rfl, _, rfl, rfl, .inr ⟨_, rfl, ?_⟩⟩
      refine ⟨_, _, rfl, rfl, m_smallL (by decide) _, _, _, rfl, rfl, q, _, _, rfl, rfl, hms, small1000 (by rw [List.length_map]; omega), ?_⟩
      refine ⟨_, ms ++ [_], rfl, eH.mut hq, by rw [upd_same, List.map_append]; rfl, by rw [List.length_append, hl]; rfl, fun j z hj => ?_⟩
      by_cases hji : j < ms.length
      · rw [List.getElem?_append_left hji] at hj
        exact hb j z hj
      · rw [List.getElem?_append_right (by omega)] at hj
        have j0 : j - ms.length = 0 := by
          have := (List.getElem?_eq_some_iff.mp hj).1
          simp at this
          omega
        rw [j0] at hj
        have hz := (Option.some.inj hj).symm
        have ji : j = i := by omega
        subst ji
        have w0 := Int.emod_nonneg (n / 4 / (1 + 7 * (0 + (j : Int)))) (show (12 : Int) ≠ 0 by decide)
        have w1 := Int.emod_lt_of_pos (n / 4 / (1 + 7 * (0 + (j : Int)))) (show (0 : Int) < 12 by decide)
        have ek : (if decide (V.int (0 + (j : Int)) = V.int 3) = true then (1 : Int) else 0) = if j = 3 then 1 else 0 := by
          by_cases h3 : j = 3
          · subst h3
            rfl
          · rw [if_neg h3, if_neg]
            intro z3
            have := V.int.inj (of_decide_eq_true z3)
            omega
        rw [hz]
        show lot0 j ≤ n / 4 / (1 + 7 * (0 + (j : Int))) % 12 + 12 * (0 + (j : Int)) + 40 * (if decide (V.int (0 + (j : Int)) = V.int 3) = true then (1 : Int) else 0) ∧ _
        rw [ek]
        unfold lot0
        omega
    · rintro σ' H' ⟨u, ms, rfl, eH, hms, hl, hb⟩
      refine ⟨_, rfl, q, _, rfl, .inl ⟨SqL.of hms, fun l hl2 => ?_⟩⟩
      refine h (.ref l) ms _ (eH.trans (Ex.new hl2)) ⟨l, rfl, upd_same⟩ ⟨by omega, by omega, fun z hz => ?_, fun i a b ha hb2 => ?_⟩
      · obtain ⟨j, hj, e⟩ := List.getElem_of_mem hz
        have := hb j z (by rw [List.getElem?_eq_getElem hj, e])
        have j4 : j < 4 := by omega
        unfold lot0 at this
        constructor
        · split at this <;> omega
        · split at this <;> omega
      · have h1 := hb i a ha
        have h2 := hb (i + 1) b hb2
        have i4 : i + 1 < 4 := by
          have := (List.getElem?_eq_some_iff.mp hb2).1
          omega
        unfold lot0 at h1 h2
        rw [if_neg (by omega)] at h1
        split at h2 <;> omega
end
end Kb

set_option Elab.async false
set_option linter.all false
set_option maxRecDepth 100000
set_option maxHeartbeats 4000000
/-! K64, 13: what the law draws: papers, entries. -/
namespace Kb
open PySem PySem.Spec PyProof.Rows L2 Evl TL
theorem at_pick (k : Bool) : atI [V.int 40, V.int 700] (if k = true then 1 else 0) = some (.int (if k = true then 700 else 40)) := by cases k <;> rfl
theorem pos_pick (k : Bool) : (0 : Int) < (if k = true then 700 else 40) ∧ (if k = true then (700 : Int) else 40) ≤ 700 := by cases k <;> decide
theorem sc_ab : ScOk "ab" := by unfold ScOk; decide +kernel
theorem sc_c : ScOk "c" := by unfold ScOk; decide +kernel
theorem sc_z : ScOk "zzzz" := by unfold ScOk; decide +kernel
theorem sc_a : ScOk "a" := by unfold ScOk; decide +kernel
theorem at_sc {z : Int} (h0 : 0 ≤ z) (h1 : z < 4) : ∃ sc : Str, atI [V.str "ab", V.str "c", V.str "zzzz", V.str "a"] z = some (.str sc) ∧ ScOk sc := by
  have : z = 0 ∨ z = 1 ∨ z = 2 ∨ z = 3 := by omega
  rcases this with rfl | rfl | rfl | rfl
  · exact ⟨_, rfl, sc_ab⟩
  · exact ⟨_, rfl, sc_c⟩
  · exact ⟨_, rfl, sc_z⟩
  · exact ⟨_, rfl, sc_a⟩
theorem unc {n : Nat} : ∀ {ms : List Int}, n + 1 ≤ ms.length → ∃ a r, ms = a :: r ∧ n ≤ r.length
  | [], h => absurd h (Nat.not_succ_le_zero n)
  | a :: r, h => ⟨a, r, rfl, Nat.le_of_succ_le_succ h⟩
section
variable {P : Program} {w : World} {K : PySem.W.Frag} {mg : Str → Option Value} {base : Heap} {aK a1 aL C f : Addr} {fd : FuncData}
abbrev s_l_paper : Stmt := topS 50
theorem sc_l_paper : FnScope ["_law_numbers_here", "_law_first", "_law_last", "_law_zero", "_law_share", "_law_drift"] ["_law_numbers_here"] (defScope s_l_paper) := ⟨rfl, rfl, rfl, by decide +kernel, rfl, by decide +kernel, by decide +kernel⟩
def spPaper (K : PySem.W.Frag) : Sp := fun vs H Q _ => ∃ (a : Addr) (ms : List Int), vs = [.ref a] ∧ SqL K H a (ms.map V.int) ∧ 6 ≤ ms.length ∧ ∀ v p H', Ex H H' → IsPap H' v p → PapOk p → Q v H'
theorem ok_l_paper (F : FnP K "_law_paper" "_law_paper" s_l_paper f fd) (T : Tx K w mg aK a1 aL) (g_l_ratio : Fd P w K mg base "_law_ratio" 1 ["_law_n", "_law_d"] spRatio) : FnOk P w K mg base CX0 2 f fd ["_law_numbers_here"] (spPaper K) := by
  refine F.ok sc_l_paper (fun vs H Q E h => ?_) (fun cdv A outer s H vs Q E hr h => ⟨_, PSs.nox ((pss_cons (ps_set (i := 1) sc_l_paper.nd rfl (Or.inl rfl) (pe_op op_mod (pe_ix ix_list (pv 0) pe_int (fun _ _ => rfl)) pe_int))
      (pss_cons (ps_set (i := 2) sc_l_paper.nd rfl (Or.inl rfl) (pe_op op_add (pv 1) (pe_op op_mod (pe_ix ix_list (pv 0) pe_int (fun _ _ => rfl)) (pe_ix ix_list (pe_lst (pa_cons pe_int (pa_cons pe_int pa_nil))) (pe_callTy call_int1 (by rfl) T.b_int (by decide +kernel) (pa_cons (pe_cmpR op_eq (pe_op op_mod (pe_op op_fdiv (pe_ix ix_list (pv 0) pe_int (fun _ _ => rfl)) pe_int) pe_int) pe_int (nomark _)) pa_nil)) (fun _ _ => rfl)))))
      (pss_cons (ps_set (i := 3) sc_l_paper.nd rfl (Or.inl rfl) (pe_fd g_l_ratio (rm hr) rfl (pa_cons (pe_op op_mod (pe_ix ix_list (pv 0) pe_int (fun _ _ => rfl)) pe_int) (pa_cons (pe_op op_add pe_int (pe_op op_mod (pe_op op_fdiv (pe_ix ix_list (pv 0) pe_int (fun _ _ => rfl)) pe_int) pe_int)) pa_nil))))
      (pss_cons (ps_set (i := 4) sc_l_paper.nd rfl (Or.inl rfl) (pe_fd g_l_ratio (rm hr) rfl (pa_cons (pe_op op_mod (pe_ix ix_list (pv 0) pe_int (fun _ _ => rfl)) pe_int) (pa_cons (pe_op op_add pe_int (pe_op op_mod (pe_op op_fdiv (pe_ix ix_list (pv 0) pe_int (fun _ _ => rfl)) pe_int) pe_int)) pa_nil))))
      (pss_cons (ps_set (i := 5) sc_l_paper.nd rfl (Or.inl rfl) (pe_fd g_l_ratio (rm hr) rfl (pa_cons (pe_op op_mod (pe_ix ix_list (pv 0) pe_int (fun _ _ => rfl)) pe_int) (pa_cons (pe_op op_add pe_int (pe_op op_mod (pe_op op_fdiv (pe_ix ix_list (pv 0) pe_int (fun _ _ => rfl)) pe_int) pe_int)) pa_nil))))
      (pss_one (ps_ret (pe_tup (pa_cons (pv 1) (pa_cons (pe_callB (call_min2 rfl) (by rfl) T.b_min (by decide +kernel) (pa_cons pe_int (pa_cons (pv 2) pa_nil))) (pa_cons (pv 3) (pa_cons (pv 4) (pa_cons (pv 5) (pa_cons (pe_op op_mod (pe_ix ix_list (pv 0) pe_int (fun _ _ => rfl)) (pe_op op_add (pv 1) pe_int)) pa_nil))))))))))))))), ?_⟩)
  · obtain ⟨a, ms, rfl, _⟩ := h
    rfl
  · obtain ⟨a, ms, rfl, hS, h6, h⟩ := h
    obtain ⟨n0, r0, rfl, z0⟩ := unc h6
    obtain ⟨n1, r1, rfl, z1⟩ := unc z0
    obtain ⟨n2, r2, rfl, z2⟩ := unc z1
    obtain ⟨n3, r3, rfl, z3⟩ := unc z2
    obtain ⟨n4, r4, rfl, z4⟩ := unc z3
    obtain ⟨n5, rest, rfl, z5⟩ := unc z4
    · skip
      refine ⟨_, rfl, a, _, 0, _, rfl, rfl, hS, at_of (j := 0) rfl rfl, _, _, rfl, rfl, by show (0 : Int) < 300; decide, ?_⟩
      refine ⟨_, rfl, _, rfl, a, _, 1, _, rfl, rfl, hS, at_of (j := 1) rfl rfl, by show 2 ≤ sizeLine; decide, fun l hl => ?_⟩
      have e1 := Ex.new (o := .lst [.int 40, .int 700]) hl
      refine ⟨_, rfl, a, _, 1, _, rfl, rfl, ex_l e1 hS, at_of (j := 1) rfl rfl, _, _, rfl, rfl, ⟨by decide, by decide⟩, _, _, rfl, rfl, by show (0 : Int) < 5; decide, rfl, .inr ⟨_, rfl, ?_⟩⟩
      generalize decide (V.int (n1 / 40 % 5) = V.int 0) = k
      obtain ⟨k0, k7⟩ := pos_pick k
      refine ⟨l, _, _, _, rfl, rfl, SqL.of upd_same, at_pick k, _, _, rfl, rfl, k0, _, _, rfl, rfl, ?_⟩
      generalize (if k = true then (700 : Int) else 40) = m at k0 k7 ⊢
      have q0 := Int.emod_nonneg n1 (show m ≠ 0 by omega)
      have q1 := Int.emod_lt_of_pos n1 k0
      have hS1 := ex_l e1 hS
      refine ⟨_, rfl, a, _, 2, _, rfl, rfl, hS1, at_of (j := 2) rfl rfl, _, _, rfl, rfl, by show (0 : Int) < 5; decide, _, rfl, a, _, 2, _, rfl, rfl, hS1, at_of (j := 2) rfl rfl, _, _, rfl, rfl, ⟨by decide, by decide⟩, _, _, rfl, rfl, by show (0 : Int) < 4; decide, _, _, rfl, rfl, ?_⟩
      refine ⟨_, _, rfl, by omega, by omega, by omega, by omega, fun v2 r2 H2 e2 i2 o2 _ => ?_⟩
      have hS2 := ex_l e2 hS1
      refine ⟨_, rfl, a, _, 3, _, rfl, rfl, hS2, at_of (j := 3) rfl rfl, _, _, rfl, rfl, by show (0 : Int) < 4; decide, _, rfl, a, _, 3, _, rfl, rfl, hS2, at_of (j := 3) rfl rfl, _, _, rfl, rfl, ⟨by decide, by decide⟩, _, _, rfl, rfl, by show (0 : Int) < 30; decide, _, _, rfl, rfl, ?_⟩
      refine ⟨_, _, rfl, by omega, by omega, by omega, by omega, fun v3 r3 H3 e3 i3 o3 l3 => ?_⟩
      have hS3 := ex_l e3 hS2
      refine ⟨_, rfl, a, _, 4, _, rfl, rfl, hS3, at_of (j := 4) rfl rfl, _, _, rfl, rfl, by show (0 : Int) < 3; decide, _, rfl, a, _, 4, _, rfl, rfl, hS3, at_of (j := 4) rfl rfl, _, _, rfl, rfl, ⟨by decide, by decide⟩, _, _, rfl, rfl, by show (0 : Int) < 50; decide, _, _, rfl, rfl, ?_⟩
      refine ⟨_, _, rfl, by omega, by omega, by omega, by omega, fun v4 r4 H4 e4 i4 o4 _ => ?_⟩
      have hS4 := ex_l e4 hS3
      have c0 : (0 : Int) < n0 % 300 + 1 := by omega
      refine ⟨_, rfl, _, rfl, _, _, rfl, _, rfl, _, rfl, _, rfl, _, rfl, a, _, 5, _, rfl, rfl, hS4, at_of (j := 5) rfl rfl, _, rfl, _, _, rfl, rfl, _, _, rfl, rfl, c0, by show 6 ≤ sizeLine; decide, fun t ht => ?_⟩
      have e5 := (e2.trans e3).trans e4
      have tn := TT0.of (Ex.new (o := .tup [.int (n0 % 300), .int (if n0 % 300 + n1 % m < 999 then n0 % 300 + n1 % m else 999), v2, v3, v4, .int (n5 % (n0 % 300 + 1))]) ht)
      refine h (.ref t) ⟨n0 % 300, if n0 % 300 + n1 % m < 999 then n0 % 300 + n1 % m else 999, r2, r3, r4, n5 % (n0 % 300 + 1)⟩ _ ((e1.trans e5).trans (Ex.new ht)) ⟨t, v2, v3, v4, rfl, upd_same, i2.mono ((TT0.of (e3.trans e4)).trans tn), i3.mono ((TT0.of e4).trans tn), i4.mono tn⟩ ?_
      have w0 := Int.emod_nonneg n5 (show n0 % 300 + 1 ≠ 0 by omega)
      have w1 := Int.emod_lt_of_pos n5 c0
      refine ⟨w0, ?_, ?_, ?_, o2, o3, o4, l3 (by omega)⟩
      · show n5 % (n0 % 300 + 1) ≤ n0 % 300
        omega
      · show n0 % 300 ≤ if n0 % 300 + n1 % m < 999 then n0 % 300 + n1 % m else 999
        split <;> omega
      · show (if n0 % 300 + n1 % m < 999 then n0 % 300 + n1 % m else 999) ≤ 999
        split <;> omega
abbrev s_l_entry : Stmt := topS 52
theorem sc_l_entry : FnScope ["_law_numbers_here", "_law_scale", "_law_kind"] ["_law_numbers_here"] (defScope s_l_entry) := ⟨rfl, rfl, rfl, by decide +kernel, rfl, by decide +kernel, by decide +kernel⟩
def spEntry (K : PySem.W.Frag) : Sp := fun vs H Q _ => ∃ (a : Addr) (ms : List Int), vs = [.ref a] ∧ SqL K H a (ms.map V.int) ∧ ms.length = 12 ∧ ∀ v e H', Ex H H' → IsEnt H' v e → e.Ok → Q v H'
theorem ok_l_entry (F : FnP K "_law_entry" "_law_entry" s_l_entry f fd) (T : Tx K w mg aK a1 aL) (g_l_ratio : Fd P w K mg base "_law_ratio" 1 ["_law_n", "_law_d"] spRatio) (g_l_paper : Fd P w K mg base "_law_paper" 2 ["_law_numbers_here"] (spPaper K)) (g_l_lots : Fd P w K mg base "_law_lots" 1 ["_law_number"] spLots) :
    FnOk P w K mg base CX0 3 f fd ["_law_numbers_here"] (spEntry K) := by
  refine F.ok sc_l_entry (fun vs H Q E h => ?_) (fun cdv A outer s H vs Q E hr h => ⟨_, PSs.nox ((pss_cons (ps_set (i := 1) sc_l_entry.nd rfl (Or.inl rfl) (pe_ix ix_list (pe_lst (pa_cons pe_str (pa_cons pe_str (pa_cons pe_str (pa_cons pe_str pa_nil))))) (pe_op op_mod (pe_op op_fdiv (pe_ix ix_list (pv 0) pe_int (fun _ _ => rfl)) pe_int) pe_int) (fun _ _ => rfl)))
      (pss_cons (ps_set (i := 2) sc_l_entry.nd rfl (Or.inl rfl) (pe_op op_mod (pe_ix ix_list (pv 0) pe_int (fun _ _ => rfl)) pe_int))
      (pss_cons (ps_if (pt_cmpR op_eq (pv 2) pe_int (nomark _)) (pss_one (ps_ret (pe_tup (pa_cons pe_str (pa_cons (pv 1) (pa_cons (pe_fd g_l_paper (rm hr) rfl (pa_cons (pe_slice sl_list (pv 0) (po_some pe_int) po_none) pa_nil)) pa_nil)))))) pss_nil)
      (pss_cons (ps_if (pt_cmpR op_eq (pv 2) pe_int (nomark _)) (pss_one (ps_ret (pe_tup (pa_cons pe_str (pa_cons (pv 1) (pa_cons (pe_fd g_l_paper (rm hr) rfl (pa_cons (pe_slice sl_list (pv 0) (po_some pe_int) po_none) pa_nil)) (pa_cons (pe_op op_mod (pe_ix ix_list (pv 0) pe_int (fun _ _ => rfl)) pe_int) pa_nil))))))) pss_nil)
      (pss_cons (ps_if (pt_cmpR op_eq (pv 2) pe_int (nomark _)) (pss_one (ps_ret (pe_tup (pa_cons pe_str (pa_cons (pv 1) (pa_cons (pe_op op_mod (pe_ix ix_list (pv 0) pe_int (fun _ _ => rfl)) pe_int) (pa_cons (pe_fd g_l_lots (rm hr) rfl (pa_cons (pe_ix ix_list (pv 0) pe_int (fun _ _ => rfl)) pa_nil)) (pa_cons (pe_fd g_l_ratio (rm hr) rfl (pa_cons (pe_op op_mod (pe_ix ix_list (pv 0) pe_int (fun _ _ => rfl)) pe_int) (pa_cons (pe_op op_add pe_int (pe_op op_mod (pe_op op_fdiv (pe_ix ix_list (pv 0) pe_int (fun _ _ => rfl)) pe_int) pe_int)) pa_nil))) pa_nil)))))))) pss_nil)
      (pss_cons (ps_if (pt_cmpR op_eq (pv 2) pe_int (nomark _)) (pss_one (ps_ret (pe_tup (pa_cons pe_str (pa_cons (pe_fd g_l_lots (rm hr) rfl (pa_cons (pe_ix ix_list (pv 0) pe_int (fun _ _ => rfl)) pa_nil)) (pa_cons (pe_fd g_l_ratio (rm hr) rfl (pa_cons (pe_op op_mod (pe_ix ix_list (pv 0) pe_int (fun _ _ => rfl)) pe_int) (pa_cons (pe_op op_add pe_int (pe_op op_mod (pe_op op_fdiv (pe_ix ix_list (pv 0) pe_int (fun _ _ => rfl)) pe_int) pe_int)) pa_nil))) pa_nil)))))) pss_nil)
      (pss_one (ps_ret (pe_tup (pa_cons pe_str (pa_cons (pe_op op_mod (pe_ix ix_list (pv 0) pe_int (fun _ _ => rfl)) pe_int) (pa_cons (pe_cmpR op_eq (pe_op op_mod (pe_ix ix_list (pv 0) pe_int (fun _ _ => rfl)) pe_int) pe_int (nomark _)) pa_nil))))))))))))), ?_⟩)
  · obtain ⟨a, ms, rfl, _⟩ := h
    rfl
  · obtain ⟨a, ms, rfl, hS0, h12, h⟩ := h
    obtain ⟨n0, r0, rfl, z0⟩ := unc (n := 11) (Nat.le_of_eq h12.symm)
    obtain ⟨n1, r1, rfl, z1⟩ := unc z0
    obtain ⟨n2, r2, rfl, z2⟩ := unc z1
    obtain ⟨n3, r3, rfl, z3⟩ := unc z2
    obtain ⟨n4, r4, rfl, z4⟩ := unc z3
    obtain ⟨n5, r5, rfl, z5⟩ := unc z4
    obtain ⟨n6, r6, rfl, z6⟩ := unc z5
    obtain ⟨n7, r7, rfl, z7⟩ := unc z6
    · skip
      refine ⟨by show 4 ≤ sizeLine; decide, fun l hl => ?_⟩
      have e1 := Ex.new (o := .lst [.str "ab", .str "c", .str "zzzz", .str "a"]) hl
      have hS := ex_l e1 hS0
      obtain ⟨sc, hsc, osc⟩ := at_sc (z := n0 / 5 % 4) (by omega) (by omega)
      refine ⟨_, rfl, a, _, 0, _, rfl, rfl, hS, at_of (j := 0) rfl rfl, _, _, rfl, rfl, ⟨by decide, by decide⟩, _, _, rfl, rfl, by show (0 : Int) < 4; decide, l, _, _, _, rfl, rfl, SqL.of upd_same, hsc, ?_⟩
      refine ⟨_, rfl, a, _, 0, _, rfl, rfl, hS, at_of (j := 0) rfl rfl, _, _, rfl, rfl, by show (0 : Int) < 5; decide, ?_⟩
      refine ⟨_, rfl, rfl, _, rfl, ?_⟩
      by_cases k0 : n0 % 5 = 0
      · refine dT (congrArg V.int k0) ⟨_, rfl, _, rfl, 1, rfl, a, _, rfl, hS, fun p hp => ?_⟩
        refine ⟨p, n1 :: n2 :: n3 :: n4 :: n5 :: n6 :: n7 :: r7, rfl, SqL.of (by rw [upd_same, List.map_cons, cut_tail]), by simp only [List.length_cons]; omega, fun v pp H2 e2 hv ok => ⟨by show 3 ≤ sizeLine; decide, fun t ht => ?_⟩⟩
        exact h (.ref t) (.paper sc pp) _ (((e1.trans (Ex.new hp)).trans e2).trans (Ex.new ht)) ⟨t, _, rfl, upd_same, v, rfl, hv.mono (TT0.of (Ex.new ht))⟩ ⟨osc, ok⟩
      · refine dF (fun z => k0 (V.int.inj z)) ⟨_, rfl, rfl, _, rfl, ?_⟩
        by_cases k1 : n0 % 5 = 1
        · refine dT (congrArg V.int k1) ⟨_, rfl, _, rfl, 1, rfl, a, _, rfl, hS, fun p hp => ?_⟩
          refine ⟨p, n1 :: n2 :: n3 :: n4 :: n5 :: n6 :: n7 :: r7, rfl, SqL.of (by rw [upd_same, List.map_cons, cut_tail]), by simp only [List.length_cons]; omega, fun v pp H2 e2 hv ok => ?_⟩
          refine ⟨_, rfl, a, _, 7, _, rfl, rfl, ex_l ((Ex.new hp).trans e2) hS, at_of (j := 7) rfl rfl, _, _, rfl, rfl, by show (0 : Int) < 1000; decide, by show 4 ≤ sizeLine; decide, fun t ht => ?_⟩
          exact h (.ref t) (.recall sc pp (n7 % 1000)) _ (((e1.trans (Ex.new hp)).trans e2).trans (Ex.new ht)) ⟨t, _, rfl, upd_same, v, rfl, hv.mono (TT0.of (Ex.new ht))⟩ ⟨osc, ok, by omega, by omega⟩
        · refine dF (fun z => k1 (V.int.inj z)) ⟨_, rfl, rfl, _, rfl, ?_⟩
          by_cases k2 : n0 % 5 = 2
          · refine dT (congrArg V.int k2) ⟨_, rfl, _, rfl, a, _, 1, _, rfl, rfl, hS, at_of (j := 1) rfl rfl, _, _, rfl, rfl, by show (0 : Int) < 1000; decide, ?_⟩
            refine ⟨_, rfl, a, _, 2, _, rfl, rfl, hS, at_of (j := 2) rfl rfl, _, rfl, fun u ls H2 e2 hu okl => ?_⟩
            have hS2 := ex_l e2 hS
            refine ⟨_, rfl, a, _, 3, _, rfl, rfl, hS2, at_of (j := 3) rfl rfl, _, _, rfl, rfl, by show (0 : Int) < 40; decide, _, rfl, a, _, 3, _, rfl, rfl, hS2, at_of (j := 3) rfl rfl, _, _, rfl, rfl, ⟨by decide, by decide⟩, _, _, rfl, rfl, by show (0 : Int) < 6; decide, _, _, rfl, rfl, ?_⟩
            refine ⟨_, _, rfl, by omega, by omega, by omega, by omega, fun v r H3 e3 hv okr _ => ⟨by show 5 ≤ sizeLine; decide, fun t ht => ?_⟩⟩
            have tn := TT0.of (Ex.new (o := .tup [.str "weighing", .str sc, .int (n1 % 1000), u, v]) ht)
            exact h (.ref t) (.weighing sc (n1 % 1000) ls r) _ (((e1.trans e2).trans e3).trans (Ex.new ht)) ⟨t, _, rfl, upd_same, u, v, rfl, hu.mono ((TT0.of e3).trans tn), hv.mono tn⟩ ⟨osc, ⟨by omega, by omega⟩, okl, okr⟩
          · refine dF (fun z => k2 (V.int.inj z)) ⟨_, rfl, rfl, _, rfl, ?_⟩
            by_cases k3 : n0 % 5 = 3
            · refine dT (congrArg V.int k3) ⟨_, rfl, a, _, 1, _, rfl, rfl, hS, at_of (j := 1) rfl rfl, _, rfl, fun u ls H2 e2 hu okl => ?_⟩
              have hS2 := ex_l e2 hS
              refine ⟨_, rfl, a, _, 2, _, rfl, rfl, hS2, at_of (j := 2) rfl rfl, _, _, rfl, rfl, by show (0 : Int) < 40; decide, _, rfl, a, _, 2, _, rfl, rfl, hS2, at_of (j := 2) rfl rfl, _, _, rfl, rfl, ⟨by decide, by decide⟩, _, _, rfl, rfl, by show (0 : Int) < 6; decide, _, _, rfl, rfl, ?_⟩
              refine ⟨_, _, rfl, by omega, by omega, by omega, by omega, fun v r H3 e3 hv okr _ => ⟨by show 3 ≤ sizeLine; decide, fun t ht => ?_⟩⟩
              have tn := TT0.of (Ex.new (o := .tup [.str "known", u, v]) ht)
              exact h (.ref t) (.known ls r) _ (((e1.trans e2).trans e3).trans (Ex.new ht)) ⟨t, _, rfl, upd_same, u, v, rfl, hu.mono ((TT0.of e3).trans tn), hv.mono tn⟩ ⟨okl, okr⟩
            · refine dF (fun z => k3 (V.int.inj z)) ?_
              refine ⟨_, rfl, a, _, 1, _, rfl, rfl, hS, at_of (j := 1) rfl rfl, _, _, rfl, rfl, by show (0 : Int) < 100; decide, _, rfl, a, _, 2, _, rfl, rfl, hS, at_of (j := 2) rfl rfl, _, _, rfl, rfl, by show (0 : Int) < 2; decide, rfl, by show 3 ≤ sizeLine; decide, fun t ht => ?_⟩
              exact h (.ref t) (.find (n1 % 100) (decide (V.int (n2 % 2) = V.int 0))) _ (e1.trans (Ex.new ht)) ⟨t, _, rfl, upd_same, rfl⟩ ⟨by omega, by omega⟩
end
end Kb

set_option Elab.async false
set_option linter.all false
set_option maxRecDepth 100000
set_option maxHeartbeats 4000000
/-! K64, 14: the law's own texts. -/
namespace Kb
open PySem PySem.Spec PyProof.Rows L2 Evl TL
section
variable {P : Program} {w : World} {K : PySem.W.Frag} {mg : Str → Option Value} {base : Heap} {aK a1 aL C f : Addr} {fd : FuncData}
abbrev s_l_ratio_text : Stmt := topS 53
theorem sc_l_ratio_text : FnScope ["_law_part"] ["_law_part"] (defScope s_l_ratio_text) := ⟨rfl, rfl, rfl, by decide +kernel, rfl, by decide +kernel, by decide +kernel⟩
theorem ok_l_ratio_text (F : FnP K "_law_ratio_text" "_law_ratio_text" s_l_ratio_text f fd) (T : Tx K w mg aK a1 aL) : FnOk P w K mg base CX0 1 f fd ["_law_part"] spRatioText := by
  refine F.ok sc_l_ratio_text (fun vs H Q E h => ?_) (fun cdv A outer s H vs Q E hr h => ⟨_, PSs.nox ((pss_cons (ps_if (pt_cmpR op_eq (pe_ix ix_tup (pv 0) pe_int (fun _ _ => rfl)) pe_int (nomark _)) (pss_one (ps_ret (pe_callTy call_str_int (by rfl) T.b_str (by decide +kernel) (pa_cons (pe_ix ix_tup (pv 0) pe_int (fun _ _ => rfl)) pa_nil)))) pss_nil)
      (pss_one (ps_ret (pe_op op_add_str (pe_op op_add_str (pe_callTy call_str_int (by rfl) T.b_str (by decide +kernel) (pa_cons (pe_ix ix_tup (pv 0) pe_int (fun _ _ => rfl)) pa_nil)) pe_str) (pe_callTy call_str_int (by rfl) T.b_str (by decide +kernel) (pa_cons (pe_ix ix_tup (pv 0) pe_int (fun _ _ => rfl)) pa_nil))))))), ?_⟩)
  · obtain ⟨v, r, rfl, _⟩ := h
    rfl
  · obtain ⟨v, r, rfl, ⟨a, rfl, ha⟩, ok, h⟩ := h
    have l1 := nt_len ok.n0 ok.n1
    have l2 := nt_len (Int.le_trans (by decide) ok.d0) ok.d1
    have g1 := log_small ok.n0 ok.n1
    have g2 := log_small (Int.le_trans (by decide) ok.d0) ok.d1
    refine ⟨_, rfl, a, _, 1, _, rfl, rfl, SqT.of ha, rfl, rfl, _, rfl, ?_⟩
    by_cases hd : r.2 = 1
    · refine dT (congrArg V.int hd) ⟨_, rfl, a, _, 0, _, rfl, rfl, SqT.of ha, rfl, _, rfl, g1, ?_⟩
      unfold rtText at h
      rw [if_pos hd] at h
      exact h
    · refine dF (fun z => hd (V.int.inj z)) ?_
      refine ⟨_, rfl, a, _, 0, _, rfl, rfl, SqT.of ha, rfl, _, rfl, g1, _, _, rfl, rfl, ?_, _, rfl, a, _, 1, _, rfl, rfl, SqT.of ha, rfl, _, rfl, g2, _, _, rfl, rfl, ?_, ?_⟩
      · rw [slash_len]
        show (nt r.1).length + 1 ≤ sizeLine
        exact sizes (by omega)
      · rw [slen_append, slash_len]
        show (nt r.1).length + 1 + (nt r.2).length ≤ sizeLine
        exact sizes (by omega)
      · unfold rtText at h
        rw [if_neg hd] at h
        exact h
abbrev s_l_text : Stmt := topS 54
theorem sc_l_text : FnScope ["_law_entry_here", "_law_words", "_law_lot", "_law_first", "_law_last", "_law_zero", "_law_share", "_law_drift", "_law_checked", "_law_part"] ["_law_entry_here"] (defScope s_l_text) := ⟨rfl, rfl, rfl, by decide +kernel, rfl, by decide +kernel, by decide +kernel⟩
theorem at_yes (b : Bool) : atI [V.str "no", V.str "yes"] (if b = true then 1 else 0) = some (.str (if b = true then "yes" else "no")) := by cases b <;> rfl
/-- the lots' numbers as texts, as the comprehension says it -/
theorem lots_nt {H1 : Hp} {a D : Addr} {ls : List Int} {vs : List Nat} {j : Nat} {σ : L2.St} {Qd : Hp → Prop} (ha : H1 a = some (.tup (ls.map V.int))) (ok : LotsOk ls) (hD : H1 D = none) (hj : ∀ x, ((wipe σ vs).set j (some x))[j]? = some (some x)) (hw : ∀ x, wipe ((wipe σ vs).set j (some x)) vs = wipe σ vs)
    (hd : ∀ H', Ex H1 H' → H' D = some (.lst ((ls.map nt).map V.str)) → Qd H') :
    ∃ W : Nat → Nat → Hp → Prop, (∃ m, W 0 m (upd H1 D (.lst []))) ∧ ∀ i m H, W i m H →
      ((Itt K a).stop i H ∧ Qd H) ∨ ((Itt K a).go i H ∧ ∃ Nx : Hp → Prop, (∀ H', Nx H' → ∃ m', m' < m ∧ W (i + 1) m' H') ∧ ∀ x H', (Itt K a).yld i H x H' → gName j x (wipe σ vs) H' fun σ2 H2 => wipe σ2 vs = wipe σ vs ∧ tYes σ2 H2 fun b H3 =>
        if b = true then tCB (fun xs H Q => ∃ i, xs = [.int i] ∧ i.natAbs.log2 < 1920 ∧ Q (.str (toString i)) H) (tCons (tVar j) tNil) σ2 H3 fun y H4 => ∃ acc, H4 D = some (.lst acc) ∧ acc.length < sizeLine ∧ Nx (upd H4 D (.lst (acc ++ [y]))) else Nx H3) := by
  refine lc_walk (wk_tup (K := K) (SqT.of ha)) (by have := ok.n1; rw [List.length_map]; omega) (fun _ => true) (fun i y _ => ∃ n, ls[i]? = some n ∧ y = .str (nt n)) (fun _ _ _ _ r _ => r) hD (fun i x H2 Q1 Q2 hi it e q1 q2 => ?_) (fun ys H' e hy hp => ?_)
  · obtain ⟨c, hc, rfl⟩ := map_get it
    obtain ⟨c0, c1⟩ := ok.r c (List.mem_of_getElem? hc)
    exact ⟨hw _, _, hj _, c, rfl, log_small c0 (by omega), q1 rfl _ _ (Ex.refl _) ⟨c, hc, rfl⟩⟩
  · have k2 := (hp.all (S := fun v n => v = V.str (nt n)) (xs := ls) (by rw [List.length_map]; omega) fun i y x hx r => by
      obtain ⟨n, h1, h2⟩ := r
      rw [hx] at h1
      cases h1
      exact h2).map_eq
    rw [List.length_map, List.take_length] at k2
    exact hd H' e (by rw [hy, k2, List.map_map]; rfl)
theorem lots_sz {ls : List Int} (ok : LotsOk ls) : ((ls.map nt).map (·.length)).sum + (ls.map nt).length * ("," : Str).length ≤ 16777216 := by
  have hs := lots_sum ok
  have n1 := ok.n1
  rw [comma_len, List.length_map]
  omega
theorem ok_l_text (F : FnP K "_law_text" "_law_text" s_l_text f fd) (T : Tx K w mg aK a1 aL) (g_l_ratio_text : Fd P w K mg base "_law_ratio_text" 1 ["_law_part"] spRatioText) : FnOk P w K mg base CX0 2 f fd ["_law_entry_here"] spEntryText := by
  refine F.ok sc_l_text (fun vs H Q E h => ?_) (fun cdv A outer s H vs Q E hr h => ⟨_, PSs.nox ((pss_cons (ps_set (i := 1) sc_l_text.nd rfl (Or.inl rfl) (pe_lst (pa_cons (pe_ix ix_tup (pv 0) pe_int (fun _ _ => rfl)) pa_nil)))
      (pss_cut (ps_if (pt_cmpR op_eq (pe_ix ix_tup (pv 0) pe_int (fun _ _ => rfl)) pe_str (nomark _)) (pss_one (ps_set (i := 1) sc_l_text.nd rfl (Or.inl rfl) (pe_op op_cat (pv 1) (pe_lst (pa_cons (pe_callTy call_str_int (by rfl) T.b_str (by decide +kernel) (pa_cons (pe_ix ix_tup (pv 0) pe_int (fun _ _ => rfl)) pa_nil)) (pa_cons (pe_ix ix_list (pe_lst (pa_cons pe_str (pa_cons pe_str pa_nil))) (pe_callTy call_int1 (by rfl) T.b_int (by decide +kernel) (pa_cons (pe_ix ix_tup (pv 0) pe_int (fun _ _ => rfl)) pa_nil)) (fun _ _ => rfl)) pa_nil)))))) (pss_one (ps_if (pt_cmpR op_eq (pe_ix ix_tup (pv 0) pe_int (fun _ _ => rfl)) pe_str (nomark _)) (pss_one (ps_set (i := 1) sc_l_text.nd rfl (Or.inl rfl) (pe_op op_cat (pv 1) (pe_lst (pa_cons (pe_join pe_str (pe_lc (own := [("_law_lot", 2)]) rfl sc_l_text.nd (pi_tup (pe_ix ix_tup (pv 0) pe_int (fun _ _ => rfl))) (blkOk_by (own := [("_law_lot", 2)]) (N := ["_law_entry_here", "_law_words", "_law_lot", "_law_first", "_law_last", "_law_zero", "_law_share", "_law_drift", "_law_checked", "_law_part"]) (sc := defScope s_l_text) (by decide +kernel)) (fun _ _ _ _ _ => (pg_name (i := 2) sc_l_text.nd rfl (Or.inl rfl))) (fun _ _ _ _ _ => pts_nil) (fun _ _ _ _ _ => (pe_callTy call_str_int (by rfl) T.b_str (by decide +kernel) (pa_cons (pv 2) pa_nil))))) (pa_cons (pe_fd g_l_ratio_text (rm hr) rfl (pa_cons (pe_ix ix_tup (pv 0) pe_int (fun _ _ => rfl)) pa_nil)) pa_nil)))))) (pss_one (ps_if (pt_cmpR op_eq (pe_ix ix_tup (pv 0) pe_int (fun _ _ => rfl)) pe_str (nomark _)) (pss_one (ps_set (i := 1) sc_l_text.nd rfl (Or.inl rfl) (pe_op op_cat (pv 1) (pe_lst (pa_cons (pe_ix ix_tup (pv 0) pe_int (fun _ _ => rfl)) (pa_cons (pe_callTy call_str_int (by rfl) T.b_str (by decide +kernel) (pa_cons (pe_ix ix_tup (pv 0) pe_int (fun _ _ => rfl)) pa_nil)) (pa_cons (pe_join pe_str (pe_lc (own := [("_law_lot", 2)]) rfl sc_l_text.nd (pi_tup (pe_ix ix_tup (pv 0) pe_int (fun _ _ => rfl))) (blkOk_by (own := [("_law_lot", 2)]) (N := ["_law_entry_here", "_law_words", "_law_lot", "_law_first", "_law_last", "_law_zero", "_law_share", "_law_drift", "_law_checked", "_law_part"]) (sc := defScope s_l_text) (by decide +kernel)) (fun _ _ _ _ _ => (pg_name (i := 2) sc_l_text.nd rfl (Or.inl rfl))) (fun _ _ _ _ _ => pts_nil) (fun _ _ _ _ _ => (pe_callTy call_str_int (by rfl) T.b_str (by decide +kernel) (pa_cons (pv 2) pa_nil))))) (pa_cons (pe_fd g_l_ratio_text (rm hr) rfl (pa_cons (pe_ix ix_tup (pv 0) pe_int (fun _ _ => rfl)) pa_nil)) pa_nil)))))))) (pss_cons (ps_asg (pe_ix ix_tup (pv 0) pe_int (fun _ _ => rfl)) (pg_tup rfl (pgs_cons (pg_name (i := 3) sc_l_text.nd rfl (Or.inl rfl)) (pgs_cons (pg_name (i := 4) sc_l_text.nd rfl (Or.inl rfl)) (pgs_cons (pg_name (i := 5) sc_l_text.nd rfl (Or.inl rfl)) (pgs_cons (pg_name (i := 6) sc_l_text.nd rfl (Or.inl rfl)) (pgs_cons (pg_name (i := 7) sc_l_text.nd rfl (Or.inl rfl)) (pgs_cons (pg_name (i := 8) sc_l_text.nd rfl (Or.inl rfl)) pgs_nil))))))))
      (pss_cons (ps_set (i := 1) sc_l_text.nd rfl (Or.inl rfl) (pe_op op_cat (pe_op op_cat (pv 1) (pe_lst (pa_cons (pe_ix ix_tup (pv 0) pe_int (fun _ _ => rfl)) (pa_cons (pe_callTy call_str_int (by rfl) T.b_str (by decide +kernel) (pa_cons (pv 3) pa_nil)) (pa_cons (pe_callTy call_str_int (by rfl) T.b_str (by decide +kernel) (pa_cons (pv 4) pa_nil)) pa_nil))))) (pe_lc (own := [("_law_part", 9)]) rfl sc_l_text.nd (pi_list (pe_lst (pa_cons (pv 5) (pa_cons (pv 6) (pa_cons (pv 7) pa_nil))))) (blkOk_by (own := [("_law_part", 9)]) (N := ["_law_entry_here", "_law_words", "_law_lot", "_law_first", "_law_last", "_law_zero", "_law_share", "_law_drift", "_law_checked", "_law_part"]) (sc := defScope s_l_text) (by decide +kernel)) (fun _ _ _ _ _ => (pg_name (i := 9) sc_l_text.nd rfl (Or.inl rfl))) (fun _ _ _ _ _ => pts_nil) (fun _ _ _ _ _ => (pe_fd g_l_ratio_text (rm hr) rfl (pa_cons (pv 9) pa_nil))))))
      (pss_cons (ps_expr (pe_bm PySem.F.plainAttrs_list PySem.F.slot_list_append PySem.F.type_list_append mt_append (pv 1) (pa_cons (pe_callTy call_str_int (by rfl) T.b_str (by decide +kernel) (pa_cons (pv 8) pa_nil)) pa_nil)))
      (pss_one (ps_if (pt_cmpR op_eq (pe_ix ix_tup (pv 0) pe_int (fun _ _ => rfl)) pe_str (nomark _)) (pss_one (ps_expr (pe_bm PySem.F.plainAttrs_list PySem.F.slot_list_append PySem.F.type_list_append mt_append (pv 1) (pa_cons (pe_callTy call_str_int (by rfl) T.b_str (by decide +kernel) (pa_cons (pe_ix ix_tup (pv 0) pe_int (fun _ _ => rfl)) pa_nil)) pa_nil)))) pss_nil))))))))))
      (pss_one (ps_ret (pe_join pe_str (pv 1))))))), ?_⟩)
  · obtain ⟨v, e, rfl, _⟩ := h
    rfl
  · obtain ⟨v, e, rfl, ⟨a, xs, rfl, ha, hx⟩, ok, h⟩ := h
    refine ⟨_, rfl, a, _, 0, .str e.kind, rfl, rfl, SqT.of ha, at_of (j := 0) rfl rfl, by show 1 ≤ sizeLine; decide, fun q0 hq0 => ?_⟩
    have e0 := Ex.new (o := .lst [.str e.kind]) hq0
    have a0 := e0 a _ ha
    refine ⟨fun σ' H' => ∃ q s2 s3 s4 s5 s6 s7 s8 s9, σ' = [some (.ref a), some (.ref q), s2, s3, s4, s5, s6, s7, s8, s9] ∧ Ex H H' ∧ H' q = some (.lst (([e.kind] ++ entWords e).map V.str)), ?_, ?_⟩
    · cases e with
      | find l b =>
        obtain rfl := hx
        refine ⟨_, rfl, a, _, 0, _, rfl, rfl, SqT.of a0, rfl, rfl, _, rfl, dT rfl ?_⟩
        refine ⟨_, rfl, _, rfl, a, _, 1, _, rfl, rfl, SqT.of a0, rfl, l, rfl, log_small ok.1 (by have := ok.2; omega), by show 2 ≤ sizeLine; decide, fun m hm => ?_⟩
        have em := Ex.new (o := .lst [.str "no", .str "yes"]) hm
        refine ⟨_, rfl, a, _, 2, _, rfl, rfl, SqT.of (em a _ a0), rfl, .inr ⟨b, rfl, m, _, _, _, rfl, rfl, SqL.of upd_same, at_yes b, by show 2 ≤ sizeLine; decide, fun m2 hm2 => ?_⟩⟩
        have em2 := Ex.new (o := .lst [.str (nt l), .str (if b = true then "yes" else "no")]) hm2
        refine ⟨q0, m2, _, _, rfl, rfl, em2 q0 _ (em q0 _ upd_same), upd_same, by show 3 ≤ sizeLine; decide, fun p hp => ?_⟩
        exact ⟨p, _, _, _, _, _, _, _, _, rfl, ((e0.trans em).trans em2).trans (Ex.new hp), by rw [upd_same]; rfl⟩
      | known ls r =>
        obtain ⟨u, v, rfl, ⟨b, rfl, hb⟩, hv⟩ := hx
        have hb0 := e0 b _ hb
        refine ⟨_, rfl, a, _, 0, _, rfl, rfl, SqT.of a0, rfl, rfl, _, rfl, dF kn_k_f ?_⟩
        refine ⟨_, rfl, a, _, 0, _, rfl, rfl, SqT.of a0, rfl, rfl, _, rfl, dT rfl ?_⟩
        refine ⟨_, rfl, ⟨_, rfl⟩, _, rfl, a, _, 1, _, rfl, rfl, SqT.of a0, rfl, b, rfl, ⟨_, SqT.of hb0⟩, fun D hD => lots_nt hb0 ok.1 hD (fun _ => rfl) (fun _ => rfl) fun H2 e2 hD2 => ⟨_, D, ls.map nt, rfl, rfl, .inl (SqL.of hD2), lots_sz ok.1, ?_⟩⟩
        refine ⟨_, rfl, a, _, 2, _, rfl, rfl, SqT.of (e2 a _ a0), rfl, v, r, rfl, hv.mono (TT0.of (e0.trans e2)), ok.2, by show 2 ≤ sizeLine; decide, fun m hm => ?_⟩
        have em := Ex.new (o := .lst [.str (lotsText ls), .str (rtText r)]) hm
        refine ⟨q0, m, _, _, rfl, rfl, em q0 _ (e2 q0 _ upd_same), upd_same, by show 3 ≤ sizeLine; decide, fun p hp => ?_⟩
        exact ⟨p, _, _, _, _, _, _, _, _, rfl, ((e0.trans e2).trans em).trans (Ex.new hp), by rw [upd_same]; rfl⟩
      | weighing sc d ls r =>
        obtain ⟨u, v, rfl, ⟨b, rfl, hb⟩, hv⟩ := hx
        have hb0 := e0 b _ hb
        refine ⟨_, rfl, a, _, 0, _, rfl, rfl, SqT.of a0, rfl, rfl, _, rfl, dF kn_w_f ?_⟩
        refine ⟨_, rfl, a, _, 0, _, rfl, rfl, SqT.of a0, rfl, rfl, _, rfl, dF kn_w_k ?_⟩
        refine ⟨_, rfl, a, _, 0, _, rfl, rfl, SqT.of a0, rfl, rfl, _, rfl, dT rfl ?_⟩
        refine ⟨_, rfl, _, rfl, a, _, 1, _, rfl, rfl, SqT.of a0, rfl, _, rfl, a, _, 2, _, rfl, rfl, SqT.of a0, rfl, d, rfl, log_small ok.2.1.1 (by have := ok.2.1.2; omega), ⟨_, rfl⟩, _, rfl, a, _, 3, _, rfl, rfl, SqT.of a0, rfl, b, rfl, ⟨_, SqT.of hb0⟩, fun D hD => lots_nt hb0 ok.2.2.1 hD (fun _ => rfl) (fun _ => rfl) fun H2 e2 hD2 => ⟨_, D, ls.map nt, rfl, rfl, .inl (SqL.of hD2), lots_sz ok.2.2.1, ?_⟩⟩
        refine ⟨_, rfl, a, _, 4, _, rfl, rfl, SqT.of (e2 a _ a0), rfl, v, r, rfl, hv.mono (TT0.of (e0.trans e2)), ok.2.2.2, by show 4 ≤ sizeLine; decide, fun m hm => ?_⟩
        have em := Ex.new (o := .lst [.str sc, .str (nt d), .str (lotsText ls), .str (rtText r)]) hm
        refine ⟨q0, m, _, _, rfl, rfl, em q0 _ (e2 q0 _ upd_same), upd_same, by show 5 ≤ sizeLine; decide, fun p hp => ?_⟩
        exact ⟨p, _, _, _, _, _, _, _, _, rfl, ((e0.trans e2).trans em).trans (Ex.new hp), by rw [upd_same]; rfl⟩
      | paper sc p =>
        obtain ⟨v, rfl, b, z, sh, d, rfl, hb, hz, hs, hd⟩ := hx
        have op : PapOk p := ok.2
        have o1 := op.c0
        have o2 := op.c1
        have o3 := op.f1
        have o4 := op.l1
        have hb0 := e0 b _ hb
        refine ⟨_, rfl, a, _, 0, _, rfl, rfl, SqT.of a0, rfl, rfl, _, rfl, dF kn_p_f ?_⟩
        refine ⟨_, rfl, a, _, 0, _, rfl, rfl, SqT.of a0, rfl, rfl, _, rfl, dF kn_p_k ?_⟩
        refine ⟨_, rfl, a, _, 0, _, rfl, rfl, SqT.of a0, rfl, rfl, _, rfl, dF kn_p_w ?_⟩
        refine ⟨_, rfl, a, _, 2, _, rfl, rfl, SqT.of a0, rfl, b, _, rfl, SqT.of hb0, rfl, _, _, rfl, _, _, rfl, _, _, rfl, _, _, rfl, _, _, rfl, _, _, rfl, rfl, ?_⟩
        refine ⟨_, rfl, _, rfl, a, _, 1, _, rfl, rfl, SqT.of a0, rfl, _, rfl, _, rfl, log_small (by omega) (by omega), _, rfl, _, rfl, log_small (by omega) (by omega), by show 3 ≤ sizeLine; decide, fun m hm => ?_⟩
        have em := Ex.new (o := .lst [.str sc, .str (nt p.first), .str (nt p.last)]) hm
        refine ⟨q0, m, _, _, rfl, rfl, em q0 _ upd_same, upd_same, by show 4 ≤ sizeLine; decide, fun m2 hm2 => ?_⟩
        have em2 := Ex.new (o := .lst ([V.str (Ent.paper sc p).kind] ++ [.str sc, .str (nt p.first), .str (nt p.last)])) hm2
        refine ⟨_, rfl, _, rfl, _, rfl, by show 3 ≤ sizeLine; decide, fun l hl => ⟨l, rfl, ⟨_, SqL.of upd_same⟩, fun D hD => ?_⟩⟩
        have el := Ex.new (o := .lst [z, sh, d]) hl
        have e3 := ((e0.trans em).trans em2).trans el
        refine lc_walk (wk_list (K := K) (SqL.of upd_same)) (by show 3 ≤ 1000; decide) (fun _ => true) (fun i y _ => ∃ r, [p.zero, p.share, p.drift][i]? = some r ∧ y = .str (rtText r)) (fun _ _ _ _ r _ => r) hD (fun i x H2 Q1 Q2 hi it e' q1 q2 => ?_) (fun ys H' e' hy hp => ?_)
        · have hxr : ∃ r, [p.zero, p.share, p.drift][i]? = some r ∧ IsRt H x r ∧ RtOk r := by
            match i, hi, it with
            | 0, _, it => cases it; exact ⟨_, rfl, hz, op.z⟩
            | 1, _, it => cases it; exact ⟨_, rfl, hs, op.s⟩
            | 2, _, it => cases it; exact ⟨_, rfl, hd, op.d⟩
          obtain ⟨r, hr0, hr1, hr2⟩ := hxr
          exact ⟨rfl, _, rfl, x, r, rfl, hr1.mono (TT0.of (e3.trans e')), hr2, q1 rfl _ _ (Ex.refl _) ⟨r, hr0, rfl⟩⟩
        · have k2 := (hp.all (S := fun v r => v = V.str (rtText r)) (xs := [p.zero, p.share, p.drift]) (by show 3 ≤ 3; decide) fun i y x hx ⟨r, h1, h2⟩ => by
            rw [hx] at h1
            cases h1
            exact h2).map_eq
          have k3 : ys = [.str (rtText p.zero), .str (rtText p.share), .str (rtText p.drift)] := k2
          subst k3
          have ee := el.trans e'
          refine ⟨m2, D, _, _, rfl, rfl, ee m2 _ upd_same, hy, by show 7 ≤ sizeLine; decide, fun w hw => ?_⟩
          have ew := Ex.new (o := .lst ([V.str (Ent.paper sc p).kind] ++ [.str sc, .str (nt p.first), .str (nt p.last)] ++ [.str (rtText p.zero), .str (rtText p.share), .str (rtText p.drift)])) hw
          have hw0 : H w = none := fresh_back (e3.trans e') hw
          refine ⟨_, rfl, .inl ⟨rfl, _, SqL.of upd_same⟩, _, rfl, _, rfl, log_small (by omega) (by omega), w, _, _, rfl, rfl, upd_same, by show 7 < sizeLine; decide, ?_⟩
          have eU := ((e3.trans e').trans ew)
          have a4 := (eU.mut (o := .lst ([V.str (Ent.paper sc p).kind] ++ [.str sc, .str (nt p.first), .str (nt p.last)] ++ [.str (rtText p.zero), .str (rtText p.share), .str (rtText p.drift)] ++ [.str (nt p.checked)])) hw0) a _ ha
          refine ⟨_, rfl, a, _, 0, _, rfl, rfl, SqT.of a4, rfl, rfl, _, rfl, dF kn_p_r ?_⟩
          exact ⟨w, _, _, _, _, _, _, _, _, rfl, eU.mut hw0, by rw [upd_same]; rfl⟩
      | recall sc p dd =>
        obtain ⟨v, rfl, b, z, sh, d, rfl, hb, hz, hs, hd⟩ := hx
        have op : PapOk p := ok.2.1
        have o1 := op.c0
        have o2 := op.c1
        have o3 := op.f1
        have o4 := op.l1
        have hb0 := e0 b _ hb
        refine ⟨_, rfl, a, _, 0, _, rfl, rfl, SqT.of a0, rfl, rfl, _, rfl, dF kn_r_f ?_⟩
        refine ⟨_, rfl, a, _, 0, _, rfl, rfl, SqT.of a0, rfl, rfl, _, rfl, dF kn_r_k ?_⟩
        refine ⟨_, rfl, a, _, 0, _, rfl, rfl, SqT.of a0, rfl, rfl, _, rfl, dF kn_r_w ?_⟩
        refine ⟨_, rfl, a, _, 2, _, rfl, rfl, SqT.of a0, rfl, b, _, rfl, SqT.of hb0, rfl, _, _, rfl, _, _, rfl, _, _, rfl, _, _, rfl, _, _, rfl, _, _, rfl, rfl, ?_⟩
        refine ⟨_, rfl, _, rfl, a, _, 1, _, rfl, rfl, SqT.of a0, rfl, _, rfl, _, rfl, log_small (by omega) (by omega), _, rfl, _, rfl, log_small (by omega) (by omega), by show 3 ≤ sizeLine; decide, fun m hm => ?_⟩
        have em := Ex.new (o := .lst [.str sc, .str (nt p.first), .str (nt p.last)]) hm
        refine ⟨q0, m, _, _, rfl, rfl, em q0 _ upd_same, upd_same, by show 4 ≤ sizeLine; decide, fun m2 hm2 => ?_⟩
        have em2 := Ex.new (o := .lst ([V.str (Ent.recall sc p dd).kind] ++ [.str sc, .str (nt p.first), .str (nt p.last)])) hm2
        refine ⟨_, rfl, _, rfl, _, rfl, by show 3 ≤ sizeLine; decide, fun l hl => ⟨l, rfl, ⟨_, SqL.of upd_same⟩, fun D hD => ?_⟩⟩
        have el := Ex.new (o := .lst [z, sh, d]) hl
        have e3 := ((e0.trans em).trans em2).trans el
        refine lc_walk (wk_list (K := K) (SqL.of upd_same)) (by show 3 ≤ 1000; decide) (fun _ => true) (fun i y _ => ∃ r, [p.zero, p.share, p.drift][i]? = some r ∧ y = .str (rtText r)) (fun _ _ _ _ r _ => r) hD (fun i x H2 Q1 Q2 hi it e' q1 q2 => ?_) (fun ys H' e' hy hp => ?_)
        · have hxr : ∃ r, [p.zero, p.share, p.drift][i]? = some r ∧ IsRt H x r ∧ RtOk r := by
            match i, hi, it with
            | 0, _, it => cases it; exact ⟨_, rfl, hz, op.z⟩
            | 1, _, it => cases it; exact ⟨_, rfl, hs, op.s⟩
            | 2, _, it => cases it; exact ⟨_, rfl, hd, op.d⟩
          obtain ⟨r, hr0, hr1, hr2⟩ := hxr
          exact ⟨rfl, _, rfl, x, r, rfl, hr1.mono (TT0.of (e3.trans e')), hr2, q1 rfl _ _ (Ex.refl _) ⟨r, hr0, rfl⟩⟩
        · have k2 := (hp.all (S := fun v r => v = V.str (rtText r)) (xs := [p.zero, p.share, p.drift]) (by show 3 ≤ 3; decide) fun i y x hx ⟨r, h1, h2⟩ => by
            rw [hx] at h1
            cases h1
            exact h2).map_eq
          have k3 : ys = [.str (rtText p.zero), .str (rtText p.share), .str (rtText p.drift)] := k2
          subst k3
          have ee := el.trans e'
          refine ⟨m2, D, _, _, rfl, rfl, ee m2 _ upd_same, hy, by show 7 ≤ sizeLine; decide, fun w hw => ?_⟩
          have ew := Ex.new (o := .lst ([V.str (Ent.recall sc p dd).kind] ++ [.str sc, .str (nt p.first), .str (nt p.last)] ++ [.str (rtText p.zero), .str (rtText p.share), .str (rtText p.drift)])) hw
          have hw0 : H w = none := fresh_back (e3.trans e') hw
          refine ⟨_, rfl, .inl ⟨rfl, _, SqL.of upd_same⟩, _, rfl, _, rfl, log_small (by omega) (by omega), w, _, _, rfl, rfl, upd_same, by show 7 < sizeLine; decide, ?_⟩
          have eU := ((e3.trans e').trans ew)
          have a4 := (eU.mut (o := .lst ([V.str (Ent.recall sc p dd).kind] ++ [.str sc, .str (nt p.first), .str (nt p.last)] ++ [.str (rtText p.zero), .str (rtText p.share), .str (rtText p.drift)] ++ [.str (nt p.checked)])) hw0) a _ ha
          refine ⟨_, rfl, a, _, 0, _, rfl, rfl, SqT.of a4, rfl, rfl, _, rfl, dT rfl ?_⟩
          refine ⟨_, rfl, .inl ⟨rfl, _, SqL.of upd_same⟩, _, rfl, a, _, 3, _, rfl, rfl, SqT.of a4, rfl, dd, rfl, log_small ok.2.2.1 (by have := ok.2.2.2; omega), w, _, _, rfl, rfl, upd_same, by show 8 < sizeLine; decide, ?_⟩
          exact ⟨w, _, _, _, _, _, _, _, _, rfl, (eU.mut hw0).mut hw0, by rw [upd_same]; rfl⟩
    · rintro σ' H1 ⟨q, s2, s3, s4, s5, s6, s7, s8, s9, rfl, e1, hq⟩
      obtain ⟨w1, w2⟩ := entWords_len ok
      refine ⟨⟨_, rfl⟩, _, rfl, _, q, [e.kind] ++ entWords e, rfl, rfl, .inl (SqL.of hq), ?_, h _ e1⟩
      have hs := sum_le (g := fun s : Str => s.length) (k := 40) (l := [e.kind] ++ entWords e) fun x hx => by
        rcases List.mem_append.mp hx with hx | hx
        · rw [List.mem_singleton.mp hx]
          exact kind_len e
        · exact w1 x hx
      have hl : ([e.kind] ++ entWords e).length ≤ 9 := by
        rw [List.length_append]
        show 1 + (entWords e).length ≤ 9
        omega
      rw [blank_len]
      omega
end
end Kb

set_option Elab.async false
set_option linter.all false
set_option maxRecDepth 100000
set_option maxHeartbeats 4000000
/-! K64, 15: a book made of entries. -/
namespace Kb
open PySem PySem.Spec PyProof.Rows L2 Evl TL
/-! ### plain: what stands behind each deed -/
theorem pres_snoc {rs : List Rec} {r : Rec} {e : Ent} : Pres (rs ++ [r]) e ↔ Pres rs e ∨ (r.2 = true ∧ r.1.getLast? = some e) := by
  constructor
  · rintro ⟨i, s, h1, h2, h3⟩
    by_cases hi : i < rs.length
    · rw [List.getElem?_append_left hi] at h1
      exact .inl ⟨i, s, h1, h2, h3⟩
    · rw [List.getElem?_append_right (by omega)] at h1
      have i0 : i - rs.length = 0 := by
        have := (List.getElem?_eq_some_iff.mp h1).1
        simp at this
        omega
      rw [i0] at h1
      cases h1
      exact .inr ⟨h2, h3⟩
  · rintro (⟨i, s, h1, h2, h3⟩ | ⟨h2, h3⟩)
    · exact ⟨i, s, by rw [List.getElem?_append_left (List.getElem?_eq_some_iff.mp h1).1]; exact h1, h2, h3⟩
    · exact ⟨rs.length, r, by rw [List.getElem?_append_right (Nat.le_refl _), Nat.sub_self]; rfl, h2, h3⟩
theorem set_snoc (rs : List Rec) (r r' : Rec) : (rs ++ [r]).set rs.length r' = rs ++ [r'] := by
  rw [List.set_append_right _ _ (Nat.le_refl _), Nat.sub_self]
  rfl
theorem get_snoc (rs : List Rec) (r : Rec) : (rs ++ [r])[rs.length]? = some r := by
  rw [List.getElem?_append_right (Nat.le_refl _), Nat.sub_self]
  rfl
theorem len_snoc (rs : List Rec) (r : Rec) : (rs ++ [r]).length = rs.length + 1 := by
  rw [List.length_append]
  rfl
theorem ex_off {H H1 H2 : Hp} {F : Addr → Prop} (e : Ex H H1) (f : Off F H1 H2) (h : ∀ b, F b → H b = none) : Ex H H2 := fun b o hb => f b o (e b o hb) fun z => by
  rw [h b z] at hb
  cases hb
/-- a book and what is left, over the heap H ahead of both -/
structure BS (C : Addr) (H : Hp) (x l lv ls : Addr) (us : List V) (lft : List Ent) (ps : List Addr) (rs : List Rec) (H' : Hp) : Prop where
  ex : Ex H H'
  hl : H' l = some (.lst us)
  left : All2 (IsEnt H') us lft
  bk : BookAt C H' x lv ls ps rs
  fr : ∀ b, Foot lv ls ps b → H b = none
  nl : ¬ Foot lv ls ps l
  v2 : ∀ r ∈ rs, r.1.length ≤ 2
section
variable {C : Addr} {H H' H2 : Hp} {x l lv ls : Addr} {us : List V} {lft : List Ent} {ps ps' : List Addr} {rs rs' : List Rec}
theorem BS.mono (S : BS C H x l lv ls us lft ps rs H') (e : Ex H' H2) : BS C H x l lv ls us lft ps rs H2 :=
  ⟨S.ex.trans e, e l _ S.hl, S.left.imp fun _ _ q => q.mono (TT0.of e), S.bk.ex e, S.fr, S.nl, S.v2⟩
theorem BS.step (S : BS C H x l lv ls us lft ps rs H') (f : Off (Foot lv ls ps) H' H2) (B : BookAt C H2 x lv ls ps' rs') (hp : ∀ p ∈ ps', p ∈ ps ∨ H' p = none) (hv : ∀ r ∈ rs', r.1.length ≤ 2) : BS C H x l lv ls us lft ps' rs' H2 := by
  refine ⟨ex_off S.ex f S.fr, f l _ S.hl S.nl, S.left.imp fun _ _ q => q.mono (S.bk.tt f), B, fun b hb => ?_, fun hb => ?_, hv⟩
  · rcases hb with z | z | z
    · exact S.fr b (.inl z)
    · exact S.fr b (.inr (.inl z))
    · rcases hp b z with y | y
      · exact S.fr b (.inr (.inr y))
      · exact fresh_back S.ex y
  · rcases hb with z | z | z
    · exact S.nl (.inl z)
    · exact S.nl (.inr (.inl z))
    · rcases hp l z with y | y
      · exact S.nl (.inr (.inr y))
      · rw [S.hl] at y
        cases y
/-- the list of what is left changes -/
theorem BS.pop (S : BS C H x l lv ls us lft ps rs H') (h0 : H l = none) (k : Nat) : BS C H x l lv ls (us.eraseIdx k) (lft.eraseIdx k) ps rs (upd H' l (.lst (us.eraseIdx k))) := by
  have off : Off (fun b => b = l) H' (upd H' l (.lst (us.eraseIdx k))) := fun b o hb n => by
    rw [upd_ne n]
    exact hb
  have tt : TT0 H' (upd H' l (.lst (us.eraseIdx k))) := TT0.upd fun zs z => by rw [S.hl] at z; cases z
  have hx : x ≠ l := fun z => by
    obtain ⟨dx, e⟩ := S.bk.ins
    rw [z, S.hl] at e
    cases e
  exact ⟨S.ex.mut h0, upd_same, (S.left.erase k).imp fun _ _ q => q.mono tt, S.bk.other off tt hx (fun b hb z => S.nl (z ▸ hb)), S.fr, S.nl, S.v2⟩
end
theorem mem_erase {α : Type} {l : List α} {k : Nat} {a : α} (h : l[k]? = some a) (x : α) : x ∈ l ↔ x ∈ l.eraseIdx k ∨ x = a := by
  obtain ⟨hk, e⟩ := List.getElem?_eq_some_iff.mp h
  rw [List.mem_eraseIdx_iff_getElem?]
  constructor
  · intro hx
    obtain ⟨i, hi, ei⟩ := List.getElem_of_mem hx
    by_cases hik : i = k
    · subst hik
      exact .inr (ei.symm.trans e)
    · exact .inl ⟨i, hik, by rw [List.getElem?_eq_getElem hi, ei]⟩
  · rintro (⟨i, _, hi⟩ | rfl)
    · exact List.mem_of_getElem? hi
    · exact List.mem_of_getElem? h
section
variable {P : Program} {w : World} {K : PySem.W.Frag} {mg : Str → Option Value} {base : Heap} {aK a1 aL C f : Addr} {fd : FuncData}
abbrev s_l_made : Stmt := topS 55
theorem sc_l_made : FnScope ["_law_entries", "_law_numbers_here", "_law_book", "_law_left", "_law_k", "_law_entry_here", "_law_way", "_law_other", "_law_number"] ["_law_entries", "_law_numbers_here"] (defScope s_l_made) := ⟨rfl, rfl, rfl, by decide +kernel, rfl, by decide +kernel, by decide +kernel⟩
def spMade (K : PySem.W.Frag) (C : Addr) : Sp := fun vs H Q _ => ∃ (ae an : Addr) (xs : List V) (es : List Ent) (ms : List Int), vs = [.ref ae, .ref an] ∧ SqL K H ae xs ∧ All2 (IsEnt H) xs es ∧ (∀ e ∈ es, e.Ok) ∧ es.length ≤ 6 ∧ SqL K H an (ms.map V.int) ∧ 92 ≤ ms.length ∧
  ∀ (x lv ls : Addr) (ps : List Addr) (rs : List Rec) (H' : Hp), H x = none → (∀ b, Foot lv ls ps b → H b = none) → Ex H H' → BookAt C H' x lv ls ps rs → rs.length ≤ 18 → (∀ r ∈ rs, r.1.length ≤ 2) → (∀ e, Pres rs e ↔ e ∈ es) → Q (.ref x) H'
theorem ok_l_made (F : FnP K "_law_made" "_law_made" s_l_made f fd) (T : Tx K w mg aK a1 aL) (B : TB K mg C) (g_Book_init : Cd P w K mg base C 1 ["self"] (spInit C)) (g_l_entry : Fd P w K mg base "_law_entry" 3 ["_law_numbers_here"] (spEntry K)) (g_Book_add : Md P w K mg base C "add" 6 ["self", "entry"] (spAdd C))
    (g_Book_correct : Md P w K mg base C "correct" 6 ["self", "number", "entry"] (spCorrect C)) (g_Book_withdraw : Md P w K mg base C "withdraw" 3 ["self", "number"] (spWithdraw C false)) (g_Book_restore : Md P w K mg base C "restore" 3 ["self", "number"] (spWithdraw C true)) :
    FnOk P w K mg base CX0 7 f fd ["_law_entries", "_law_numbers_here"] (spMade K C) := by
  refine F.ok sc_l_made (fun vs H Q E h => ?_) (fun cdv A outer s H vs Q E hr h => ⟨_, PSs.nox ((pss_cons (ps_set (i := 2) sc_l_made.nd rfl (Or.inl rfl) (pe_mk0 B.m_Book g_Book_init (rm hr) rfl))
      (pss_cons (ps_set (i := 3) sc_l_made.nd rfl (Or.inl rfl) (pe_callTy call_list_of (by rfl) T.b_list (by decide +kernel) (pa_cons (pv 0) pa_nil)))
      (pss_cons (ps_for PassesOwn.never rfl (pi_range1 rfl T.b_range (pa_cons (pe_callB call_len_seq (by rfl) T.b_len PySem.boot_len (pa_cons (pv 0) pa_nil)) pa_nil)) (pg_name (i := 4) sc_l_made.nd rfl (Or.inl rfl)) (pss_cons (ps_set (i := 5) sc_l_made.nd rfl (Or.inl rfl) (pe_bm PySem.F.plainAttrs_list PySem.F.slot_list_pop PySem.F.type_list_pop mt_popAt (pv 3) (pa_cons (pe_op op_mod (pe_ix ix_list (pv 1) (pv 4) (fun _ _ => rfl)) (pe_callB call_len_seq (by rfl) T.b_len PySem.boot_len (pa_cons (pv 3) pa_nil))) pa_nil)))
      (pss_cons (ps_set (i := 6) sc_l_made.nd rfl (Or.inl rfl) (pe_op op_mod (pe_ix ix_list (pv 1) (pe_op op_add pe_int (pv 4)) (fun _ _ => rfl)) pe_int))
      (pss_cons (ps_set (i := 7) sc_l_made.nd rfl (Or.inl rfl) (pe_fd g_l_entry (rm hr) rfl (pa_cons (pe_slice sl_list (pv 1) (po_some (pe_op op_add pe_int (pe_op op_mul pe_int (pv 4)))) (po_some (pe_op op_add pe_int (pe_op op_mul pe_int (pv 4))))) pa_nil)))
      (pss_one (ps_if (PW.pt (pw_and (pt_cmpR op_eq (pv 6) pe_int (nomark _)) (pw_and1 (pt_cmpR op_eq (pe_ix ix_tup (pv 7) pe_int (fun _ _ => rfl)) (pe_ix ix_tup (pv 5) pe_int (fun _ _ => rfl)) (nomark _))))) (pss_cons (ps_set (i := 8) sc_l_made.nd rfl (Or.inl rfl) (pe_md B.cl (pv 2) g_Book_add (rm hr) (pa_cons (pv 7) pa_nil)))
      (pss_one (ps_expr (pe_md B.cl (pv 2) g_Book_correct (rm hr) (pa_cons (pv 8) (pa_cons (pv 5) pa_nil)))))) (pss_one (ps_if (pt_cmpR op_eq (pv 6) pe_int (nomark _)) (pss_cons (ps_set (i := 8) sc_l_made.nd rfl (Or.inl rfl) (pe_md B.cl (pv 2) g_Book_add (rm hr) (pa_cons (pv 5) pa_nil)))
      (pss_cons (ps_expr (pe_md B.cl (pv 2) g_Book_withdraw (rm hr) (pa_cons (pv 8) pa_nil)))
      (pss_one (ps_expr (pe_md B.cl (pv 2) g_Book_restore (rm hr) (pa_cons (pv 8) pa_nil)))))) (pss_one (ps_if (pt_cmpR op_eq (pv 6) pe_int (nomark _)) (pss_cons (ps_expr (pe_md B.cl (pv 2) g_Book_withdraw (rm hr) (pa_cons (pe_md B.cl (pv 2) g_Book_add (rm hr) (pa_cons (pv 7) pa_nil)) pa_nil)))
      (pss_cons (ps_expr (pe_md B.cl (pv 2) g_Book_add (rm hr) (pa_cons (pv 5) pa_nil)))
      (pss_one (ps_expr (pe_md B.cl (pv 2) g_Book_add (rm hr) (pa_cons (pv 5) pa_nil)))))) (pss_one (ps_expr (pe_md B.cl (pv 2) g_Book_add (rm hr) (pa_cons (pv 5) pa_nil))))))))))))))
      (pss_one (ps_ret (pv 2))))))), ?_⟩)
  · obtain ⟨ae, an, xs, es, ms, rfl, _⟩ := h
    rfl
  · obtain ⟨ae, an, xs, es, ms, rfl, hE, hA, okE, h6, hN, h92, h⟩ := h
    intro x dx nx ndx nex
    have e0 : Ex H (upd (upd H dx (.own x)) x (.ins C dx [])) := fun b o e => by
      rw [upd_ne (ne_of_none e nx), upd_ne (ne_of_none e ndx)]
      exact e
    have lx := hA.len
    refine ⟨x, dx, rfl, upd_same, fun H1 lv ls hlv hls B1 k1 => ⟨rfl, ?_⟩⟩
    have eH1 : Ex H H1 := fun b o e => k1 b o (e0 b o e) (ne_of_none e nx)
    have fl : ∀ b, Foot lv ls [] b → H b = none := fun b hb => by
      rcases hb with z | z | z
      · rw [z]; exact fresh_back e0 hlv
      · rw [z]; exact fresh_back e0 hls
      · cases z
    refine ⟨_, rfl, ae, xs, rfl, .inl (ex_l eH1 hE), fun l hl => ?_⟩
    have hl0 : H l = none := fresh_back eH1 hl
    have el := Ex.new (o := .lst xs) hl
    have S0 : BS C H x l lv ls xs es [] [] (upd H1 l (.lst xs)) := by
      refine ⟨eH1.trans el, upd_same, hA.imp fun _ _ q => q.mono (TT0.of (eH1.trans el)), B1.ex el, fl, fun z => ?_, fun r hr => by simp at hr⟩
      rcases z with z | z | z
      · rw [z, B1.vs] at hl; cases hl
      · rw [z, B1.st] at hl; cases hl
      · cases z
    refine ⟨_, rfl, ae, xs, rfl, .inl (ex_l (eH1.trans el) hE), (xs.length : Int), rfl, by omega, by omega, ?_⟩
    rw [Int.toNat_natCast]
    refine for_range (fun i σ' H' => ∃ u1 u2 u3 u4 u5 us lft ps rs, σ' = [some (.ref ae), some (.ref an), some (.ref x), some (.ref l), u1, u2, u3, u4, u5] ∧ BS C H x l lv ls us lft ps rs H' ∧ lft.length + i = es.length ∧ rs.length ≤ 3 * i ∧ ∀ e, (Pres rs e ∨ e ∈ lft) ↔ e ∈ es)
      ⟨none, none, none, none, none, xs, es, [], [], rfl, S0, rfl, Nat.le_refl _, fun e => ⟨fun z => z.elim (fun ⟨i, r, a, _⟩ => by simp at a) id, .inr⟩⟩ ?_ ?_
    · rintro i σ' H' hi ⟨u1, u2, u3, u4, u5, us, lft, ps, rs, rfl, S, hlen, h3, hP⟩
      have n0 : 0 < lft.length := by omega
      have lu := S.left.len
      have ez : (0 : Int) + (i : Int) = (i : Int) := Int.zero_add _
      have ki : i < ms.length := by omega
      have gi := List.getElem?_eq_getElem ki
      have hN' := ex_l S.ex hN
      have up : (0 : Int) < (us.length : Int) := by omega
      have m0 := Int.emod_nonneg ms[i] (show (us.length : Int) ≠ 0 by omega)
      have m1 := Int.emod_lt_of_pos ms[i] up
      have hj : (ms[i] % (us.length : Int)).toNat < us.length := by omega
      have gj := List.getElem?_eq_getElem hj
      obtain ⟨kk, q1, q2, q3, _, _⟩ := atI_get (at_of (z := ms[i] % (us.length : Int)) (by omega) gj)
      have gk : us[kk]? = some us[(ms[i] % (us.length : Int)).toNat] := q2
      refine ⟨_, rfl, .inl ⟨rfl, _, SqL.of S.hl⟩, _, rfl, _, rfl, an, _, _, .int ms[i], rfl, rfl, hN', at_of ez (by rw [List.getElem?_map, gi]; rfl), _, rfl, l, _, rfl, .inl (SqL.of S.hl), _, _, rfl, rfl, up, l, us, _, kk, _, rfl, rfl, S.hl, by omega, by omega, q1, gk, ?_⟩
      obtain ⟨e, he, hv⟩ := S.left.get gk
      have oke : e.Ok := okE e ((hP e).mp (.inr (List.mem_of_getElem? he)))
      have S1 := S.pop hl0 kk
      have hP1 : ∀ e', (Pres rs e' ∨ e' = e ∨ e' ∈ lft.eraseIdx kk) ↔ e' ∈ es := fun e' => by
        rw [← hP e', mem_erase he e']
        constructor
        · rintro (a | a | a)
          · exact .inl a
          · exact .inr (.inr a)
          · exact .inr (.inl a)
        · rintro (a | a | a)
          · exact .inl a
          · exact .inr (.inr a)
          · exact .inr (.inl a)
      have ll1 : (lft.eraseIdx kk).length + (i + 1) = es.length := by
        rw [List.length_eraseIdx, if_pos (by omega)]
        omega
      have tp : TT0 H' (upd H' l (.lst (us.eraseIdx kk))) := TT0.upd fun zs z => by rw [S.hl] at z; cases z
      have hv1 := hv.mono tp
      generalize us[(ms[i] % (us.length : Int)).toNat] = v at hv1
      generalize upd H' l (.lst (us.eraseIdx kk)) = H1' at S1 hv1
      clear S hv tp hN' q1 q2 gk gj
      have k8 : 8 + i < ms.length := by omega
      have g8 := List.getElem?_eq_getElem k8
      refine ⟨_, rfl, _, rfl, _, _, rfl, rfl, an, _, _, .int ms[8 + i], rfl, rfl, ex_l S1.ex hN, at_of (j := 8 + i) (by omega) (by rw [List.getElem?_map, g8]; rfl), _, _, rfl, rfl, by show (0 : Int) < 5; decide, ?_⟩
      generalize ms[8 + i] % 5 = way
      refine ⟨_, rfl, _, rfl, _, _, rfl, rfl, m_smallL (by decide) _, _, _, rfl, rfl, _, rfl, _, rfl, _, _, rfl, rfl, m_smallL (by decide) _, _, _, rfl, rfl, _, rfl, an, _, rfl, ex_l S1.ex hN, fun p hp => ?_⟩
      have ec : ∃ ns : List Int, cutV (ms.map V.int) (some (20 + 12 * (0 + (i : Int)))) (some (32 + 12 * (0 + (i : Int)))) = ns.map V.int ∧ ns.length = 12 := by
        refine ⟨(ms.drop (20 + 12 * i)).take 12, ?_, ?_⟩
        · unfold cutV
          have a1 : (20 : Int) + 12 * (0 + (i : Int)) = ((20 + 12 * i : Nat) : Int) := by omega
          have a2 : (32 : Int) + 12 * (0 + (i : Int)) = ((32 + 12 * i : Nat) : Int) := by omega
          rw [a1, a2, HT.sIx_nat, HT.sIx_nat, List.length_map, Nat.min_eq_left (by omega), Nat.min_eq_left (by omega), List.map_take, List.map_drop]
          congr 1
          omega
        · rw [List.length_take, List.length_drop]
          omega
      obtain ⟨ns, en, nl⟩ := ec
      rw [en]
      refine ⟨p, ns, rfl, SqL.of upd_same, nl, fun v2 o H2 e2 hv2 oko => ?_⟩
      have S2 := S1.mono ((Ex.new hp).trans e2)
      have hv3 := hv1.mono (TT0.of ((Ex.new hp).trans e2))
      clear S1 hv1 e2 hp en nl
      have l30 : rs.length + 5 < 30 := by omega
      have fin : ∀ {rs' : List Rec}, (∀ e', Pres rs' e' ↔ Pres rs e' ∨ e' = e) → ∀ e', (Pres rs' e' ∨ e' ∈ lft.eraseIdx kk) ↔ e' ∈ es := fun hh e' => by
        rw [← hP1 e', hh e', or_assoc]
      have app2 : ∀ {r : Rec}, r.1.length ≤ 2 → ∀ {rs0 : List Rec}, (∀ r ∈ rs0, r.1.length ≤ 2) → ∀ s ∈ rs0 ++ [r], s.1.length ≤ 2 := fun hr _ h0 s hs => by
        rcases List.mem_append.mp hs with hs | hs
        · exact h0 s hs
        · rw [List.mem_singleton.mp hs]
          exact hr
      have newp : ∀ {ps0 : List Addr} {p0 : Addr} {H0 : Hp}, H0 p0 = none → ∀ p ∈ ps0 ++ [p0], p ∈ ps0 ∨ H0 p = none := fun hp p h => by
        rcases List.mem_append.mp h with h | h
        · exact .inl h
        · rw [List.mem_singleton.mp h]
          exact .inr hp
      obtain ⟨ao, xo, evo, hao, _⟩ := id hv2
      obtain ⟨a3, x3, eve, ha3, _⟩ := id hv3
      subst evo
      subst eve
      refine s_if (et_and (et_test (ev_op (ev_var rfl) ev_c (rv_eq rfl))) fun _ => et_test (ev_op (ev_op (ev_var rfl) ev_c (rv_ixT (SqT.of hao) (at_of (j := 0) rfl rfl))) (ev_op (ev_var rfl) ev_c (rv_ixT (SqT.of ha3) (at_of (j := 0) rfl rfl))) (rv_eq rfl))) (fun hb H3 e3 => ?_) (fun _ H3 e3 => ?_)
      · -- a correction
        have hk : o.kind = e.kind := V.str.inj (of_decide_eq_true (Bool.and_eq_true_iff.mp hb).2)
        have S3 := S2.mono e3
        obtain ⟨d3, hI3⟩ := S3.bk.ins
        refine ⟨_, rfl, x, d3, _, rfl, hI3, pf_no _ _ (by decide +kernel) (by decide +kernel), _, rfl, x, _, o, lv, ls, ps, rs, rfl, S3.bk, hv2.mono (TT0.of e3), oko, by omega, fun H4 p4 hp4 B4 off4 => ?_⟩
        have S4 := S3.step off4 B4 (newp hp4) (app2 (by show 1 ≤ 2; decide) S3.v2)
        obtain ⟨d4, hI4⟩ := S4.bk.ins
        refine ⟨_, rfl, x, d4, _, rfl, hI4, pf_no _ _ (by decide +kernel) (by decide +kernel), _, rfl, _, rfl, x, _, rs.length, _, e, ([o], true), lv, ls, ps ++ [p4], rs ++ [([o], true)], rfl, S4.bk, (hv3.mono (TT0.of e3)).mono (S3.bk.tt off4), oke, rfl, get_snoc rs _, fun e' he' => by rw [List.mem_singleton.mp he']; exact hk, by show 1 < 6; decide, fun H5 B5 off5 => ?_⟩
        rw [set_snoc] at B5
        have S5 := S4.step off5 B5 (fun p hp => .inl hp) (app2 (by show 2 ≤ 2; decide) S3.v2)
        exact ⟨_, _, _, _, _, _, _, _, _, rfl, S5, ll1, by rw [len_snoc]; omega, fin fun e' => by rw [pres_snoc]; simp [eq_comm]⟩
      · have S3 := S2.mono e3
        have hv4 := hv3.mono (TT0.of e3)
        have hvo := hv2.mono (TT0.of e3)
        obtain ⟨d3, hI3⟩ := S3.bk.ins
        refine ⟨_, rfl, rfl, _, rfl, ?_⟩
        refine ite2 (fun _ => ?_) (fun _ => ?_)
        · -- withdrawn and restored
          refine ⟨_, rfl, x, d3, _, rfl, hI3, pf_no _ _ (by decide +kernel) (by decide +kernel), _, rfl, x, _, e, lv, ls, ps, rs, rfl, S3.bk, hv4, oke, by omega, fun H4 p4 hp4 B4 off4 => ?_⟩
          have S4 := S3.step off4 B4 (newp hp4) (app2 (by show 1 ≤ 2; decide) S3.v2)
          obtain ⟨d4, hI4⟩ := S4.bk.ins
          refine ⟨_, rfl, x, d4, _, rfl, hI4, pf_no _ _ (by decide +kernel) (by decide +kernel), _, rfl, x, _, rs.length, ([e], true), lv, ls, ps ++ [p4], rs ++ [([e], true)], rfl, S4.bk, rfl, get_snoc rs _, (by show true ≠ false; decide), fun H5 B5 off5 => ?_⟩
          rw [set_snoc] at B5
          have S5 := S4.step off5 B5 (fun p hp => .inl hp) (app2 (by show 1 ≤ 2; decide) S3.v2)
          obtain ⟨d5, hI5⟩ := S5.bk.ins
          refine ⟨_, rfl, x, d5, _, rfl, hI5, pf_no _ _ (by decide +kernel) (by decide +kernel), _, rfl, x, _, rs.length, ([e], false), lv, ls, ps ++ [p4], rs ++ [([e], false)], rfl, S5.bk, rfl, get_snoc rs _, (by show false ≠ true; decide), fun H6 B6 off6 => ?_⟩
          rw [set_snoc] at B6
          have S6 := S5.step off6 B6 (fun p hp => .inl hp) (app2 (by show 1 ≤ 2; decide) S3.v2)
          exact ⟨_, _, _, _, _, _, _, _, _, rfl, S6, ll1, by rw [len_snoc]; omega, fin fun e' => by rw [pres_snoc]; simp [eq_comm]⟩
        · refine ⟨_, rfl, rfl, _, rfl, ?_⟩
          refine ite2 (fun _ => ?_) (fun _ => ?_)
          · -- another one withdrawn, this one twice
            refine ⟨_, rfl, x, d3, _, rfl, hI3, pf_no _ _ (by decide +kernel) (by decide +kernel), _, rfl, x, d3, _, rfl, hI3, pf_no _ _ (by decide +kernel) (by decide +kernel), _, rfl, x, _, o, lv, ls, ps, rs, rfl, S3.bk, hvo, oko, by omega, fun H4 p4 hp4 B4 off4 => ?_⟩
            have S4 := S3.step off4 B4 (newp hp4) (app2 (by show 1 ≤ 2; decide) S3.v2)
            refine ⟨x, _, rs.length, ([o], true), lv, ls, ps ++ [p4], rs ++ [([o], true)], rfl, S4.bk, rfl, get_snoc rs _, (by show true ≠ false; decide), fun H5 B5 off5 => ?_⟩
            rw [set_snoc] at B5
            have S5 := S4.step off5 B5 (fun p hp => .inl hp) (app2 (by show 1 ≤ 2; decide) S3.v2)
            obtain ⟨d5, hI5⟩ := S5.bk.ins
            have hv5 := (hv4.mono (S3.bk.tt off4)).mono (S4.bk.tt off5)
            refine ⟨_, rfl, x, d5, _, rfl, hI5, pf_no _ _ (by decide +kernel) (by decide +kernel), _, rfl, x, _, e, lv, ls, ps ++ [p4], rs ++ [([o], false)], rfl, S5.bk, hv5, oke, by rw [len_snoc]; omega, fun H6 p6 hp6 B6 off6 => ?_⟩
            have S6 := S5.step off6 B6 (newp hp6) (app2 (by show 1 ≤ 2; decide) S5.v2)
            obtain ⟨d6, hI6⟩ := S6.bk.ins
            refine ⟨_, rfl, x, d6, _, rfl, hI6, pf_no _ _ (by decide +kernel) (by decide +kernel), _, rfl, x, _, e, lv, ls, ps ++ [p4] ++ [p6], rs ++ [([o], false)] ++ [([e], true)], rfl, S6.bk, hv5.mono (S5.bk.tt off6), oke, by rw [len_snoc, len_snoc]; omega, fun H7 p7 hp7 B7 off7 => ?_⟩
            have S7 := S6.step off7 B7 (newp hp7) (app2 (by show 1 ≤ 2; decide) S6.v2)
            exact ⟨_, _, _, _, _, _, _, _, _, rfl, S7, ll1, by rw [len_snoc, len_snoc, len_snoc]; omega, fin fun e' => by rw [pres_snoc, pres_snoc, pres_snoc]; simp [eq_comm, or_assoc]⟩
          · -- just added
            refine ⟨_, rfl, x, d3, _, rfl, hI3, pf_no _ _ (by decide +kernel) (by decide +kernel), _, rfl, x, _, e, lv, ls, ps, rs, rfl, S3.bk, hv4, oke, by omega, fun H4 p4 hp4 B4 off4 => ?_⟩
            have S4 := S3.step off4 B4 (newp hp4) (app2 (by show 1 ≤ 2; decide) S3.v2)
            exact ⟨_, _, _, _, _, _, _, _, _, rfl, S4, ll1, by rw [len_snoc]; omega, fin fun e' => by rw [pres_snoc]; simp [eq_comm]⟩
    · rintro σ' H' ⟨u1, u2, u3, u4, u5, us, lft, ps, rs, rfl, S, hlen, h3, hP⟩
      have l0 : lft = [] := List.eq_nil_of_length_eq_zero (by omega)
      subst l0
      exact ⟨_, rfl, h x lv ls ps rs H' nx S.fr S.ex S.bk (by omega) S.v2 fun e => by rw [← hP e]; simp⟩
end
end Kb

set_option Elab.async false
set_option linter.all false
set_option maxRecDepth 100000
set_option maxHeartbeats 4000000
/-! K64, sets of nested tuples that all differ: set(xs), sorted(set). -/
namespace Kb
open PySem PySem.Spec PyProof.Rows L2 Evl

/-! ### plain lists -/
theorem fm_range {β : Type} : ∀ L : List β, (List.range L.length).filterMap (fun i => L[i]?) = L
  | [] => rfl
  | x :: L => by
    rw [List.length_cons, List.range_succ_eq_map]
    simp [List.filterMap_map, Function.comp_def, fm_range L]
theorem fm_map {β γ : Type} {f : Nat → Option β} {g : β → γ} {k : Nat → γ} : ∀ l : List Nat, (∀ i ∈ l, (f i).map g = some (k i)) → (l.filterMap f).map g = l.map k
  | [], _ => rfl
  | i :: l, h => by
    obtain ⟨b, hb, e⟩ := Option.map_eq_some_iff.mp (h i List.mem_cons_self)
    rw [List.filterMap_cons_some hb, List.map_cons, List.map_cons, e, fm_map l fun j hj => h j (List.mem_cons_of_mem _ hj)]
theorem fm_of_map {β γ : Type} {f : Nat → Option β} {g : β → γ} : ∀ l : List Nat, (l.filterMap f).map g = l.filterMap fun i => (f i).map g
  | [] => rfl
  | i :: l => by
    cases h : f i with
    | none => rw [List.filterMap_cons_none h, List.filterMap_cons_none (by rw [h]; rfl), fm_of_map l]
    | some b => rw [List.filterMap_cons_some h, List.filterMap_cons_some (b := g b) (by rw [h]; rfl), List.map_cons, fm_of_map l]
theorem ins_perm {α : Type} (L : List α) (p : Nat) (x : α) : (L.take p ++ x :: L.drop p).Perm (x :: L) := by
  have h : (L.take p ++ x :: L.drop p).Perm (x :: (L.take p ++ L.drop p)) := List.perm_middle
  rwa [List.take_append_drop] at h
theorem take_snoc {α : Type} {l : List α} {i : Nat} {x : α} (h : l[i]? = some x) : l.take (i + 1) = l.take i ++ [x] := by
  rw [List.take_succ, h] <;> rfl

/-! ### small questions -/
section
variable {P : Program} {w : World} {A : Around} {E : Value → Shared → Prop}
mutual
theorem class_key : ∀ (k : NestedKey) (v : Value) (n : Nat) (s : Shared) (Q : Bool → Shared → Prop), NestedIs s.heap k v → k.depth ≤ n → Q false s → wpAny (model P w) A (ofAClassStatement n v) Q E s
  | .none, _, n, s, Q, x, _, h => by cases x; cases n <;> exact wpAny_pure h
  | .num i, _, n, s, Q, x, _, h => by cases x <;> cases n <;> exact wpAny_pure h
  | .text y, _, n, s, Q, x, _, h => by cases x; cases n <;> exact wpAny_pure h
  | .tup ks, _, 0, s, Q, x, hn, h => by simp only [NestedKey.depth] at hn; omega
  | .tup ks, _, n + 1, s, Q, x, hn, h => by
    cases x with
    | @tup b o vs m _ hg hc hd hk =>
      simp only [NestedKey.depth] at hn
      have hT : s.TypeIs (.ref b) "tuple" := ⟨_, hg, hc⟩
      unfold ofAClassStatement
      refine wpAny_bind (wpAny_typeOf hT ?_)
      dsimp only
      have e : (("tuple" : String) == "tuple") = true := by decide
      simp only [e, if_true, Bool.not_true, Bool.false_eq_true, if_false]
      try refine wpAny_bind (wpAny_pure ?_)
      try simp only [Bool.not_true, Bool.false_eq_true, if_false]
      show wpAny _ _ (seqItems? (.ref b) >>= _) _ _ s
      refine wpAny_bind (wpAny_seqItems hg hd ?_)
      dsimp only
      refine wpAny_bind ?_
      show wpAny _ _ (forIn vs _ _) _ _ s
      rw [← Array.forIn_toList]
      refine wpAny_forIn_list _ (fun rest r s' => r.1 = none ∧ s' = s ∧ ∀ v ∈ rest, ∀ Q : Bool → Shared → Prop, Q false s → wpAny (model P w) A (ofAClassStatement n v) Q E s) _ ?_ ?_ _ _ ⟨rfl, rfl, class_keys ks _ n s hk (by omega)⟩
      · rintro v rest r s' ⟨hr, rfl, hall⟩
        refine wpAny_bind (hall v List.mem_cons_self _ ?_)
        simp only [Bool.false_eq_true, if_false]
        exact wpAny_pure ⟨rfl, rfl, fun u hu => hall u (List.mem_cons_of_mem _ hu)⟩
      · rintro ⟨r1, r2⟩ s' ⟨hr, rfl, _⟩
        simp only at hr
        subst hr
        exact wpAny_pure h
theorem class_keys : ∀ (ks : List NestedKey) (vs : List Value) (n : Nat) (s : Shared), NestedAll s.heap ks vs → NestedKey.depthAll ks ≤ n → ∀ v ∈ vs, ∀ Q : Bool → Shared → Prop, Q false s → wpAny (model P w) A (ofAClassStatement n v) Q E s
  | [], _, n, s, x, _, v, hv => by cases x; cases hv
  | k :: ks, _, n, s, x, hn, v, hv => by
    cases x with
    | cons x1 x2 =>
      simp only [NestedKey.depthAll] at hn
      rcases List.mem_cons.mp hv with e | hv
      · intro Q h; rw [e]; exact class_key k _ n s Q x1 (by omega) h
      · exact class_keys ks _ n s x2 (by omega) v hv
end
mutual
theorem byv_key : ∀ (k : NestedKey) (v : Value) (n : Nat) (s : Shared) (Q : Bool → Shared → Prop), NestedIs s.heap k v → (∀ b, Q b s) → wpAny (model P w) A (hashByValue n v) Q E s
  | .none, _, n, s, Q, x, h => by cases x; cases n <;> exact wpAny_pure (h _)
  | .num i, _, n, s, Q, x, h => by cases x <;> cases n <;> exact wpAny_pure (h _)
  | .text y, _, n, s, Q, x, h => by cases x; cases n <;> exact wpAny_pure (h _)
  | .tup ks, _, 0, s, Q, x, h => by cases x; exact wpAny_pure (h _)
  | .tup ks, _, n + 1, s, Q, x, h => by
    cases x with
    | @tup b o vs m _ hg hc hd hk =>
      have hT : s.TypeIs (.ref b) "tuple" := ⟨_, hg, hc⟩
      unfold hashByValue
      refine wpAny_bind (wpAny_specialOf hT F.slot_tuple_hash.lookup ?_)
      show wpAny _ _ (seqItems? (.ref b) >>= _) _ _ s
      refine wpAny_bind (wpAny_seqItems hg hd ?_)
      refine wpAny_bind ?_
      show wpAny _ _ (forIn vs _ _) _ _ s
      rw [← Array.forIn_toList]
      refine wpAny_forIn_list _ (fun rest r s' => r.1 = none ∧ s' = s ∧ ∀ v ∈ rest, ∀ Q : Bool → Shared → Prop, (∀ b, Q b s) → wpAny (model P w) A (hashByValue n v) Q E s) _ ?_ ?_ _ _ ⟨rfl, rfl, byv_keys ks _ n s hk⟩
      · rintro v rest r s' ⟨hr, rfl, hall⟩
        refine wpAny_bind (hall v List.mem_cons_self _ fun d => ?_)
        cases d with
        | true =>
          simp only [Bool.not_true, Bool.false_eq_true, if_false]
          exact wpAny_pure ⟨rfl, rfl, fun u hu => hall u (List.mem_cons_of_mem _ hu)⟩
        | false =>
          simp only [Bool.not_false, if_true]
          exact wpAny_pure (wpAny_pure (h _))
      · rintro ⟨r1, r2⟩ s' ⟨hr, rfl, _⟩
        simp only at hr
        subst hr
        exact wpAny_pure (h _)
theorem byv_keys : ∀ (ks : List NestedKey) (vs : List Value) (n : Nat) (s : Shared), NestedAll s.heap ks vs → ∀ v ∈ vs, ∀ Q : Bool → Shared → Prop, (∀ b, Q b s) → wpAny (model P w) A (hashByValue n v) Q E s
  | [], _, n, s, x, v, hv => by cases x; cases hv
  | k :: ks, _, n, s, x, v, hv => by
    cases x with
    | cons x1 x2 =>
      rcases List.mem_cons.mp hv with e | hv
      · intro Q h; rw [e]; exact byv_key k _ n s Q x1 h
      · exact byv_keys ks _ n s x2 v hv
end
abbrev NIs (h : Heap) (k : NestedKey) (a : Addr) : Prop := NestedIs h k (.ref a) ∧ k.depth ≤ 8
theorem shows_nothing {s : Shared} {k : NestedKey} {b : Addr} {Q : Bool → Shared → Prop} (hk : NIs s.heap k b) {ys : List Value} (hy : ∀ y ∈ ys, ∃ k' c, y = Value.ref c ∧ NIs s.heap k' c) (h : Q false s) :
    wpAny (model P w) A (searchCouldBeSeen (.ref b) ys) Q E s := by
  unfold searchCouldBeSeen
  refine wpAny_bind ?_
  refine wpAny_forIn_list _ (fun rest r s' => r.1 = none ∧ s' = s ∧ ∀ y ∈ rest, ∃ k' c, y = Value.ref c ∧ NIs s.heap k' c) _ ?_ ?_ _ _ ⟨rfl, rfl, hy⟩
  · rintro v rest r s' ⟨hr, rfl, hall⟩
    obtain ⟨k', c, rfl, hc⟩ := hall v List.mem_cons_self
    have more : ∀ y ∈ rest, ∃ k' c, y = Value.ref c ∧ NIs s'.heap k' c := fun u hu => hall u (List.mem_cons_of_mem _ hu)
    dsimp only
    by_cases hv : (b == c || (carriedByValue (.ref b) && carriedByValue (.ref c))) = true
    · exact wp_if_pos hv (wpAny_pure ⟨rfl, rfl, more⟩)
    · refine wp_if_neg hv ?_
      refine wpAny_bind (quiet_key k _ 8 s' hk.1 hk.2 A E _ ?_)
      simp only [Bool.not_true, Bool.false_eq_true, if_false]
      refine wpAny_bind (quiet_key k' _ 8 s' hc.1 hc.2 A E _ ?_)
      simp only [Bool.not_true, Bool.false_eq_true, if_false]
      refine wpAny_bind (class_key k _ 8 s' _ hk.1 hk.2 ?_)
      simp only [Bool.false_eq_true, if_false]
      refine wpAny_bind (class_key k' _ 8 s' _ hc.1 hc.2 ?_)
      simp only [Bool.false_eq_true, if_false]
      exact wpAny_pure ⟨rfl, rfl, more⟩
  · rintro ⟨r1, r2⟩ s' ⟨hr, rfl, _⟩
    simp only at hr
    subst hr
    exact wpAny_pure h
end

/-! ### the set -/
abbrev NL := List (Addr × NestedKey)
abbrev hsh (w : World) (p : Addr × NestedKey) : Int := p.2.hash w
abbrev rowN (w : World) (p : Addr × NestedKey) : Int × Value := (p.2.hash w, Value.ref p.1)
structure SetN (w : World) (h : Heap) (a : Addr) (L : NL) (es : Array (Int × Value)) (ep : Nat) (t : SetTable) : Prop where
  ob : ∃ o, h.get? a = some o ∧ o.ExactSet ∧ o.data = .set es ep t
  rows : es.toList = L.map (rowN w)
  tab : TabOk t (L.map (hsh w))
  nd : (L.map (·.2)).Nodup
  led : w.params.followText "set-order" = true ∨ t.led = true
  room : L.length * 5 < t.mask * 3
  few : L.length < 64
abbrev TupN (h : Heap) (L : NL) : Prop := ∀ p ∈ L, NIs h p.2 p.1
section
variable {P : Program} {w : World} {A : Around} {E : Value → Shared → Prop} {s : Shared} {a : Addr} {L : NL} {es : Array (Int × Value)} {ep : Nat} {t : SetTable}
theorem rows_size (h : es.toList = L.map (rowN w)) : es.size = L.length := by
  have q := congrArg List.length h
  rwa [Array.length_toList, List.length_map] at q
theorem rows_get (h : es.toList = L.map (rowN w)) {i : Nat} {p : Addr × NestedKey} (hp : L[i]? = some p) : es[i]? = some (rowN w p) := by
  rw [← Array.getElem?_toList, h, List.getElem?_map, hp] <;> rfl
theorem SetN.plc (R : SetN w s.heap a L es ep t) : t.place.size = L.length := by
  have h := R.tab.sz
  rwa [List.length_map] at h
theorem SetN.fits (R : SetN w s.heap a L es ep t) : t.fits es.size = true := by
  have h1 := R.plc
  have h2 := rows_size R.rows
  have h3 := R.room
  unfold SetTable.fits SetTable.fill
  rw [R.tab.dm, Bool.and_eq_true, beq_iff_eq, decide_eq_true_eq]
  show t.place.size = es.size ∧ t.place.size + 0 ≤ t.mask
  omega
theorem SetN.gw (R : SetN w s.heap a L es ep t) : ¬ t.gaveWay = true := by
  unfold SetTable.gaveWay
  rw [mask_odd R.tab.mok]
  decide
/-- where the search for h begins -/
abbrev go0 (m : Nat) (h : Int) : SetTable.Probe := runAt m (SetTable.bits h % (m + 1)) (SetTable.bits h)
theorem no_dummy (m : Nat) (h : Int) : ∀ n, (nth m (go0 m h) n).dummy = none := by
  have key : ∀ (n : Nat) (p : SetTable.Probe), p.dummy = none → (nth m p n).dummy = none := by
    intro n
    induction n with
    | zero => intro p h; exact h
    | succ n ih =>
      intro p h
      refine ih (adv m p) ?_
      unfold adv
      split <;> exact h
  exact fun n => key n _ rfl
/-- the search for a key that isn't there -/
theorem search_new (R : SetN w s.heap a L es ep t) (T : TupN s.heap L) {x : Addr} {k : NestedKey} (hx : NIs s.heap k x) (hk : k ∉ L.map (·.2)) (hu : A.units + 8 < cLine) {K : Nat} (hKf : K < 10 * SetTable.turns t.mask)
    (hK : way t.mask (k.hash w) K ∉ t.place.toList) (hKb : ∀ c, c < K → way t.mask (k.hash w) c ∈ t.place.toList) {Q : SetFound → Shared → Prop} (hQ : Q (.free (way t.mask (k.hash w) K) false) s) :
    ∀ (f c : Nat) (stand : Option SetTable.Probe), stand.getD (t.probeStart (k.hash w)) = nth t.mask (go0 t.mask (k.hash w)) c → c ≤ K → K - c < f →
      wpAny (model P w) A (setSearchFrom a (.ref x) (k.hash w) true f stand) Q E s
  | 0, c, stand, _, _, hf => absurd hf (Nat.not_lt_zero _)
  | f + 1, c, stand, hst, hc, hf => by
    obtain ⟨o, ho, hex, hd⟩ := R.ob
    rw [setSearchFrom_succ]
    refine wpAny_bind (wpAny_setState_of ho hd R.fits ?_)
    dsimp only
    refine wp_if_neg R.gw ?_
    try refine wpAny_bind (wpAny_pure ?_)
    have on : ∀ q, (nth t.mask (nth t.mask (go0 t.mask (k.hash w)) c) q).j = way t.mask (k.hash w) (c + q) := fun q => congrArg SetTable.Probe.j (nth_add t.mask c _ q).symm
    rcases go_spec t R.tab.ris R.tab.dm (fun i => (es[i]?.map (·.1)).getD 0) (k.hash w) (10 * SetTable.turns t.mask) (K - c) _ (no_dummy t.mask (k.hash w) c) (by omega)
      (fun q hq => by rw [on]; exact hKb (c + q) (by omega)) (by rw [on, show c + (K - c) = K by omega]; exact hK) with ⟨q, i, hq, hi, hh, hno, hpr⟩ | ⟨hno, hpr⟩
    · have e1 : t.probe (fun i => (es[i]?.map (·.1)).getD 0) (k.hash w) (stand.getD (t.probeStart (k.hash w))) = some (.candidate (way t.mask (k.hash w) (c + q)) i (nth t.mask (go0 t.mask (k.hash w)) (c + (q + 1)))) := by
        rw [hst, ← on, nth_add t.mask c (go0 t.mask (k.hash w)) (q + 1)]
        exact hpr
      rw [e1]
      dsimp only
      rw [on] at hi
      have hil : i < L.length := by
        have h1 : i < t.place.toList.length := (List.getElem?_eq_some_iff.mp hi).1
        rw [Array.length_toList, R.plc] at h1
        exact h1
      obtain ⟨p, hp⟩ : ∃ p, L[i]? = some p := ⟨_, List.getElem?_eq_getElem hil⟩
      have hm : p ∈ L := List.mem_of_getElem? hp
      have hne : decide (p.2 = k) = false := decide_eq_false fun e => hk (List.mem_map.mpr ⟨p, hm, e⟩)
      have rest : wpAny (model P w) A (searchRest a (.ref x) (k.hash w) true f es t (way t.mask (k.hash w) (c + q)) i (nth t.mask (go0 t.mask (k.hash w)) (c + (q + 1)))) Q E s := by
        unfold searchRest
        rw [rows_get R.rows hp]
        dsimp only
        refine wpAny_bind (wpAny_holding ((nestedKind P w).eqBool hu (T p hm) hx ?_))
        rw [hne]
        refine wpAny_bind (wpAny_setState_of ho hd R.fits ?_)
        dsimp only
        refine wp_if_neg (by simp) ?_
        try refine wpAny_bind (wpAny_pure ?_)
        rw [sameMem]
        dsimp only
        have hsl : t.slot (way t.mask (k.hash w) (c + q)) = .live i := slot_live R.tab.ris hi
        simp only [if_true, hsl, rows_get R.rows hp]
        refine wpAny_bind (wpAny_isSame_ref_self (wpAny_bind (wpAny_pure ?_)))
        simp only [if_true]
        refine wp_if_neg (by simp) ?_
        exact search_new R T hx hk hu hKf hK hKb hQ f (c + (q + 1)) _ rfl (by omega) (by omega)
      by_cases hl : t.led = true
      · refine wp_if_neg (by simp [hl]) ?_
        try refine wpAny_bind (wpAny_pure ?_)
        exact rest
      · refine wp_if_pos (by simp [hl]) ?_
        refine wpAny_bind (shows_nothing hx (fun y hy => ?_) ?_)
        · obtain ⟨e, he, ee⟩ := List.mem_map.mp hy
          have he1 : e ∈ es ∧ e.1 = k.hash w := by simpa using he
          have he2 : e ∈ es.toList := by simpa using he1.1
          rw [R.rows] at he2
          obtain ⟨p2, hp2, e2⟩ := List.mem_map.mp he2
          exact ⟨p2.2, p2.1, by rw [← ee, ← e2], T p2 hp2⟩
        · refine wp_if_neg (by decide) ?_
          try refine wpAny_bind (wpAny_pure ?_)
          exact rest
    · have e1 : t.probe (fun i => (es[i]?.map (·.1)).getD 0) (k.hash w) (stand.getD (t.probeStart (k.hash w))) = some (.empty (way t.mask (k.hash w) K) none) := by
        have e2 : way t.mask (k.hash w) K = (nth t.mask (nth t.mask (go0 t.mask (k.hash w)) c) (K - c)).j := by
          rw [on, show c + (K - c) = K by omega]
        rw [hst, e2]
        exact hpr
      rw [e1]
      dsimp only
      exact wpAny_pure hQ
theorem search_any (R : SetN w s.heap a L es ep t) (T : TupN s.heap L) {x : Addr} {k : NestedKey} (hx : NIs s.heap k x) (hk : k ∉ L.map (·.2)) (hu : A.units + 8 < cLine) {Q : SetFound → Shared → Prop}
    (hQ : ∀ K, way t.mask (k.hash w) K ∉ t.place.toList → (∀ c, c < K → way t.mask (k.hash w) c ∈ t.place.toList) → Q (.free (way t.mask (k.hash w) K) false) s) :
    wpAny (model P w) A (setSearch a (.ref x) (k.hash w) true) Q E s := by
  have hroom := R.room
  obtain ⟨K, hKf, hK, hKb⟩ := R.tab.first (by rw [List.length_map]; omega) (k.hash w)
  have hbig : K < 100000 := by
    have : 10 * SetTable.turns t.mask ≤ 1420 := by
      unfold SetTable.turns
      rcases R.tab.mok with e | e | e <;> omega
    omega
  unfold setSearch
  exact search_new R T hx hk hu hKf hK hKb (hQ K hK hKb) 100000 0 none rfl (Nat.zero_le _) (by omega)

/-! ### laying anew, adding -/
theorem keepN {h h' : Heap} {k : NestedKey} {a b : Addr} {o : Obj} {es : Array (Int × Value)} {ep : Nat} {t : SetTable} (x : NIs h k b) (ho : h.get? a = some o) (hd : o.data = .set es ep t) (hs : Heap.SameBut a h h') : NIs h' k b :=
  ⟨NestedIs.at (fun c u vs n hc hu => by
    refine (hs.2 c fun e => ?_).trans hc
    subst e
    rw [ho] at hc
    cases hc
    rw [hd] at hu
    cases hu) k _ x.1, x.2⟩
theorem rows_order (hr : es.toList = L.map (rowN w)) {order : Array Nat} (hp : order.toList.Perm (List.range L.length)) :
    ∃ L2 : NL, (order.filterMap (es[·]?)).toList = L2.map (rowN w) ∧ L2.Perm L ∧ L2.map (hsh w) = order.toList.map fun i => (es.map (·.1)).getD i 0 := by
  have hsz := rows_size hr
  have at_ : ∀ i : Nat, es[i]? = (L[i]?).map (rowN w) := fun i => by rw [← Array.getElem?_toList, hr, List.getElem?_map]
  refine ⟨order.toList.filterMap fun i => L[i]?, ?_, ?_, ?_⟩
  · rw [fm_of_map]
    have : (order.filterMap (es[·]?)).toList = order.toList.filterMap (es[·]?) := by first | exact Array.toList_filterMap .. | simp
    rw [this]
    exact congrArg (fun f => order.toList.filterMap f) (funext fun i => at_ i)
  · have h := hp.filterMap fun i => L[i]?
    rwa [fm_range] at h
  · refine fm_map _ fun i hi => ?_
    have hlt : i < L.length := List.mem_range.mp (hp.mem_iff.mp hi)
    have e5 : (es.map (·.1))[i]? = some (hsh w L[i]) := by rw [Array.getElem?_map, at_ i, List.getElem?_eq_getElem hlt] <;> rfl
    rw [List.getElem?_eq_getElem hlt]
    simp [Array.getD_eq_getD_getElem?, e5]
theorem relayN {o : Obj} (ho : s.heap.get? a = some o) (hex : o.ExactSet) (hd : o.data = .set es ep t) (hr : es.toList = L.map (rowN w)) (hsz : t.place.size = es.size) (hdm : t.dummies = #[]) (hfl : es.size ≤ t.mask)
    (nd : (L.map (·.2)).Nodup) (ld : w.params.followText "set-order" = true ∨ t.led = true) (few : L.length < 64) {wanted M : Nat}
    (hw : SetTable.sizeAbove wanted - 1 = M) (hM : MaskOk M) (hw2 : SetTable.sizeAbove wanted ≤ 128) (hn : L.length * 5 < M * 3) {Q : Unit → Shared → Prop}
    (hQ : ∀ h' L' es' ep' t', Heap.SameBut a s.heap h' → SetN w h' a L' es' ep' t' → L'.Perm L → Q () { s with heap := h' }) : wpAny (model P w) A (setRelay a wanted) Q E s := by
  have hsl := rows_size hr
  have hfits : t.fits es.size = true := by
    unfold SetTable.fits SetTable.fill
    rw [hdm, Bool.and_eq_true, beq_iff_eq, decide_eq_true_eq]
    show t.place.size = es.size ∧ t.place.size + 0 ≤ t.mask
    omega
  obtain ⟨t', order, e, hp, T, em, el, _, _⟩ := relaid_ok t (hs := es.map (·.1)) (wanted := wanted) hw hM (by rw [Array.size_map, hsl]; omega)
  rw [Array.size_map, hsl] at hp
  obtain ⟨L2, r1, r2, r3⟩ := rows_order hr hp
  rw [← r3] at T
  have hs2 : (order.filterMap (es[·]?)).size = es.size := by rw [rows_size r1, r2.length_eq, hsl]
  rw [setRelay_eq]
  refine wpAny_bind (wpAny_setState_of ho hd hfits ?_)
  dsimp only
  refine wp_if_neg (by rw [sizeLine_eq]; omega) ?_
  try refine wpAny_bind (wpAny_pure ?_)
  rw [e]
  dsimp only
  refine wpAny_bind ?_
  refine wp_if_neg (by rw [hs2]; simp) ?_
  try refine wpAny_bind (wpAny_pure ?_)
  refine wpAny_pure ?_
  dsimp only
  refine wpAny_storeSet_of ho hd ?_ (by rw [hs2, hsl, sizeLine_eq]; omega)
  exact hQ _ L2 _ (ep + 1) t' (Heap.SameBut.update ..) ⟨⟨_, store_at ho hd, ⟨hex.1, hex.2.1, hex.2.2⟩, rfl⟩, r1, T, (r2.map (·.2)).nodup_iff.mpr nd, by rw [el]; exact ld, by rw [r2.length_eq, em]; exact hn, by rw [r2.length_eq]; exact few⟩ r2
/-- a key that isn't there comes in -/
theorem addN (R : SetN w s.heap a L es ep t) (T : TupN s.heap L) {x : Addr} {k : NestedKey} (hx : NIs s.heap k x) (hk : k ∉ L.map (·.2)) (hu : A.units + 8 < cLine) (hfew : L.length + 1 < 64) {Q : Bool → Shared → Prop}
    (hQ : ∀ h' L' es' ep' t', Heap.SameBut a s.heap h' → SetN w h' a L' es' ep' t' → L'.Perm ((x, k) :: L) → Q true { s with heap := h' }) :
    wpAny (model P w) A (setAddHashed a (.ref x) (k.hash w)) Q E s := by
  obtain ⟨o, ho, hex, hd⟩ := R.ob
  have hsl := rows_size R.rows
  have hroom := R.room
  unfold setAddHashed
  refine wpAny_holding ?_
  rw [show (100000 : Nat) = 99999 + 1 from rfl, setAddHashedIn_succ]
  refine wpAny_bind (wpAny_setState_of ho hd R.fits ?_)
  dsimp only
  refine wp_if_neg (by simp [byScan, Value.scannable]) ?_
  try refine wpAny_bind (wpAny_pure ?_)
  refine wpAny_bind (search_any R T hx hk hu fun K hK hb => ?_)
  dsimp only
  refine wpAny_bind (wpAny_setState_of ho hd R.fits ?_)
  dsimp only
  obtain ⟨q1, q2, q3, q4, q5, q6, q7, q8, q9⟩ := R.tab.put hK hb
  generalize hpt : t.put (way t.mask (k.hash w) K) = pt at q1 q3 q4 q5 q6 q7 q8 q9 ⊢
  obtain ⟨t1, p⟩ := pt
  dsimp only at q1 q3 q4 q5 q6 q7 q8 q9 ⊢
  subst q1
  have hin : (SetTable.insertAt es (SetTable.below t.place (way t.mask (k.hash w) K)) (k.hash w, Value.ref x)).toList = (L.take (SetTable.below t.place (way t.mask (k.hash w) K)) ++ (x, k) :: L.drop (SetTable.below t.place (way t.mask (k.hash w) K))).map (rowN w) := by
    rw [SetTable.toList_insertAt, R.rows, List.map_append, List.map_cons, List.map_take, List.map_drop]
  generalize hpp : SetTable.below t.place (way t.mask (k.hash w) K) = p at q2 q3 hin ⊢
  have pm := ins_perm L p (x, k)
  have hhs : (L.take p ++ (x, k) :: L.drop p).map (hsh w) = (L.map (hsh w)).take p ++ k.hash w :: (L.map (hsh w)).drop p := by
    rw [List.map_append, List.map_cons, List.map_take, List.map_drop]
  rw [← hhs] at q3
  have nd1 : ((L.take p ++ (x, k) :: L.drop p).map (·.2)).Nodup := by
    refine (pm.map (·.2)).nodup_iff.mpr ?_
    rw [List.map_cons]
    exact List.nodup_cons.mpr ⟨hk, R.nd⟩
  have hlen : (L.take p ++ (x, k) :: L.drop p).length = L.length + 1 := pm.length_eq
  generalize SetTable.insertAt es p (k.hash w, Value.ref x) = es1 at hin ⊢
  generalize L.take p ++ (x, k) :: L.drop p = L1 at pm hlen q3 nd1 hin
  have hes : es1.size = L.length + 1 := by rw [rows_size hin, hlen]
  -- whether the hash is by value only marks the table
  have tail : ∀ t2 : SetTable, t2.mask = t1.mask → t2.led = t1.led → t2.fill = t1.fill → t2.place = t1.place → TabOk t2 (L1.map (hsh w)) →
      wpAny (model P w) A (do
        storeSet a es1 t2
        if !false && t2.tooFull then setRelay a (SetTable.grown (es.size + 1))
        return true) Q E s := by
    intro t2 em el ef epl q3
    refine wpAny_bind (wpAny_storeSet_of ho hd ?_ (by rw [hes, sizeLine_eq]; omega))
    have sb : Heap.SameBut a s.heap (s.heap.update a (Obj.putSet es1 t2)) := Heap.SameBut.update ..
    have ho1 := store_at (es' := es1) (t' := t2) ho hd
    generalize s.heap.update a (Obj.putSet es1 t2) = h1 at sb ho1 ⊢
    have ld1 : w.params.followText "set-order" = true ∨ t2.led = true := by rw [el, q5]; exact R.led
    by_cases hf : t2.tooFull = true
    · first
        | (refine wpAny_bind ?_; refine wp_if_pos (by simp [hf]) ?_)
        | (refine wp_if_pos (by simp [hf]) ?_; refine wpAny_bind ?_)
      have hfull : (L.length + 1) * 5 ≥ t2.mask * 3 := by
        have h := hf
        unfold SetTable.tooFull at h
        rw [decide_eq_true_eq, ef, q9, List.length_map] at h
        exact h
      rw [hsl]
      have hsz1 : t2.place.size = es1.size := by
        have h := q3.sz
        rw [List.length_map, hlen] at h
        rw [h, hes]
      have cases2 : (t.mask = 7 ∧ L.length = 4) ∨ (t.mask = 31 ∧ L.length = 18) := by
        rcases R.tab.mok with e | e | e
        · left; rw [em, q4, e] at hfull; rw [e] at hroom; exact ⟨e, by omega⟩
        · right; rw [em, q4, e] at hfull; rw [e] at hroom; exact ⟨e, by omega⟩
        · exfalso; rw [em, q4, e] at hfull; omega
      have go : ∀ M, SetTable.sizeAbove (SetTable.grown (L.length + 1)) - 1 = M → MaskOk M → SetTable.sizeAbove (SetTable.grown (L.length + 1)) ≤ 128 → (L.length + 1) * 5 < M * 3 →
          wpAny (model P w) A (setRelay a (SetTable.grown (L.length + 1))) (fun _ s' => wpAny (model P w) A (pure true) Q E s') E { s with heap := h1 } := fun M h1' h2' h3' h4' =>
        relayN (s := { s with heap := h1 }) ho1 ⟨hex.1, hex.2.1, hex.2.2⟩ rfl hin hsz1 q3.dm (by rw [hes, em, q4]; rcases cases2 with ⟨e, e2⟩ | ⟨e, e2⟩ <;> omega) nd1 ld1 (by rw [hlen]; exact hfew) h1' h2' h3' (by rw [hlen]; exact h4')
          fun h2 L2 es2 ep2 t3 sb2 R2 pm2 => wpAny_pure (hQ h2 L2 es2 ep2 t3 (sb.trans sb2) R2 (pm2.trans pm))
      rcases cases2 with ⟨_, e2⟩ | ⟨_, e2⟩
      · exact go 31 (by rw [e2, size_20]) (.inr (.inl rfl)) (by rw [e2, size_20]; decide) (by omega)
      · exact go 127 (by rw [e2, size_76]) (.inr (.inr rfl)) (by rw [e2, size_76]; decide) (by omega)
    · first
        | refine wp_if_neg (by simp [hf]) ?_
        | (refine wpAny_bind ?_; refine wp_if_neg (by simp [hf]) ?_; refine wpAny_pure ?_)
      refine wpAny_pure (hQ h1 L1 es1 (ep + 1) t2 sb ⟨⟨_, ho1, ⟨hex.1, hex.2.1, hex.2.2⟩, rfl⟩, hin, q3, nd1, ld1, ?_, by rw [hlen]; exact hfew⟩ pm)
      have h := hf
      unfold SetTable.tooFull at h
      rw [decide_eq_true_eq, ef, q9, List.length_map] at h
      rw [hlen]
      omega
  by_cases hpl : t1.plain = true
  · first
      | (refine wpAny_bind ?_; refine wp_if_pos hpl ?_; refine byv_key k _ 8 s _ hx.1 fun b => ?_)
      | refine wp_if_pos hpl (wpAny_bind (byv_key k _ 8 s _ hx.1 fun b => ?_))
    cases b with
    | true => exact tail t1 rfl rfl rfl rfl q3
    | false => exact tail { t1 with plain := false } rfl rfl rfl rfl ⟨q3.ris, q3.dm, q3.sz, q3.mok, q3.bd, q3.reach⟩
  · first
      | (refine wpAny_bind ?_; refine wp_if_neg hpl ?_; refine wpAny_pure ?_)
      | refine wp_if_neg hpl (wpAny_bind (wpAny_pure ?_))
    exact tail t1 rfl rfl rfl rfl q3
end
end Kb

set_option Elab.async false
set_option linter.all false
set_option maxRecDepth 100000
set_option maxHeartbeats 4000000
/-! K64, set(xs) of a list of nested tuples that all differ; sorted(set). -/
namespace Kb
open PySem PySem.Spec PyProof.Rows L2 Evl
section
variable {P : Program} {w : World} {A : Around} {E : Value → Shared → Prop} {s : Shared}
theorem NIs.keep {h h' : Heap} {k : NestedKey} {b : Addr} (x : NIs h k b) (hk : ∀ c o, h.get? c = some o → h'.get? c = some o) : NIs h' k b := ⟨NestedIs.at (fun c o _ _ e _ => hk c o e) k _ x.1, x.2⟩
theorem SetN.keep {h h' : Heap} {a : Addr} {L : NL} {es : Array (Int × Value)} {ep : Nat} {t : SetTable} (R : SetN w h a L es ep t) (ha : ∀ o, h.get? a = some o → h'.get? a = some o) : SetN w h' a L es ep t := by
  obtain ⟨o, ho, r⟩ := R.ob
  exact ⟨⟨o, ha o ho, r⟩, R.rows, R.tab, R.nd, R.led, R.room, R.few⟩
abbrev new0 (w : World) : Obj := { cls := .type "set", dict := none, data := .set #[] 0 (.fresh 0 0 (!w.params.followText "set-order")) }
theorem setN_new {h : Heap} {a : Addr} (ho : h.get? a = some (new0 w)) : SetN w h a [] #[] 0 (.fresh 0 0 (!w.params.followText "set-order")) where
  ob := ⟨_, ho, ⟨rfl, rfl, rfl⟩, rfl⟩
  rows := rfl
  tab := ⟨List.Pairwise.nil, rfl, rfl, .inl rfl, fun x hx => (by cases hx), fun i h j hi => (by simp at hi)⟩
  nd := List.nodup_nil
  led := by
    show _ ∨ (!w.params.followText "set-order") = true
    cases w.params.followText "set-order"
    · exact .inr rfl
    · exact .inl rfl
  room := by
    show 0 * 5 < 7 * 3
    decide
  few := by
    show 0 < 64
    decide
/-- the loop behind set(xs): all keys differ -/
theorem fillN {I : Addr} {fp wr : List Addr} {G : Array GenState → Array GenState → Prop} {n : Nat} {Pv : Nat → Value → Prop} {St : Nat → Shared → Prop} {R : Result → Shared → Prop}
    (W : WalksS P w A.in1 I fp wr G n Pv St) (S : Addr) (hSf : S ∉ fp) (ks : NL) (hn : n = ks.length) (hfew : ks.length < 64) (hnd : (ks.map (·.2)).Nodup) (hval : ∀ i v, Pv i v → ∃ p, ks[i]? = some p ∧ v = .ref p.1)
    (h0 : Heap) (hk : TupN h0 ks) (hS0 : h0.get? S = none) (hw0 : ∀ b ∈ wr, h0.get? b = none) (hu : A.in1.units + 20 < cLine) :
    ∀ (k i : Nat) (s : Shared), n - i = k → i ≤ n → St i s → (∀ b o, h0.get? b = some o → s.heap.get? b = some o) → (∃ L es ep t, SetN w s.heap S L es ep t ∧ L.Perm (ks.take i)) →
      (∀ s' L es ep t, Moved (S :: wr) G s s' → SetN w s'.heap S L es ep t → L.Perm ks → (∀ b o, h0.get? b = some o → s'.heap.get? b = some o) → R (.ok (.ret .none)) s') →
      codeAny (model P w) A (.builtin "set.update.loop" ⟨[.ref S, .ref I], []⟩) R s := by
  have hSw : S ∉ wr := fun h => hSf (W.sub _ h)
  have hsub : ∀ b ∈ wr, b ∈ S :: wr := fun b hb => List.mem_cons_of_mem _ hb
  have keepM : ∀ {s s' : Shared}, Moved wr G s s' → (∀ b o, h0.get? b = some o → s.heap.get? b = some o) → ∀ b o, h0.get? b = some o → s'.heap.get? b = some o := fun hm hkp b o e =>
    hm.heap b o (fun hb => by rw [hw0 b hb] at e; cases e) (hkp b o e)
  intro k
  induction k with
  | zero =>
    intro i s hk' hi hst hkp ⟨L, es, ep, t, hS, g⟩ hR
    obtain rfl : i = n := by omega
    refine codeAny_builtin F.entry_set_update_loop ?_
    rw [Around.under_plainId F.plain_set_update_loop _]
    show wpAny _ A.in1 (pyNext (.ref I) >>= _) _ _ s
    refine wpAny_bind (W.done s _ _ hst fun s' hm => ?_)
    show wpAny _ A.in1 (ret Value.none) _ _ s'
    rw [hn, List.take_length] at g
    exact wpAny_pure (hR s' L es ep t (hm.mono hsub) (hS.keep fun o e => hm.heap S o hSw e) g (keepM hm hkp))
  | succ k ih =>
    intro i s hk' hi hst hkp ⟨L, es, ep, t, hS, g⟩ hR
    have hlt : i < n := by omega
    refine codeAny_builtin F.entry_set_update_loop ?_
    rw [Around.under_plainId F.plain_set_update_loop _]
    show wpAny _ A.in1 (pyNext (.ref I) >>= _) _ _ s
    refine wpAny_bind (W.item i s _ _ hlt hst fun v s' hP hst' hm => ?_)
    obtain ⟨p, hp, rfl⟩ := hval i v hP
    have hkp' := keepM hm hkp
    have hS' : SetN w s'.heap S L es ep t := hS.keep fun o e => hm.heap S o hSw e
    have hT : TupN s'.heap L := fun q hq => (hk q (List.mem_of_mem_take (g.mem_iff.mp hq))).keep hkp'
    have hx : NIs s'.heap p.2 p.1 := (hk p (List.mem_of_getElem? hp)).keep hkp'
    have hnew : p.2 ∉ L.map (·.2) := fun hm2 => by
      have q := (g.map (·.2)).mem_iff.mp hm2
      have e := take_snoc hp
      have nd : ((ks.take (i + 1)).map (·.2)).Nodup := by
        have := (List.take_sublist (i + 1) ks).map (·.2)
        exact List.Pairwise.sublist this hnd
      rw [e, List.map_append, List.nodup_append] at nd
      exact nd.2.2 _ q _ (by simp) rfl
    have hlen : L.length + 1 < 64 := by
      have h1 := g.length_eq
      rw [List.length_take] at h1
      have h2 : i < ks.length := by omega
      have h3 : min i ks.length = i := by omega
      rw [h3] at h1
      omega
    show wpAny _ A.in1 (holding [Value.ref p.1] (setAdd S (.ref p.1)) >>= _) _ _ s'
    refine wpAny_bind (wpAny_holding ?_)
    unfold setAdd
    refine wpAny_holding ?_
    refine wpAny_bind ((nestedKind P w).pyHash (show A.in1.units + 8 < cLine by omega) hx ?_)
    refine addN (s := { s' with toks := s'.toks + p.2.draws }) hS' hT hx hnew (by omega) hlen fun h' L' es' ep' t' hsb hS2 pm => ?_
    have g' : L'.Perm (ks.take (i + 1)) := by
      rw [take_snoc hp]
      exact pm.trans ((g.cons p).trans (List.perm_append_singleton p _).symm)
    have hkp2 : ∀ b o, h0.get? b = some o → h'.get? b = some o := fun b o e => (hsb.2 b (fun z => by rw [z, hS0] at e; cases e)).trans (hkp' b o e)
    refine wpAny_pure ⟨plainId_quiet F.plain_set_update_loop _, ih (i + 1) _ (by omega) hlt (W.frame _ s' _ _ hst' (Nat.le_add_right _ _) fun b hb o e => ?_) hkp2 ⟨L', es', ep', t', hS2, g'⟩ fun s'' L2 es2 ep2 t2 hm'' hS'' g'' hkp'' => ?_⟩
    · rw [hsb.2 b (fun h : b = S => hSf (by rw [← h]; exact hb))]; exact e
    · refine hR s'' L2 es2 ep2 t2 (Moved.trans W.gtrans ((hm.mono hsub).then_heap (Nat.le_add_right _ _) fun b o hb e => ?_) hm'') hS'' g'' hkp''
      rw [hsb.2 b (fun h : b = S => hb (by rw [h]; exact List.mem_cons_self))]; exact e

/-- set(xs) -/
theorem call_setN {l : Addr} {items : Array Value} (ks : NL) {Q : Value → Shared → Prop} (hh : A.handled = none) (hl : s.heap.IsList l items) (hit : items.toList = ks.map fun p => Value.ref p.1)
    (hk : TupN s.heap ks) (hfew : ks.length < 64) (hnd : (ks.map (·.2)).Nodup) (hu : A.units + 40 < cLine)
    (h : ∀ (h' : Heap) (tk : Nat) L es ep t, SetN w h' s.heap.objs.size L es ep t → L.Perm ks → (∀ b o, s.heap.get? b = some o → h'.get? b = some o) → Q (.ref s.heap.objs.size) { s with heap := h', toks := tk }) :
    wpAny (model P w) A (call (.type "set") [.ref l]) Q E s := by
  have hisz : items.size = ks.length := by
    have q := congrArg List.length hit
    rwa [Array.length_toList, List.length_map] at q
  obtain ⟨c, tl, hmro⟩ := F.called_set.mro
  have hmade := F.called_set.made
  have hsub := F.called_set.sub
  refine wpAny_call (codeAny_of_tree ?_)
  show wpAny _ _ (callAny (.type "set") _) _ _ _
  refine wpAny_pure ⟨Code.quiet_builtin _ (by decide +kernel), codeAny_builtin F.entry_type_call ?_⟩
  rw [Around.under_plain (weight_type_call_type "set" [.ref l] []) rfl]
  have h1 := F.called_set.notType
  have h2 := F.called_set.canCreate
  have hct := F.typeCall_set_1 (.ref l)
  repeat (any_goals (first | assumption | wp_step))
  refine codeAny_mono (code_set_led1 (.ref l) (E := E) (Q₁ := fun obj s₁ => obj = .ref s.heap.objs.size ∧ s₁ = { s with heap := s.heap.push (new0 w) }) ⟨rfl, rfl⟩) fun r s₁ hr => ?_
  cases r with
  | error e => exact hr
  | ok fl =>
    cases fl with
    | ret obj =>
      obtain ⟨rfl, rfl⟩ := hr
      have hS : (s.heap.push (new0 w)).get? s.heap.objs.size = some (new0 w) := Heap.get?_push_size _ rfl
      have hT : Shared.TypeIs { s with heap := s.heap.push (new0 w) } (.ref s.heap.objs.size) "set" := ⟨_, hS, rfl⟩
      have hli := F.called_set.init.lookup
      have hbi := F.called_set.init.bind (.ref s.heap.objs.size)
      repeat (any_goals (first | assumption | wp_step))
      refine codeAny_mono (codeAny_call_builtin (R := wants (fun r s₂ => r = .none ∧ ∃ h' tk L es ep t, s₂ = { s with heap := h', toks := tk } ∧ SetN w h' s.heap.objs.size L es ep t ∧ L.Perm ks ∧
          (∀ b o, s.heap.get? b = some o → h'.get? b = some o)) E) F.called_set.init.plain F.entry_set_init (check_set_init_1 hT ?_)) fun r₂ s₂ hr₂ => ?_
      · obtain ⟨ol, hol, hcl, nl, hdl⟩ := hl
        obtain ⟨ocls, odict, odata, oslots⟩ := ol
        simp only at hcl hdl
        subst hcl; subst hdl
        have hol' : (s.heap.push (new0 w)).get? l = some { cls := .type "list", dict := odict, data := .seq items nl, slots := oslots } := Heap.get?_push_of_some _ hol
        have hsls := F.sub_list_set
        have hslf := F.sub_list_frozenset
        have hne : (Value.type "list" == Value.type "dict") = false := by decide
        have hl1 : (s.heap.push (new0 w)).IsList l items := ⟨_, hol', rfl, nl, rfl⟩
        unfold Builtin.«set.__init__» noKeywords Builtin.Frozenset.updateFrom
        generalize hPI : pyIter = PI
        wp_walk
        subst hPI
        refine wpAny_pyIter_list hl1 ?_
        refine wpAny_bind (wpAny_runValue ?_)
        have hlS : l < s.heap.objs.size := Heap.lt_size hol
        have hh3 : A.in1.in1.in1.handled = none := by simp [hh]
        have hz1 : (s.heap.push (new0 w)).objs.size = s.heap.objs.size + 1 := Heap.size_push ..
        have hneI : l ≠ (s.heap.push (new0 w)).objs.size := by
          rw [Heap.size_push]; exact Nat.ne_of_lt (Nat.lt_succ_of_lt hlS)
        have hSf : s.heap.objs.size ∉ [(s.heap.push (new0 w)).objs.size, l] := by
          rw [Heap.size_push]; simp only [List.mem_cons, List.mem_singleton, List.not_mem_nil, or_false, not_or]
          exact ⟨Nat.ne_of_lt (Nat.lt_succ_self _), Nat.ne_of_gt hlS⟩
        have hval : ∀ (i : Nat) (v : Value), items[i]? = some v → ∃ p, ks[i]? = some p ∧ v = .ref p.1 := fun i v hv => by
          have q : items.toList[i]? = some v := by rw [Array.getElem?_toList]; exact hv
          rw [hit, List.getElem?_map] at q
          obtain ⟨p, hp, e⟩ := Option.map_eq_some_iff.mp q
          exact ⟨p, hp, e.symm⟩
        have none_of : ∀ b, s.heap.objs.size ≤ b → s.heap.get? b = none := fun b hb => by
          cases q : s.heap.get? b with
          | none => rfl
          | some o => exact absurd (Nat.lt_of_lt_of_le (Heap.lt_size q) hb) (Nat.lt_irrefl _)
        refine fillN ((Walks.list hh3 _ l hneI items).toS) s.heap.objs.size
          hSf ks hisz hfew hnd hval s.heap hk (none_of _ (Nat.le_refl _)) (fun b hb => none_of b (by
            rw [List.mem_singleton.mp hb, Heap.size_push]
            exact Nat.le_succ _)) (by simp only [Around.in1_units]; omega) (items.size - 0) 0 _ (by omega) (Nat.zero_le _)
          ⟨⟨_, Heap.get?_push_size _ rfl, rfl, rfl⟩, (hl1.push _)⟩ (fun b o e => Heap.get?_push_of_some _ (Heap.get?_push_of_some _ e)) ?hS0 ?hR
        case hS0 =>
          have hget : ((s.heap.push (new0 w)).push { cls := .type "list_iterator", data := .fields #[.ref l, .int 0 0] }).get? s.heap.objs.size
              = some (new0 w) := Heap.get?_push_of_some _ hS
          exact ⟨[], #[], 0, _, setN_new hget, List.Perm.refl _⟩
        case hR =>
          intro s' L es ep t hm hS' g' hkp
          obtain ⟨h', g2, d', tk', os'⟩ := s'
          have eg : g2 = s.gens := hm.gens
          have ed : d' = s.drawn := hm.drawn
          have eo : os' = s.os := hm.os
          subst eg; subst ed; subst eo
          show wpAny _ _ _ _ _ _
          refine wpAny_pure ?_
          show wpAny _ _ (ret Value.none) _ _ _
          exact wpAny_pure ⟨rfl, h', tk', L, es, ep, t, rfl, hS', g', hkp⟩
      · cases r₂ with
        | error e => exact hr₂
        | ok fl₂ =>
          cases fl₂ with
          | ret r =>
            obtain ⟨rfl, h', tk, L, es, ep, t, rfl, hS', g', hk'⟩ := hr₂
            repeat (any_goals (first | assumption | wp_step))
            exact h _ _ _ _ _ _ hS' g' hk'
          | _ => exact hr₂.elim
    | _ => exact hr.elim

end
end Kb

set_option Elab.async false
set_option linter.all false
set_option maxRecDepth 100000
set_option maxHeartbeats 4000000
/-! K64, sorted(set) of nested tuples: the keys' order is one. -/
namespace Kb
open PySem PySem.Spec PyProof.Rows L2 Evl
theorem perm_map_inv {α β : Type} {f : α → β} : ∀ (L : List α) (vs : List β), vs.Perm (L.map f) → ∃ L1 : List α, L1.Perm L ∧ vs = L1.map f
  | [], vs, h => ⟨[], .refl _, List.Perm.eq_nil h⟩
  | x :: L, vs, h => by
    obtain ⟨a, b, rfl⟩ := List.append_of_mem (h.mem_iff.mpr (List.mem_cons_self (a := f x)))
    have h2 : (a ++ b).Perm (L.map f) := (List.perm_cons (f x)).mp (List.perm_middle.symm.trans h)
    obtain ⟨L1, p1, e1⟩ := perm_map_inv L _ h2
    obtain ⟨l1, l2, rfl, rfl, rfl⟩ := List.append_eq_map_iff.mp e1
    exact ⟨l1 ++ x :: l2, List.perm_middle.trans (p1.cons x), by simp⟩

open PySem.W in
theorem sort_perm {κ : Type} {dd : κ → PyData} (inj : ∀ x y, PySem.W.keyToks (dd x) = PySem.W.keyToks (dd y) → x = y) {l m : List κ} (h : l.Perm m) : l.mergeSort (PySem.W.dataLe false dd) = m.mergeSort (PySem.W.dataLe false dd) := by
  have tot : PySem.W.TotalLe (PySem.W.dataLe false dd) := PySem.W.sortLe_total _ false _
  have anti : ∀ x y, PySem.W.dataLe false dd x y = true → PySem.W.dataLe false dd y x = true → x = y := fun x y h1 h2 => by
    refine inj x y (PyProof.Rows.lex_total (O := itemOrd) _ _ ?_ ?_)
    · have h : (!PyProof.Rows.lexLt itemOrd (PySem.W.keyToks (dd x)) (PySem.W.keyToks (dd y))) = true := h2
      rwa [Bool.not_eq_true'] at h
    · have h : (!PyProof.Rows.lexLt itemOrd (PySem.W.keyToks (dd y)) (PySem.W.keyToks (dd x))) = true := h1
      rwa [Bool.not_eq_true'] at h
  refine PySem.W.Srt.the_of_perm _ (fun a b c => tot.trans a b c) (fun a b => by rcases tot.total a b with e | e <;> simp [e]) anti ((List.mergeSort_perm l _).trans h) (PySem.W.sort_pairwise tot l)
section
variable {P : Program} {w : World} {A : Around} {E : Value → Shared → Prop} {s : Shared}
open PySem.W in
theorem sortedN {κ : Type} {kk : κ → NestedKey} {dd : κ → PyData} {a : Addr} {L : List (Addr × κ)} {es : Array (Int × Value)} {ep : Nat} {t : SetTable} {Q : Value → Shared → Prop}
    (R : SetN w s.heap a (L.map fun p => (p.1, kk p.2)) es ep t) (rd : ∀ p ∈ L, Reads s.heap (.ref p.1) (dd p.2) []) (al : ∀ x y, PySem.W.alike (dd x) (dd y) = true) (tp : ∀ x, ∃ d r, dd x = .tuple (d :: r)) (dp : ∀ x, (dd x).depth ≤ 8)
    (inj : ∀ x y, keyToks (dd x) = keyToks (dd y) → x = y) (hh : A.handled = none) (hu : A.units + 40 < cLine)
    (hQ : ∀ s' p (out : Array Value) (c : Nat) (L' : List (Addr × κ)), (∀ b o, s.heap.get? b = some o → s'.heap.get? b = some o) → s'.gens = s.gens → s'.os = s.os → s.heap.objs.size ≤ p →
      s'.heap.get? p = some (seqObj "list" out c) → out.toList = L'.map (fun q => Value.ref q.1) → L'.Perm L → L'.map (·.2) = (L.map (·.2)).mergeSort (dataLe false dd) → Q (.ref p) s') :
    wpAny (model P w) A (call (.builtin "sorted") [.ref a]) Q E s := by
  obtain ⟨o, ho, hex, hd⟩ := R.ob
  have hsz := rows_size R.rows
  have hfew := R.few
  rw [List.length_map] at hfew hsz
  refine Calls.call_function_entry kind_sorted plain_sorted entry_sorted (args_sorted1 _) ?_
  unfold Builtin.«sorted»
  refine wpAny_bind (m := checkCount "sorted" 1 1 _) (wpAny_pure ?_)
  refine wpAny_bind (collect_set (A := A.in1) hh ⟨o, ho, hex.1, hd⟩ R.fits (by unfold scanBound; omega) R.tab.ris R.led fun s1 vs k1 hz g1 o1 pm => ?_)
  have hes : es.toList.map (·.2) = L.map fun q => Value.ref q.1 := by
    rw [R.rows, List.map_map, List.map_map] <;> rfl
  rw [hes] at pm
  obtain ⟨L1, p1, rfl⟩ := perm_map_inv L vs pm
  have hl1 : L1.length < 64 := by rw [p1.length_eq]; exact hfew
  refine wpAny_bind (wpAny_newList ?_ (by rw [sizeLine_eq, List.length_map]; omega))
  have hoL : (s1.heap.push (seqObj "list" (L1.map fun q => Value.ref q.1).toArray 0)).get? s1.heap.objs.size = some (seqObj "list" (L1.map fun q => Value.ref q.1).toArray 0) := Heap.get?_push_size _ rfl
  have e1 : ∀ l : List (Addr × κ), EachIs (fun (v : Value) (q : Addr × κ) => v = Value.ref q.1) (l.map fun q => Value.ref q.1) l := by
    intro l
    induction l with
    | nil => exact .nil
    | cons q l ih => exact .cons rfl ih
  have e2 : ∀ l : List (Addr × κ), (∀ q ∈ l, q ∈ L) → EachIs (fun (v : Value) (q : Addr × κ) => ∃ as, Reads (s1.heap.push (seqObj "list" (L1.map fun q => Value.ref q.1).toArray 0)) v (dd q.2) as ∧ s1.heap.objs.size ∉ as) (l.map fun q => Value.ref q.1) l := by
    intro l
    induction l with
    | nil => intro _; exact .nil
    | cons q l ih =>
      intro h
      exact .cons ⟨[], PyProof.Rows.Reads.keeps (fun b u e => Heap.get?_push_of_some _ (k1 b u e)) (rd q (h q List.mem_cons_self)), by simp⟩ (ih fun r hr => h r (List.mem_cons_of_mem _ hr))
  have e3 : ∀ {out : List Value} {l : List (Addr × κ)}, EachIs (fun (v : Value) (q : Addr × κ) => v = Value.ref q.1) out l → out = l.map fun q => Value.ref q.1 := by
    intro out l h
    induction h with
    | nil => rfl
    | cons h _ ih => rw [h, ih] <;> rfl
  refine wpAny_bind (wpAny_holding (list_sort_data (s := { s1 with heap := s1.heap.push (seqObj "list" (L1.map fun q => Value.ref q.1).toArray 0) }) (enc := fun q : Addr × κ => dd q.2) hoL (e1 L1) (e2 L1 fun q hq => p1.mem_iff.mp hq)
    (AllAlike.of fun x y => al x.2 y.2) (Sortable.tuples fun q => tp q.2) (by rw [sizeLine_eq]; omega) (fun q _ => by have := dp q.2; simp only [Around.in1_units]; omega) fun out hlen hout => ?_))
  have eo := e3 hout
  obtain ⟨c, hc⟩ := sortedHeap_at (vs := L1.map fun q => Value.ref q.1) (out := out.toArray) hoL
  refine wpAny_pure ⟨_, rfl, hQ _ s1.heap.objs.size out.toArray c (L1.mergeSort (dataLe false fun q => dd q.2)) (fun b u e => ?_) g1 o1 hz hc (by simpa using eo) ((List.mergeSort_perm _ _).trans p1) ?_⟩
  · have q := k1 b u e
    have hlt := Heap.lt_size q
    show (sortedHeap (s1.heap.push (seqObj "list" (L1.map fun q => Value.ref q.1).toArray 0)) s1.heap.objs.size (L1.map fun q => Value.ref q.1) out.toArray).get? b = some u
    rw [sortedHeap_old (Nat.ne_of_lt hlt) (by rw [size_push']; exact Nat.lt_succ_of_lt hlt)]
    exact Heap.get?_push_of_some _ q
  · exact (sort_maps (r := dataLe false fun q : Addr × κ => dd q.2) (s := dataLe false dd) (fun q : Addr × κ => q.2) (fun _ _ _ _ => rfl)).trans (sort_perm inj (p1.map (·.2)))
end
end Kb

set_option Elab.async false
set_option linter.all false
set_option maxRecDepth 100000
set_option maxHeartbeats 4000000
/-! K64, scales and papers as keys: of a set, of a dict. -/
namespace Kb
open PySem PySem.Spec PyProof.Rows L2 Evl
abbrev PK := Str × Pap
def rtK (r : Rt) : NestedKey := .tup [.num r.1, .num r.2]
def papK (p : Pap) : NestedKey := .tup [.num p.first, .num p.last, rtK p.zero, rtK p.share, rtK p.drift, .num p.checked]
def pkK (z : PK) : NestedKey := .tup [.text z.1, papK z.2]
def rtD (r : Rt) : PyData := .tuple [.int r.1, .int r.2]
def papD (p : Pap) : PyData := .tuple [.int p.first, .int p.last, rtD p.zero, rtD p.share, rtD p.drift, .int p.checked]
def pkD (z : PK) : PyData := .tuple [.str z.1, papD z.2]
theorem rtK_depth (r : Rt) : (rtK r).depth = 1 := by simp [rtK, NestedKey.depth, NestedKey.depthAll]
theorem papK_depth (p : Pap) : (papK p).depth = 2 := by simp [papK, NestedKey.depth, NestedKey.depthAll, rtK_depth]
theorem pkK_depth (z : PK) : (pkK z).depth = 3 := by simp [pkK, NestedKey.depth, NestedKey.depthAll, papK_depth]
theorem rtD_depth (r : Rt) : (rtD r).depth = 1 := by simp [rtD, PyData.depth, PyData.depthAll]
theorem papD_depth (p : Pap) : (papD p).depth = 2 := by simp [papD, PyData.depth, PyData.depthAll, rtD_depth]
theorem pkD_depth (z : PK) : (pkD z).depth = 3 := by simp [pkD, PyData.depth, PyData.depthAll, papD_depth]
theorem pkD_alike (x y : PK) : PySem.W.alike (pkD x) (pkD y) = true := by simp [pkD, papD, rtD, PySem.W.alike, PySem.W.alikeAll]
theorem pkK_inj {x y : PK} (h : pkK x = pkK y) : x = y := by
  obtain ⟨s, a, b, ⟨c1, c2⟩, ⟨d1, d2⟩, ⟨e1, e2⟩, f⟩ := x
  obtain ⟨s', a', b', ⟨c1', c2'⟩, ⟨d1', d2'⟩, ⟨e1', e2'⟩, f'⟩ := y
  simp only [pkK, papK, rtK, NestedKey.tup.injEq, List.cons.injEq, NestedKey.text.injEq, NestedKey.num.injEq, and_true] at h
  simp [h]
theorem str_of {x y : Str} (h : x.cps.toList = y.cps.toList) : x = y := PySem.W.str_of_cps h
theorem pkD_toks (x y : PK) (h : PySem.W.keyToks (pkD x) = PySem.W.keyToks (pkD y)) : x = y := by
  obtain ⟨s, a, b, ⟨c1, c2⟩, ⟨d1, d2⟩, ⟨e1, e2⟩, f⟩ := x
  obtain ⟨s', a', b', ⟨c1', c2'⟩, ⟨d1', d2'⟩, ⟨e1', e2'⟩, f'⟩ := y
  simp only [pkD, papD, rtD, PySem.W.keyToks, PySem.W.keyToksAll, List.cons_append, List.nil_append, List.append_nil, List.singleton_append, List.cons.injEq, Sum.inl.injEq, Sum.inr.injEq, and_true, true_and] at h
  have e := str_of h.1
  simp [h, e]
def IsPK (H : Hp) (z : PK) (a : Addr) : Prop := ∃ v, H a = some (.tup [.str z.1, v]) ∧ IsPap H v z.2
theorem IsPK.mono {H H' : Hp} {z : PK} {a : Addr} (t : TT0 H H') (h : IsPK H z a) : IsPK H' z a := let ⟨v, q, q2⟩ := h; ⟨v, t a _ q, q2.mono t⟩
section
variable {X : Cx} {pins : List (Addr × Obj)} {σ : L2.St} {H : Hp} {s : Shared}
theorem rt_raw (I : Inv X pins σ H s) {v : V} {r : Rt} {u : Value} (h : IsRt H v r) (rv : RelV v u) : NestedIs s.heap (rtK r) u ∧ Reads s.heap u (rtD r) [] := by
  obtain ⟨a, rfl, ha⟩ := h
  cases rv
  obtain ⟨its, rvs, ⟨o, ho, hc, n, hd⟩, _⟩ := I.tuple (.inl (.inl ha))
  cases rvs with
  | cons r1 rvs =>
    cases rvs with
    | cons r2 rvs =>
      cases rvs
      obtain ⟨t1, rfl⟩ := r1
      obtain ⟨t2, rfl⟩ := r2
      exact ⟨.tup ho hc hd (.cons (.int _ _) (.cons (.int _ _) .nil)), .tuple ho hc hd (.cons (as := []) (bs := []) (.int _ _) (.cons (as := []) (bs := []) (.int _ _) .nil))⟩
theorem pap_raw (I : Inv X pins σ H s) {v : V} {p : Pap} {u : Value} (h : IsPap H v p) (rv : RelV v u) : NestedIs s.heap (papK p) u ∧ Reads s.heap u (papD p) [] := by
  obtain ⟨a, z, b, d, rfl, ha, hz, hb, hd'⟩ := h
  cases rv
  obtain ⟨its, rvs, ⟨o, ho, hc, n, hd⟩, _⟩ := I.tuple (.inl (.inl ha))
  cases rvs with
  | cons r1 rvs =>
  cases rvs with
  | cons r2 rvs =>
  cases rvs with
  | cons r3 rvs =>
  cases rvs with
  | cons r4 rvs =>
  cases rvs with
  | cons r5 rvs =>
  cases rvs with
  | cons r6 rvs =>
  cases rvs
  obtain ⟨t1, rfl⟩ := r1
  obtain ⟨t2, rfl⟩ := r2
  obtain ⟨t6, rfl⟩ := r6
  have q3 := rt_raw I hz r3
  have q4 := rt_raw I hb r4
  have q5 := rt_raw I hd' r5
  exact ⟨.tup ho hc hd (.cons (.int _ _) (.cons (.int _ _) (.cons q3.1 (.cons q4.1 (.cons q5.1 (.cons (.int _ _) .nil)))))),
    .tuple ho hc hd (.cons (as := []) (bs := []) (.int _ _) (.cons (as := []) (bs := []) (.int _ _) (.cons (as := []) (bs := []) q3.2 (.cons (as := []) (bs := []) q4.2 (.cons (as := []) (bs := []) q5.2 (.cons (as := []) (bs := []) (.int _ _) .nil))))))⟩
theorem pk_raw (I : Inv X pins σ H s) {z : PK} {a : Addr} (h : IsPK H z a) : NIs s.heap (pkK z) a ∧ Reads s.heap (.ref a) (pkD z) [] := by
  obtain ⟨v, ha, hp⟩ := h
  obtain ⟨its, rvs, ⟨o, ho, hc, n, hd⟩, _⟩ := I.tuple (.inl (.inl ha))
  cases rvs with
  | cons r1 rvs =>
  cases rvs with
  | cons r2 rvs =>
  cases rvs
  obtain ⟨t1, rfl⟩ := r1
  have q := pap_raw I hp r2
  exact ⟨⟨.tup ho hc hd (.cons (.text _ _) (.cons q.1 .nil)), by rw [pkK_depth]; decide⟩, .tuple ho hc hd (.cons (as := []) (bs := []) (.str _ _) (.cons (as := []) (bs := []) q.2 .nil))⟩
end

/-! ### the set -/
def SetNO (w : World) (a : Addr) (L : List (Addr × PK)) : HO := .ext fun h => ∃ es ep t, SetN w h a (L.map fun p => (p.1, pkK p.2)) es ep t
def rSetN (K : PySem.W.Frag) (w : World) : List V → Hp → VK → Prop := fun xs H Q => ∃ (l : Addr) (ks : List (Addr × PK)), xs = [V.ref l] ∧ SqL K H l (ks.map fun p => V.ref p.1) ∧ (∀ p ∈ ks, IsPK H p.2 p.1) ∧ (ks.map (·.2)).Nodup ∧ ks.length < 64 ∧
  ∀ a L, H a = none → L.Perm ks → Q (.ref a) (upd H a (SetNO w a L))
def rSortedN (w : World) : List V → Hp → VK → Prop := fun xs H Q => ∃ (a : Addr) (L : List (Addr × PK)), xs = [V.ref a] ∧ H a = some (SetNO w a L) ∧ (∀ p ∈ L, IsPK H p.2 p.1) ∧
  ∀ (L' : List (Addr × PK)) (p : Addr), L'.Perm L → L'.map (·.2) = (L.map (·.2)).mergeSort (PySem.W.dataLe false pkD) → L'.length < 64 → H p = none → Q (.ref p) (upd H p (.lst (L'.map fun q => V.ref q.1)))
theorem refs_of : ∀ {ks : List (Addr × PK)} {us : List Value}, Vals (ks.map fun p => V.ref p.1) us → us = ks.map fun p => Value.ref p.1
  | [], _, .nil => rfl
  | p :: ks, _, .cons r t => by
    cases r
    rw [refs_of t] <;> rfl
theorem to_refs : ∀ (ks : List (Addr × PK)), Vals (ks.map fun p => V.ref p.1) (ks.map fun p => Value.ref p.1)
  | [] => .nil
  | p :: ks => .cons rfl (to_refs ks)
section
variable {X : Cx}
theorem cr_setN (hc : X.calm = true) (hu : X.A.units + 40 < cLine) : CallR X (.type "set") (rSetN X.K X.w) := by
  intro pins s σ H xs us Q I r h
  obtain ⟨l, ks, rfl, hl, hk, hnd, hf, q⟩ := h
  rw [Vals.ref1 r]
  obtain ⟨its, rv, pl, hz⟩ := I.list hl
  have hn : H s.heap.objs.size = none := I.hok.fresh (Nat.le_refl _)
  refine call_setN (P := X.prog) (w := X.w) (ks.map fun p => (p.1, pkK p.2)) (I.ok.hd hc) pl.isList (by rw [List.map_map]; simpa [Function.comp_def] using refs_of rv) (fun p hp => ?_) (by rw [List.length_map]; exact hf) ?_ hu fun h' tk L es ep t R g k => ?_
  · obtain ⟨p0, h0, rfl⟩ := List.mem_map.mp hp
    exact (pk_raw I (hk p0 h0)).1
  · rw [List.map_map]
    refine List.pairwise_map.mpr (List.Pairwise.imp (fun {x y} hne e => hne (pkK_inj e)) (List.pairwise_map.mp hnd))
  · obtain ⟨L1, p1, rfl⟩ := perm_map_inv ks L g
    refine ⟨.ref s.heap.objs.size, upd H s.heap.objs.size (SetNO X.w s.heap.objs.size L1), I.laid (t' := tk) k (Nat.le_refl _) ?_, rfl, q _ L1 hn p1⟩
    obtain ⟨o, ho, _⟩ := R.ob
    exact ⟨⟨es, ep, t, R⟩, ⟨o, ho⟩, fun h1 h2 ⟨es', ep', t', R'⟩ kk => ⟨es', ep', t', R'.keep kk⟩⟩
theorem cr_sortedN (hc : X.calm = true) (hu : X.A.units + 40 < cLine) : CallR X (.builtin "sorted") (rSortedN X.w) := by
  intro pins s σ H vs us Q I r h
  obtain ⟨a, L, rfl, ha, hk, q⟩ := h
  obtain ⟨es, ep, t, R⟩ : ∃ es ep t, SetN X.w s.heap a (L.map fun p => (p.1, pkK p.2)) es ep t := (I.hok a _ ha).1
  rw [Vals.ref1 r]
  refine sortedN R (fun p hp => (pk_raw I (hk p hp)).2) pkD_alike (fun x => ⟨_, _, rfl⟩) (fun x => by rw [pkD_depth]; decide) pkD_toks (I.ok.hd hc) hu fun s' p out c L' k g o hp hg hout pm es' => ?_
  have hfew : L'.length < 64 := by
    have := R.few
    rw [List.length_map] at this
    rw [pm.length_eq]; exact this
  have hlen : (L'.map fun q => V.ref q.1).length ≤ sizeLine := by rw [List.length_map, sizeLine_eq]; omega
  have hn : H p = none := I.hok.fresh hp
  have hv : Vals (L'.map fun q => V.ref q.1) out.toList := by rw [hout]; exact to_refs L'
  have J : Inv X pins σ (upd H p (.lst (L'.map fun q => V.ref q.1))) { s with heap := s'.heap, gens := s'.gens, drawn := s'.drawn, toks := s'.toks } :=
    I.call (ch := []) (Un.laid k hp hn) (I.hok.laid k hp ⟨hlen, out.toList, c, hv, hg⟩) (by rw [g]; exact I.bare) (fun _ z => nomatch z)
  have e : s' = { s with heap := s'.heap, gens := s'.gens, drawn := s'.drawn, toks := s'.toks } := by
    cases s'
    cases s
    cases o
    rfl
  rw [e]
  exact ⟨.ref p, _, J, rfl, q L' p pm es' hfew hn⟩
end

/-! ### the dict -/
def upM (M : PK → Option Int) (z : PK) (n : Int) : PK → Option Int := fun y => if y = z then some n else M y
structure DicN (P : Program) (w : World) (h : Heap) (d : Addr) (ks : List (PK × Addr)) (M : PK → Option Int) (ys : List (NestedKey × Addr × Value)) : Prop where
  few : ys.length ≤ ks.length
  ob : ∃ o es ep, h.get? d = some o ∧ o.ExactDict ∧ o.data = .dict es ep ∧ es.toList = ys.map (entryOfKey (nestedKind P w))
  nd : (ys.map (·.1)).Nodup
  key : ∀ y ∈ ys, ∃ q ∈ ks, y.1 = pkK q.1 ∧ y.2.1 = q.2
  val : ∀ z, RelO ((M z).map V.int) ((atKey ys (pkK z)).map (·.2))
def DictNO (P : Program) (w : World) (d : Addr) (ks : List (PK × Addr)) (M : PK → Option Int) : HO := .ext fun h => (d == sysModules) = false ∧ ∃ ys, DicN P w h d ks M ys
def rGetN (P : Program) (w : World) : V → List V → Hp → VK → Prop := fun x xs H Q => ∃ (d : Addr) (ks : List (PK × Addr)) (M : PK → Option Int) (a : Addr) (z : PK), x = V.ref d ∧ xs = [V.ref a] ∧ H d = some (DictNO P w d ks M) ∧ (∀ q ∈ ks, IsPK H q.1 q.2) ∧ IsPK H z a ∧ Q (oV (M z)) H
def tSetN (P : Program) (w : World) : TSet := fun o i v H Q => ∃ (d : Addr) (ks : List (PK × Addr)) (M : PK → Option Int) (a : Addr) (z : PK) (n : Int), o = V.ref d ∧ i = V.ref a ∧ v = V.int n ∧ H d = some (DictNO P w d ks M) ∧ (∀ q ∈ ks, IsPK H q.1 q.2) ∧ IsPK H z a ∧ ks.length ≤ 1000 ∧
  Q (upd H d (DictNO P w d ((z, a) :: ks) (upM M z n)))
def tNewN (P : Program) (w : World) : TE := fun _ H Q => ∀ p, H p = none → Q (.ref p) (upd H p (DictNO P w p [] fun _ => none))
theorem dicN_ok {P : Program} {w : World} {H : Hp} {h : Heap} {d : Addr} {ks : List (PK × Addr)} {M : PK → Option Int} {ys : List (NestedKey × Addr × Value)} (hd : (d == sysModules) = false) (D : DicN P w h d ks M ys) : ObjOk P w H h d (DictNO P w d ks M) := by
  obtain ⟨o, es, ep, ho, r⟩ := D.ob
  refine ⟨⟨hd, ys, D⟩, ⟨o, ho⟩, fun h1 h2 ⟨q, zs, D'⟩ kk => ⟨q, zs, ?_⟩⟩
  obtain ⟨o', es', ep', ho', r'⟩ := D'.ob
  exact ⟨D'.few, ⟨o', es', ep', kk o' ho', r'⟩, D'.nd, D'.key, D'.val⟩
section
variable {X : Cx} {pins : List (Addr × Obj)} {σ : L2.St} {H : Hp} {s : Shared}
theorem dicN_of (I : Inv X pins σ H s) {d : Addr} {ks : List (PK × Addr)} {M : PK → Option Int} (hd : H d = some (DictNO X.prog X.w d ks M)) (hk : ∀ q ∈ ks, IsPK H q.1 q.2) :
    (d == sysModules) = false ∧ ∃ ys, DicN X.prog X.w s.heap d ks M ys ∧ s.heap.DictOfH (nestedKind X.prog X.w) d ys := by
  obtain ⟨e, ys, D⟩ : (d == sysModules) = false ∧ ∃ ys, DicN X.prog X.w s.heap d ks M ys := (I.hok d _ hd).1
  obtain ⟨o, es, ep, ho, h1, h2, h3⟩ := D.ob
  refine ⟨e, ys, D, o, es, ep, ho, h1, h2, h3, fun y hy => ?_, D.nd⟩
  obtain ⟨q, hq, e1, e2⟩ := D.key y hy
  rw [e1, e2]
  exact (pk_raw I (hk q hq)).1
theorem relO_oV {o : Option Int} {p : Option Value} (h : RelO (o.map V.int) p) : RelV (oV o) (p.getD .none) := by
  cases o with
  | none =>
    have e : p = none := RelO.none_of h
    rw [e] <;> rfl
  | some i =>
    obtain ⟨u, e, r⟩ := RelO.some_of (v := V.int i) h
    rw [e]
    exact r
theorem mt_nget (hu : X.A.units + 40 < cLine) : MtR X "dict.get" (rGetN X.prog X.w) := by
  intro pins s σ H x xs v us Q I rx rxs h
  obtain ⟨d, ks, M, a, z, rfl, rfl, hd, hk, ha, q⟩ := h
  cases rx
  rw [Vals.ref1 rxs]
  obtain ⟨e, ys, D, DD⟩ := dicN_of I hd hk
  exact call_meetsIn PySem.F.slot_dict_get DD.typeIs PySem.F.entry_dict_get (PySem.F.args_dict_get_2 _ _) (meetsH_dict_get (nestedKind X.prog X.w) d a e)
    ⟨show X.A.in1.units + 8 < cLine by simp only [Around.in1_units]; omega, pkK z, ys, (pk_raw I ha).1, DD, ⟨oV (M z), H, I.tok _, relO_oV (D.val z), q⟩⟩
theorem set_nest (hu : X.A.units + 40 < cLine) : PSet X (tSetN X.prog X.w) := by
  intro pins s σ H o i v ov iv u Q I ro ri rv h
  obtain ⟨d, ks, M, a, z, n, rfl, rfl, rfl, hd, hk, ha, hl, q⟩ := h
  cases ro
  cases ri
  obtain ⟨t, rfl⟩ := rv
  obtain ⟨e, ys, D, DD⟩ := dicN_of I hd hk
  have hz := D.few
  refine wpAny_setItem_heap (hsz := by rw [sizeLine_eq]; omega) (show X.A.in1.units + 8 < cLine by simp only [Around.in1_units]; omega) (pk_raw I ha).1 DD fun h' dd' hs => ?_
  refine ⟨_, ?_, q⟩
  obtain ⟨o, es, ep, ho, h2, h3, h4, _, h5⟩ := dd'
  refine d_write I (by rw [hd]; exact True.intro) hs ⟨o, ho⟩ (dicN_ok e (ys := storedH ys (pkK z) a (.int n t)) ⟨?_, ⟨o, es, ep, ho, h2, h3, h4⟩, h5, fun y hy => ?_, fun y => ?_⟩)
  · unfold storedH
    split
    · rw [List.length_map, List.length_cons]; omega
    · rw [List.length_append, List.length_cons]; simp; omega
  · unfold storedH at hy
    split at hy
    · obtain ⟨y0, h0, rfl⟩ := List.mem_map.mp hy
      obtain ⟨q, hq, e1, e2⟩ := D.key y0 h0
      refine ⟨q, List.mem_cons_of_mem _ hq, ?_⟩
      unfold putAt
      split <;> exact ⟨e1, e2⟩
    · rcases List.mem_append.mp hy with hy | hy
      · obtain ⟨q, hq, e1, e2⟩ := D.key y hy
        exact ⟨q, List.mem_cons_of_mem _ hq, e1, e2⟩
      · rw [List.mem_singleton.mp hy]
        exact ⟨(z, a), List.mem_cons_self, rfl, rfl⟩
  · have e := valueAt_pairsH (storedH ys (pkK z) a (.int n t)) (pkK y)
    rw [pairsH_storedH, valueAt_stored] at e
    rw [← e]
    unfold upM
    by_cases hyz : y = z
    · rw [if_pos hyz, if_pos (by rw [hyz])]
      exact (show RelV (V.int n) (Value.int n t) from ⟨t, rfl⟩)
    · rw [if_neg hyz, if_neg (fun e => hyz (pkK_inj e)), valueAt_pairsH]
      exact D.val y
theorem pe_nnew {pos : Pos} : PE X (.Dict [] [] pos) (tNewN X.prog X.w) := ⟨fun pins s σ H Q I h =>
  wpAny_Dict_empty ⟨.ref s.heap.objs.size, _, I.laid (a := s.heap.objs.size) (o := DictNO X.prog X.w s.heap.objs.size [] fun _ => none) (t' := s.toks) (fun _ _ q => Heap.get?_push_of_some _ q) (Nat.le_refl _)
    (dicN_ok (beq_eq_false_iff_ne.mpr (Ne.symm (Nat.ne_of_lt I.big))) (ys := []) ⟨Nat.zero_le _, ⟨_, #[], 0, Heap.get?_push_size _ rfl, ⟨rfl, rfl, rfl⟩, rfl, rfl⟩, List.nodup_nil, fun y hy => (nomatch hy), fun z => True.intro⟩), rfl, h _ (I.hok.fresh (Nat.le_refl _))⟩⟩
end
def tNGet (P : Program) (w : World) (td ty : TE) : TE := fun σ H Q => td σ H fun x H1 => (∃ (d : Addr) (ks : List (PK × Addr)) (M : PK → Option Int), x = V.ref d ∧ H1 d = some (DictNO P w d ks M)) ∧ ty σ H1 fun y H2 => rGetN P w x [y] H2 Q
section
variable {X : Cx} {o e : Expr} {apos cpos : Pos} {td ty : TE}
theorem pe_nget {P : Program} {w : World} (hP : X.prog = P) (hw : X.w = w) (hu : X.A.units + 40 < cLine) (ho : PE X o td) (he : PE X e ty) (m : M1 X o "get" apos e cpos := by exact ⟨by rfl, by rfl, by rfl, by rfl⟩) : PE X (.Call (.Attribute o "get" apos) [e] [] cpos) (tNGet P w td ty) := by
  subst hP hw
  refine ⟨fun pins s σ H Q I h => ?_⟩
  refine wpAny_Call_method m.base m.few m.line PySem.F.plainAttrs_dict PySem.F.slot_dict_get PySem.F.type_dict_get (thn (ho.run pins s σ H _ I h) fun u s1 ⟨x, H1, I1, rx, ⟨d, ks, M, ex, hd⟩, q1⟩ => ?_)
  subst ex
  obtain rfl : u = Value.ref d := rx
  obtain ⟨_, ys, D⟩ : (d == sysModules) = false ∧ ∃ ys, DicN X.prog X.w s1.heap d ks M ys := (I1.hok d _ hd).1
  obtain ⟨ob, es, ep, hob, h2, _⟩ := D.ob
  refine ⟨⟨ob, hob, h2.1⟩, fun b q => by cases q; exact ⟨ob, hob, h2.2.1⟩, ?_⟩
  rw [m.trees]
  refine Calls.callWith_builtin rfl (Calls.evalArgs_plain (Calls.spliced_cons (thn (he.run pins s1 σ H1 _ I1 q1) fun iv s2 ⟨y, H2, I2, ry, q2⟩ => Calls.spliced_nil ?_)))
  exact mt_nget hu pins s2 σ H2 (.ref d) [y] (.ref d) [iv] Q I2 rfl (.cons ry .nil) q2
end
theorem hu_far {k : Nat} {A : Around} (r : Room k A) : A.units + 40 < cLine := by
  have := r.un
  omega
end Kb

set_option Elab.async false
set_option linter.all false
set_option maxRecDepth 100000
set_option maxHeartbeats 4000000
/-! K64, drawer_of. -/
namespace Kb
open PySem PySem.Spec PyProof.Rows L2 Evl TL
section
variable {P : Program} {w : World} {K : PySem.W.Frag} {mg : Str → Option Value} {base : Heap} {f aK a1 aL C : Addr} {fd : FuncData}
/-- until when each paper is, behind these recalls -/
def untl (rs : List (PK × Int)) : PK → Option Int := rs.foldl (fun M r => upM M r.1 (earl (M r.1) r.2)) fun _ => none
theorem untl_snoc (rs : List (PK × Int)) (r : PK × Int) : untl (rs ++ [r]) = upM (untl rs) r.1 (earl (untl rs r.1) r.2) := by
  unfold untl
  rw [List.foldl_append]
  rfl
def IsRow (H : Hp) (v : V) (r : PK × Option Int) : Prop := ∃ a u, v = .ref a ∧ H a = some (.tup [.str r.1.1, u, oV r.2]) ∧ IsPap H u r.1.2
theorem IsRow.mono {H H' : Hp} {v : V} {r : PK × Option Int} (t : TT0 H H') (h : IsRow H v r) : IsRow H' v r := let ⟨a, u, e, q, q2⟩ := h; ⟨a, u, e, t a _ q, q2.mono t⟩
abbrev IsPT (H : Hp) (v : V) (z : PK) : Prop := IsTail H v (.paper z.1 z.2)
abbrev IsRT (H : Hp) (v : V) (r : PK × Int) : Prop := IsTail H v (.recall r.1.1 r.1.2 r.2)
theorem pts_list {H : Hp} : ∀ {xs : List V} {zs : List PK}, All2 (IsPT H) xs zs → ∃ ks : List (Addr × PK), xs = ks.map (fun p => V.ref p.1) ∧ zs = ks.map (·.2) ∧ ∀ p ∈ ks, IsPK H p.2 p.1
  | _, _, .nil => ⟨[], rfl, rfl, fun p hp => nomatch hp⟩
  | _, _, .cons (x := z) ⟨a, as, e, hA, hB⟩ t => by
    obtain ⟨ks, h1, h2, h3⟩ := pts_list t
    obtain ⟨u, rfl, hu⟩ := hB
    refine ⟨(a, z) :: ks, by rw [e, h1]; rfl, by rw [h2]; rfl, fun p hp => ?_⟩
    rcases List.mem_cons.mp hp with rfl | hp
    · exact ⟨u, hA, hu⟩
    · exact h3 p hp
def ZOk (z : PK) : Prop := ScOk z.1 ∧ PapOk z.2
abbrev s_drawer_of : Stmt := topS 26
theorem sc_drawer_of : FnScope ["papers", "recalls", "scale", "paper", "untils", "day", "different"] ["papers", "recalls"] (defScope s_drawer_of) := ⟨rfl, rfl, rfl, by decide +kernel, rfl, by decide +kernel, by decide +kernel⟩
abbrev rowsOf (zs : List PK) (rs : List (PK × Int)) : List (PK × Option Int) := (zs.mergeSort (PySem.W.dataLe false pkD)).map fun z => (z, untl rs z)
def spDrawer : Sp := fun vs H Q _ => ∃ (la lb : Addr) (xs ys : List V) (zs : List PK) (rs : List (PK × Int)), vs = [.ref la, .ref lb] ∧ H la = some (.lst xs) ∧ All2 (IsPT H) xs zs ∧ H lb = some (.lst ys) ∧ All2 (IsRT H) ys rs ∧
  (∀ z ∈ zs, ZOk z) ∧ (∀ r ∈ rs, ZOk r.1 ∧ DayOk r.2) ∧ zs.Nodup ∧ zs.length ≤ 12 ∧ rs.length ≤ 30 ∧
  ∀ q ts H', Ex H H' → H' q = some (.tup ts) → All2 (IsRow H') ts (rowsOf zs rs) → Q (.ref q) H'
theorem ok_drawer_of (F : FnP K "drawer_of" "drawer_of" s_drawer_of f fd) (T : Tx K w mg aK a1 aL) (g_check_scale : Fd P w K mg base "check_scale" 2 ["text"] spCheckScale) (g_check_paper : Fd P w K mg base "check_paper" 4 ["paper"] spCheckPaper)
    (g_check_day : Fd P w K mg base "check_day" 2 ["day"] spCheckDay) (g_earlier : Fd P w K mg base "earlier" 1 ["until", "day"] spEarlier) :
    FnOk P w K mg base CX0 5 f fd ["papers", "recalls"] spDrawer := by
  refine F.ok sc_drawer_of (fun vs H Q E h => ?_) (fun cdv A outer s H vs Q E hr h => ⟨_, PSs.nox ((pss_cons (ps_for PassesOwn.never rfl (pi_list (pv 0)) (pg_tup rfl (pgs_cons (pg_name (i := 2) sc_drawer_of.nd rfl (Or.inl rfl)) (pgs_cons (pg_name (i := 3) sc_drawer_of.nd rfl (Or.inl rfl)) pgs_nil))) (pss_cons (ps_expr (pe_fd g_check_scale (rm hr) rfl (pa_cons (pv 2) pa_nil)))
      (pss_one (ps_expr (pe_fd g_check_paper (rm hr) rfl (pa_cons (pv 3) pa_nil))))))
      (pss_cons (ps_set (i := 4) sc_drawer_of.nd rfl (Or.inr rfl) pe_nnew)
      (pss_cons (ps_for PassesOwn.never rfl (pi_list (pv 1)) (pg_tup rfl (pgs_cons (pg_name (i := 2) sc_drawer_of.nd rfl (Or.inl rfl)) (pgs_cons (pg_name (i := 3) sc_drawer_of.nd rfl (Or.inl rfl)) (pgs_cons (pg_name (i := 5) sc_drawer_of.nd rfl (Or.inl rfl)) pgs_nil)))) (pss_cons (ps_expr (pe_fd g_check_scale (rm hr) rfl (pa_cons (pv 2) pa_nil)))
      (pss_cons (ps_expr (pe_fd g_check_paper (rm hr) rfl (pa_cons (pv 3) pa_nil)))
      (pss_cons (ps_expr (pe_fd g_check_day (rm hr) rfl (pa_cons (pv 5) pa_nil)))
      (pss_one (ps_asg (pe_fd g_earlier (rm hr) rfl (pa_cons (pe_nget (P := P) (w := w) rfl rfl (hu_far hr) (pv 4) (pe_tup (pa_cons (pv 2) (pa_cons (pv 3) pa_nil)))) (pa_cons (pv 5) pa_nil))) (pg_sub (pv 4) (pe_tup (pa_cons (pv 2) (pa_cons (pv 3) pa_nil))) (set_nest (hu_far hr)))))))))
      (pss_cons (ps_set (i := 6) sc_drawer_of.nd rfl (Or.inl rfl) (pe_callB (cr_sortedN rfl (hu_far hr)) (by rfl) T.b_sorted (by decide +kernel) (pa_cons (pe_callTy (cr_setN rfl (hu_far hr)) (by rfl) T.b_set (by decide +kernel) (pa_cons (pv 0) pa_nil)) pa_nil)))
      (pss_cons (ps_if (pt_cmpR op_gt (pe_callB call_len_seq (by rfl) T.b_len PySem.boot_len (pa_cons (pv 6) pa_nil)) (pe_gi rfl T.m_MAX_PAPERS) (nomark _)) (pss_one ps_never) pss_nil)
      (pss_one (ps_ret (pe_callTy call_tuple_of (by rfl) T.b_tuple (by decide +kernel) (pa_cons (pe_lc (own := [("scale", 2), ("paper", 3)]) rfl sc_drawer_of.nd (pi_list (pv 6)) (blkOk_by (own := [("scale", 2), ("paper", 3)]) (N := ["papers", "recalls", "scale", "paper", "untils", "day", "different"]) (sc := defScope s_drawer_of) (by decide +kernel)) (fun _ _ _ _ _ => (pg_tupK (K := K) (n := 2) rfl rfl (pgs_cons (pg_name (i := 2) sc_drawer_of.nd rfl (Or.inl rfl)) (pgs_cons (pg_name (i := 3) sc_drawer_of.nd rfl (Or.inl rfl)) pgs_nil)))) (fun _ _ _ _ _ => pts_nil) (fun _ _ _ _ _ => (pe_tup (pa_cons (pv 2) (pa_cons (pv 3) (pa_cons (pe_nget (P := P) (w := w) rfl rfl (hu_far hr) (pv 4) (pe_tup (pa_cons (pv 2) (pa_cons (pv 3) pa_nil)))) pa_nil)))))) pa_nil)))))))))), ?_⟩)
  · obtain ⟨la, lb, xs, ys, zs, rs, rfl, _⟩ := h
    rfl
  · obtain ⟨la, lb, xs, ys, zs, rs, rfl, hla, hxs, hlb, hys, okz, okr, nd, l12, l30, h⟩ := h
    have lx := hxs.len
    have ly := hys.len
    refine ⟨_, rfl, la, rfl, ⟨_, SqL.of hla⟩, ?_⟩
    refine for_list (K := K) (a := la) (xs := xs) (fun i σ' H' => ∃ u v, σ' = [some (.ref la), some (.ref lb), u, v, none, none, none] ∧ Ex H H')
      ⟨none, none, rfl, Ex.refl _⟩ (fun i σ' H' _ ⟨_, _, _, e⟩ => SqL.of (e la _ hla)) ?_ ?_
    · rintro i y σ' H' hi ⟨u, v, rfl, eH⟩
      obtain ⟨z, hz, a, as, rfl, hA, r, rfl, hr2⟩ := hxs.get hi
      have oz := okz z (List.mem_of_getElem? hz)
      refine ⟨_, _, rfl, SqT.of (eH _ _ hA), rfl, _, _, rfl, _, _, rfl, rfl, ?_⟩
      exact ⟨_, rfl, z.1, rfl, oz.1, fun H2 e2 => ⟨_, rfl, r, z.2, rfl, hr2.mono (TT0.of (eH.trans e2)), oz.2, fun H3 e3 => ⟨_, _, rfl, (eH.trans e2).trans e3⟩⟩⟩
    · rintro σ' H1 ⟨u, v, rfl, e1⟩
      refine fun d hd => ?_
      have hd0 := fresh_back e1 hd
      have e2 := e1.trans (Ex.new (o := DictNO P w d [] fun _ => none) hd)
      refine ⟨_, rfl, lb, rfl, ⟨_, SqL.of (e2 lb _ hlb)⟩, ?_⟩
      refine for_list (K := K) (a := lb) (xs := ys) (fun i σ' H' => ∃ u v t ks, σ' = [some (.ref la), some (.ref lb), u, v, some (.ref d), t, none] ∧ Ex H H' ∧ H' d = some (DictNO P w d ks (untl (rs.take i))) ∧ ks.length ≤ i ∧ ∀ q ∈ ks, IsPK H' q.1 q.2)
        ⟨_, _, _, [], rfl, e2, upd_same, Nat.le_refl _, fun q hq => nomatch hq⟩ (fun i σ' H' _ ⟨_, _, _, _, _, e, _⟩ => SqL.of (e lb _ hlb)) ?_ ?_
      · rintro i y σ' H' hi ⟨u, v, t, ks, rfl, eH, hD, hl, hk⟩
        obtain ⟨z, hz, a, as, rfl, hA, r, rfl, hr2⟩ := hys.get hi
        obtain ⟨oz, od⟩ := okr z (List.mem_of_getElem? hz)
        have hil : i < rs.length := (List.getElem?_eq_some_iff.mp hz).1
        refine ⟨_, _, rfl, SqT.of (eH _ _ hA), rfl, _, _, rfl, _, _, rfl, _, _, rfl, rfl, ?_⟩
        refine ⟨_, rfl, z.1.1, rfl, oz.1, fun H2 e2 => ⟨_, rfl, r, z.1.2, rfl, hr2.mono (TT0.of (eH.trans e2)), oz.2, fun H3 e3 => ⟨_, rfl, z.2, rfl, od.1, od.2, ?_⟩⟩⟩
        have D3 : H3 d = some (DictNO P w d ks (untl (rs.take i))) := e3 d _ (e2 d _ hD)
        have r3 : IsPap H3 r z.1.2 := hr2.mono (TT0.of ((eH.trans e2).trans e3))
        have k3 : ∀ q ∈ ks, IsPK H3 q.1 q.2 := fun q hq => (hk q hq).mono (TT0.of (e2.trans e3))
        refine ⟨_, rfl, ⟨d, ks, _, rfl, D3⟩, _, rfl, _, rfl, by show 2 ≤ sizeLine; decide, fun p hp => ?_⟩
        have e4 := Ex.new (o := .tup [.str z.1.1, r]) hp
        refine ⟨d, ks, _, p, z.1, rfl, rfl, e4 d _ D3, fun q hq => (k3 q hq).mono (TT0.of e4), ⟨r, upd_same, r3.mono (TT0.of e4)⟩, _, rfl, _, _, rfl, _, rfl, _, rfl, _, rfl, by show 2 ≤ sizeLine; decide, fun p2 hp2 => ?_⟩
        have e5 := Ex.new (o := .tup [.str z.1.1, r]) hp2
        have D5 := e5 d _ (e4 d _ D3)
        have tu := TT0.upd (o := DictNO P w d ((z.1, p2) :: ks) (upM (untl (rs.take i)) z.1 (earl (untl (rs.take i) z.1) z.2))) (a := d) (H := upd (upd H3 p (.tup [.str z.1.1, r])) p2 (.tup [.str z.1.1, r])) fun zs q => by
          rw [D5] at q
          cases q
        have k5 : ∀ q ∈ (z.1, p2) :: ks, IsPK (upd (upd H3 p (.tup [.str z.1.1, r])) p2 (.tup [.str z.1.1, r])) q.1 q.2 := fun q hq => by
          rcases List.mem_cons.mp hq with rfl | hq
          · exact ⟨r, upd_same, r3.mono (TT0.of (e4.trans e5))⟩
          · exact (k3 q hq).mono (TT0.of (e4.trans e5))
        refine ⟨d, ks, _, p2, z.1, _, rfl, rfl, rfl, D5, fun q hq => k5 q (List.mem_cons_of_mem _ hq), k5 _ List.mem_cons_self, by omega, ?_⟩
        refine ⟨_, _, _, (z.1, p2) :: ks, rfl, (((eH.trans e2).trans e3).trans (e4.trans e5)).mut hd0, ?_, by rw [List.length_cons]; omega, fun q hq => (k5 q hq).mono tu⟩
        rw [take_snoc hz, untl_snoc]
        exact upd_same
      · rintro σ' H2 ⟨u, v, t, ks, rfl, eH, hD, hl, hk⟩
        have e9 : rs.take ys.length = rs := by rw [ly, List.take_length]
        rw [e9] at hD
        obtain ⟨ps, rfl, rfl, hps⟩ := pts_list hxs
        rw [List.length_map] at l12
        refine ⟨_, rfl, la, ps, rfl, SqL.of (eH la _ hla), fun p hp => (hps p hp).mono (TT0.of eH), nd, by omega, fun S L hS pm => ?_⟩
        have e3 := Ex.new (o := SetNO w S L) hS
        refine ⟨S, L, rfl, upd_same, fun p hp => (hps p (pm.mem_iff.mp hp)).mono (TT0.of (eH.trans e3)), fun L' p pm2 hsort _ hp => ?_⟩
        have e4 := Ex.new (o := .lst (L'.map fun q => V.ref q.1)) hp
        have l' : L'.length = ps.length := by rw [pm2.length_eq, pm.length_eq]
        refine ⟨_, rfl, p, _, rfl, .inl (SqL.of upd_same), _, _, rfl, rfl, _, rfl, dF (by rw [List.length_map]; omega) ?_⟩
        have e04 := (eH.trans e3).trans e4
        have D4 := e4 d _ (e3 d _ hD)
        have k4 : ∀ q ∈ ks, IsPK _ q.1 q.2 := fun q hq => (hk q hq).mono (TT0.of (e3.trans e4))
        have p4 : ∀ q ∈ L', IsPK _ q.2 q.1 := fun q hq => (hps q (pm.mem_iff.mp (pm2.mem_iff.mp hq))).mono (TT0.of e04)
        refine ⟨_, rfl, p, rfl, ⟨_, SqL.of upd_same⟩, fun D hDn => lc_walk (wk_list (K := K) (SqL.of upd_same)) (by rw [List.length_map]; omega) (fun _ => true)
          (fun i y H6 => ∃ q, L'[i]? = some q ∧ IsRow H6 y (q.2, untl rs q.2)) (fun i y H6 H7 ⟨q, a, b⟩ t => ⟨q, a, b.mono t⟩) hDn (fun i y H6 Q1 Q2 hi it e6 q1 q2 => ?_) (fun ts H6 e6 hz hk6 => ?_)⟩
        · rw [List.getElem?_map] at it
          obtain ⟨q, hq, rfl⟩ := Option.map_eq_some_iff.mp it
          obtain ⟨u2, hu2, hp2⟩ := p4 q (List.mem_of_getElem? hq)
          have hp6 := hp2.mono (TT0.of e6)
          refine ⟨_, _, rfl, SqT.of (e6 _ _ hu2), rfl, _, _, rfl, _, _, rfl, rfl, rfl, _, rfl, _, rfl, _, rfl, ⟨d, ks, _, rfl, e6 d _ D4⟩, _, rfl, _, rfl, by show 2 ≤ sizeLine; decide, fun p5 hp5 => ?_⟩
          have e7 := Ex.new (o := .tup [.str q.2.1, u2]) hp5
          refine ⟨d, ks, _, p5, q.2, rfl, rfl, e7 d _ (e6 d _ D4), fun y hy => (k4 y hy).mono (TT0.of (e6.trans e7)), ⟨u2, upd_same, hp6.mono (TT0.of e7)⟩, by show 3 ≤ sizeLine; decide, fun p8 hp8 => ?_⟩
          have e8 := Ex.new (o := .tup [.str q.2.1, u2, oV (untl rs q.2)]) hp8
          exact q1 rfl _ _ (e7.trans e8) ⟨q, hq, p8, u2, rfl, upd_same, hp6.mono (TT0.of (e7.trans e8))⟩
        · have a6 := hk6.all (S := fun y (q : Addr × PK) => IsRow H6 y (q.2, untl rs q.2)) (xs := L') (by rw [List.length_map]; exact Nat.le_refl _) fun i y q hq ⟨q', a, b⟩ => by
            rw [hq] at a
            cases a
            exact b
          rw [List.length_map, List.take_length] at a6
          refine ⟨D, ts, rfl, .inl ⟨SqL.of hz, fun l hl2 => ?_⟩⟩
          have e10 := Ex.new (o := .tup ts) hl2
          refine h l ts _ ((e04.trans e6).trans e10) upd_same ?_
          have a7 : All2 (IsRow (upd H6 l (.tup ts))) ts (L'.map fun q => (q.2, untl rs q.2)) := by
            have key : ∀ {us : List V} {M : List (Addr × PK)}, All2 (fun y (q : Addr × PK) => IsRow H6 y (q.2, untl rs q.2)) us M → All2 (IsRow (upd H6 l (.tup ts))) us (M.map fun q => (q.2, untl rs q.2)) := by
              intro us M hh
              induction hh with
              | nil => exact .nil
              | cons a _ ih => exact .cons (a.mono (TT0.of e10)) ih
            exact key a6
          have ee : (L'.map fun q => (q.2, untl rs q.2)) = rowsOf (ps.map (·.2)) rs := by
            have s1 : (L.map (·.2)).mergeSort (PySem.W.dataLe false pkD) = (ps.map (·.2)).mergeSort (PySem.W.dataLe false pkD) := sort_perm pkD_toks (pm.map (·.2))
            unfold rowsOf
            rw [← s1, ← hsort, List.map_map]
            rfl
          rw [← ee]
          exact a7
end
end Kb

set_option Elab.async false
set_option linter.all false
set_option maxRecDepth 100000
set_option maxHeartbeats 4000000
/-! K64, one evidence only; _law_drawer. -/
namespace Kb
open PySem PySem.Spec PyProof.Rows L2 Evl TL
theorem Evid.uniq {rs : List Rec} {a b : List Ent} (A : Evid rs a) (B : Evid rs b) (ok : ∀ e, Pres rs e → e.Ok) : a = b := by
  have e := one_list A.up B.up A.nd B.nd fun t => by
    rw [List.mem_map, List.mem_map]
    exact ⟨fun ⟨e, h, q⟩ => ⟨e, (B.mem e).mpr ((A.mem e).mp h), q⟩, fun ⟨e, h, q⟩ => ⟨e, (A.mem e).mpr ((B.mem e).mp h), q⟩⟩
  have key : ∀ {l m : List Ent}, (∀ e ∈ l, e.Ok) → (∀ e ∈ m, e.Ok) → l.map entText = m.map entText → l = m := by
    intro l
    induction l with
    | nil =>
      intro m _ _ h
      cases m with
      | nil => rfl
      | cons y m => cases h
    | cons x l ih =>
      intro m h1 h2 h
      cases m with
      | nil => cases h
      | cons y m =>
        rw [List.map_cons, List.map_cons] at h
        injection h with q1 q2
        rw [entText_inj (h1 x List.mem_cons_self) (h2 y List.mem_cons_self) q1, ih (fun e he => h1 e (List.mem_cons_of_mem _ he)) (fun e he => h2 e (List.mem_cons_of_mem _ he)) q2]
  exact key (fun e h => ok e ((A.mem e).mp h)) (fun e h => ok e ((B.mem e).mp h)) e
def papersOf : List Ent → List PK
  | [] => []
  | .paper s p :: es => (s, p) :: papersOf es
  | _ :: es => papersOf es
def recallsOf : List Ent → List (PK × Int)
  | [] => []
  | .recall s p d :: es => ((s, p), d) :: recallsOf es
  | _ :: es => recallsOf es
theorem papers_filter : ∀ es : List Ent, (es.filter fun e : Ent => decide (e.kind = ("paper" : Str))) = (papersOf es).map fun z : PK => Ent.paper z.1 z.2
  | [] => rfl
  | .paper s p :: es => by
    have h : (fun e : Ent => decide (e.kind = ("paper" : Str))) (Ent.paper s p) = true := show decide (("paper" : Str) = ("paper" : Str)) = true by decide +kernel
    have e := List.filter_cons_of_pos (p := fun e : Ent => decide (e.kind = ("paper" : Str))) (a := Ent.paper s p) (l := es) h
    rw [e, papers_filter es]
    rfl
  | .recall s p d :: es => by
    have h : ¬ (fun e : Ent => decide (e.kind = ("paper" : Str))) (Ent.recall s p d) = true := show ¬ decide (("recall" : Str) = ("paper" : Str)) = true by decide +kernel
    have e := List.filter_cons_of_neg (p := fun e : Ent => decide (e.kind = ("paper" : Str))) (a := Ent.recall s p d) (l := es) h
    rw [e, papers_filter es]
    rfl
  | .weighing s d l r :: es => by
    have h : ¬ (fun e : Ent => decide (e.kind = ("paper" : Str))) (Ent.weighing s d l r) = true := show ¬ decide (("weighing" : Str) = ("paper" : Str)) = true by decide +kernel
    have e := List.filter_cons_of_neg (p := fun e : Ent => decide (e.kind = ("paper" : Str))) (a := Ent.weighing s d l r) (l := es) h
    rw [e, papers_filter es]
    rfl
  | .known l r :: es => by
    have h : ¬ (fun e : Ent => decide (e.kind = ("paper" : Str))) (Ent.known l r) = true := show ¬ decide (("known" : Str) = ("paper" : Str)) = true by decide +kernel
    have e := List.filter_cons_of_neg (p := fun e : Ent => decide (e.kind = ("paper" : Str))) (a := Ent.known l r) (l := es) h
    rw [e, papers_filter es]
    rfl
  | .find l g :: es => by
    have h : ¬ (fun e : Ent => decide (e.kind = ("paper" : Str))) (Ent.find l g) = true := show ¬ decide (("find" : Str) = ("paper" : Str)) = true by decide +kernel
    have e := List.filter_cons_of_neg (p := fun e : Ent => decide (e.kind = ("paper" : Str))) (a := Ent.find l g) (l := es) h
    rw [e, papers_filter es]
    rfl
theorem recalls_filter : ∀ es : List Ent, (es.filter fun e : Ent => decide (e.kind = ("recall" : Str))) = (recallsOf es).map fun r : PK × Int => Ent.recall r.1.1 r.1.2 r.2
  | [] => rfl
  | .paper s p :: es => by
    have h : ¬ (fun e : Ent => decide (e.kind = ("recall" : Str))) (Ent.paper s p) = true := show ¬ decide (("paper" : Str) = ("recall" : Str)) = true by decide +kernel
    have e := List.filter_cons_of_neg (p := fun e : Ent => decide (e.kind = ("recall" : Str))) (a := Ent.paper s p) (l := es) h
    rw [e, recalls_filter es]
    rfl
  | .recall s p d :: es => by
    have h : (fun e : Ent => decide (e.kind = ("recall" : Str))) (Ent.recall s p d) = true := show decide (("recall" : Str) = ("recall" : Str)) = true by decide +kernel
    have e := List.filter_cons_of_pos (p := fun e : Ent => decide (e.kind = ("recall" : Str))) (a := Ent.recall s p d) (l := es) h
    rw [e, recalls_filter es]
    rfl
  | .weighing s d l r :: es => by
    have h : ¬ (fun e : Ent => decide (e.kind = ("recall" : Str))) (Ent.weighing s d l r) = true := show ¬ decide (("weighing" : Str) = ("recall" : Str)) = true by decide +kernel
    have e := List.filter_cons_of_neg (p := fun e : Ent => decide (e.kind = ("recall" : Str))) (a := Ent.weighing s d l r) (l := es) h
    rw [e, recalls_filter es]
    rfl
  | .known l r :: es => by
    have h : ¬ (fun e : Ent => decide (e.kind = ("recall" : Str))) (Ent.known l r) = true := show ¬ decide (("known" : Str) = ("recall" : Str)) = true by decide +kernel
    have e := List.filter_cons_of_neg (p := fun e : Ent => decide (e.kind = ("recall" : Str))) (a := Ent.known l r) (l := es) h
    rw [e, recalls_filter es]
    rfl
  | .find l g :: es => by
    have h : ¬ (fun e : Ent => decide (e.kind = ("recall" : Str))) (Ent.find l g) = true := show ¬ decide (("find" : Str) = ("recall" : Str)) = true by decide +kernel
    have e := List.filter_cons_of_neg (p := fun e : Ent => decide (e.kind = ("recall" : Str))) (a := Ent.find l g) (l := es) h
    rw [e, recalls_filter es]
    rfl
theorem all2_map {α β : Type} {R : V → β → Prop} {g : α → β} : ∀ {xs : List V} {l : List α}, All2 R xs (l.map g) → All2 (fun v x => R v (g x)) xs l
  | _, [], .nil => .nil
  | _, _ :: _, .cons a t => .cons a (all2_map t)
theorem Evid.nodup {rs : List Rec} {es : List Ent} (A : Evid rs es) : es.Nodup := List.Pairwise.of_map entText (fun _ _ hne e => hne (congrArg entText e)) A.nd
section
variable {P : Program} {w : World} {K : PySem.W.Frag} {mg : Str → Option Value} {base : Heap} {f aK a1 aL C : Addr} {fd : FuncData}
abbrev s_l_drawer : Stmt := topS 56
theorem sc_l_drawer : FnScope ["_law_book"] ["_law_book"] (defScope s_l_drawer) := ⟨rfl, rfl, rfl, by decide +kernel, rfl, by decide +kernel, by decide +kernel⟩
def spLDrawer (C : Addr) : Sp := fun vs H Q _ => ∃ (x lv ls : Addr) (ps : List Addr) (rs : List Rec) (es : List Ent), vs = [.ref x] ∧ BookAt C H x lv ls ps rs ∧ rs.length ≤ 30 ∧ Evid rs es ∧ es.length ≤ 12 ∧
  ∀ q t ts H', Ex H H' → H' q = some (.tup [.str "drawer", .ref t]) → H' t = some (.tup ts) → All2 (IsRow H') ts (rowsOf (papersOf es) (recallsOf es)) → Q (.ref q) H'
theorem ok_l_drawer (F : FnP K "_law_drawer" "_law_drawer" s_l_drawer f fd) (T : Tx K w mg aK a1 aL) (B : TB K mg C) (mKE : ∃ c, mg "KerbError" = some c) (g_Book_of_kind : Md P w K mg base C "of_kind" 5 ["self", "kind"] (spOfKind C))
    (g_drawer_of : Fd P w K mg base "drawer_of" 5 ["papers", "recalls"] spDrawer) :
    FnOk P w K mg base CX0 6 f fd ["_law_book"] (spLDrawer C) := by
  obtain ⟨cKE, mKE⟩ := mKE
  refine F.ok sc_l_drawer (fun vs H Q E h => ?_) (fun cdv A outer s H vs Q E hr h => ⟨_, PSs.nox (pss_one (ps_try_only (tb := fun _ => tRet (tTup (tCons (tC (.str "drawer")) (tCons (tCall spDrawer [] E0 (tCons (tMeth C "of_kind" (spOfKind C) [] E0 (tVar 0) (tCons (tC (.str "paper")) tNil)) (tCons (tMeth C "of_kind" (spOfKind C) [] E0 (tVar 0) (tCons (tC (.str "recall")) tNil)) tNil))) tNil))))
      (Wout := fun _ _ _ _ => False) (ts := fun _ _ _ => tNever) rfl rfl ⟨rfl, by decide, .inl mKE⟩ takes0
      (fun W pn xe tk _ => pss_one (ps_ret (pe_tup (pa_cons pe_str (pa_cons (pe_fd g_drawer_of (rm hr) rfl (pa_cons (pe_md B.cl (pv 0) g_Book_of_kind (rm hr) (pa_cons pe_str pa_nil)) (pa_cons (pe_md B.cl (pv 0) g_Book_of_kind (rm hr) (pa_cons pe_str pa_nil)) pa_nil))) pa_nil)))))
      (fun _ _ _ _ _ _ _ => pss_never))), ?_⟩)
  · obtain ⟨x, lv, ls, ps, rs, es, rfl, _⟩ := h
    rfl
  · obtain ⟨x, lv, ls, ps, rs, es, rfl, Bk, h30, ev, h12, h⟩ := h
    obtain ⟨dx, hI⟩ := Bk.ins
    have okE : ∀ e, Pres rs e → e.Ok := fun e he => pres_ok Bk he
    refine ⟨_, rfl, x, dx, _, rfl, hI, pf_no _ _ (by decide +kernel) (by decide +kernel), x, "paper", lv, ls, ps, rs, rfl, Bk, h30, by decide +kernel, fun q1 xs es1 H1 hq1 e1 hl1 ev1 hn1 ha1 => ?_⟩
    obtain rfl := ev1.uniq ev okE
    have Bk1 := Bk.ex e1
    obtain ⟨dx1, hI1⟩ := Bk1.ins
    refine ⟨_, rfl, x, dx1, _, rfl, hI1, pf_no _ _ (by decide +kernel) (by decide +kernel), x, "recall", lv, ls, ps, rs, rfl, Bk1, h30, by decide +kernel, fun q2 ys es2 H2 hq2 e2 hl2 ev2 hn2 ha2 => ?_⟩
    obtain rfl := ev2.uniq ev okE
    rw [papers_filter] at ha1
    rw [recalls_filter] at ha2
    have mp : ∀ z ∈ papersOf es2, Ent.paper z.1 z.2 ∈ es2 := fun z hz => by
      have : Ent.paper z.1 z.2 ∈ es2.filter fun e : Ent => decide (e.kind = ("paper" : Str)) := by rw [papers_filter]; exact List.mem_map.mpr ⟨z, hz, rfl⟩
      exact (List.mem_filter.mp this).1
    have mr : ∀ r ∈ recallsOf es2, Ent.recall r.1.1 r.1.2 r.2 ∈ es2 := fun z hz => by
      have : Ent.recall z.1.1 z.1.2 z.2 ∈ es2.filter fun e : Ent => decide (e.kind = ("recall" : Str)) := by rw [recalls_filter]; exact List.mem_map.mpr ⟨z, hz, rfl⟩
      exact (List.mem_filter.mp this).1
    have lp : (papersOf es2).length ≤ es2.length := by
      have h1 := congrArg List.length (papers_filter es2)
      have h2 := List.length_filter_le (fun e : Ent => decide (e.kind = ("paper" : Str))) es2
      rw [List.length_map] at h1
      omega
    have lr : (recallsOf es2).length ≤ es2.length := by
      have h1 := congrArg List.length (recalls_filter es2)
      have h2 := List.length_filter_le (fun e : Ent => decide (e.kind = ("recall" : Str))) es2
      rw [List.length_map] at h1
      omega
    have np : (papersOf es2).Nodup := by
      have : (es2.filter fun e : Ent => decide (e.kind = ("paper" : Str))).Nodup := ev.nodup.filter _
      rw [papers_filter] at this
      exact List.Pairwise.of_map (fun z : PK => Ent.paper z.1 z.2) (fun _ _ hne e => hne (congrArg (fun z : PK => Ent.paper z.1 z.2) e)) this
    refine ⟨q1, q2, xs, ys, papersOf es2, recallsOf es2, rfl, e2 q1 _ hl1, (all2_map ha1).imp fun v z q => q.mono (TT0.of e2), hl2, (all2_map ha2).imp fun v z q => q, fun z hz => ?_, fun r hr => ?_, np, by omega, by omega, fun t ts H3 e3 ht hts => ?_⟩
    · exact okE _ ((ev.mem _).mp (mp z hz))
    · obtain ⟨a, b, c⟩ := okE _ ((ev.mem _).mp (mr r hr))
      exact ⟨⟨a, b⟩, c⟩
    · refine ⟨by show 2 ≤ sizeLine; decide, fun q hq => ?_⟩
      have e4 := Ex.new (o := .tup [.str "drawer", .ref t]) hq
      refine h q t ts _ (((e1.trans e2).trans e3).trans e4) upd_same (e4 t _ ht) (hts.imp fun v r q => q.mono (TT0.of e4))
end
end Kb

set_option Elab.async false
set_option linter.all false
set_option maxRecDepth 100000
set_option maxHeartbeats 4000000
/-! K64, entries as data: what == says of them. -/
namespace Kb
open PySem PySem.Spec PyProof.Rows L2 Evl TL
/-! ### texts that can be shown -/
def OkS (x : Str) : Prop := ∀ c ∈ tl x, c < 0x110000
theorem char_lt (c : Char) : c.toNat < 0x110000 := by
  have h := c.valid
  have h2 : c.toNat < 0xd800 ∨ (0xdfff < c.toNat ∧ c.toNat < 0x110000) := h
  omega
theorem oks_of (s : String) : OkS (Str.ofString s) := by
  intro c hc
  rw [Str.ofString_eq_toList] at hc
  have h2 : c ∈ s.toList.map Char.toNat := by simpa [tl] using hc
  obtain ⟨d, _, rfl⟩ := List.mem_map.mp h2
  exact char_lt d
theorem oks_app {x y : Str} (a : OkS x) (b : OkS y) : OkS (x ++ y) := by
  intro c hc
  have h2 : c ∈ tl x ++ tl y := by
    have : tl (x ++ y) = tl x ++ tl y := by first | exact tl_append .. | simp [tl]
    rwa [this] at hc
  rcases List.mem_append.mp h2 with h | h
  · exact a c h
  · exact b c h
theorem oks_join {t : Nat} {y : Str} (hy : tl y = [t]) (ht : t < 0x110000) {ps : List Str} (h : ∀ p ∈ ps, OkS p) : OkS (Txt.join y ps) := by
  intro c hc
  rw [join_eq, tl_join, hy] at hc
  rcases mem_joinL hc with e | ⟨p, hp, hc⟩
  · omega
  · obtain ⟨q, hq, rfl⟩ := List.mem_map.mp hp
    exact h q hq c hc
theorem strOk_of {x : Str} (h : OkS x) : PyData.strOk x = true := by
  unfold PyData.strOk
  rw [Array.all_eq_true_iff_forall_mem]
  intro c hc
  exact decide_eq_true (h c (by simpa [tl] using hc))
theorem oks_nt (i : Int) : OkS (nt i) := oks_of _
theorem oks_rt (r : Rt) : OkS (rtText r) := by
  unfold rtText
  split
  · exact oks_nt _
  · exact oks_app (oks_app (oks_nt _) (oks_of _)) (oks_nt _)
theorem oks_lots (ls : List Int) : OkS (lotsText ls) := oks_join tl_comma (by decide) fun p hp => by
  obtain ⟨i, _, rfl⟩ := List.mem_map.mp hp
  exact oks_nt i
theorem oks_sc {z : Str} (h : ScOk z) : OkS z := fun c hc => oks_of _ c (h.2.2 c hc)
theorem oks_kind (e : Ent) : OkS e.kind := by cases e <;> exact oks_of _
theorem oks_pap {sc : Str} (p : Pap) (h : OkS sc) : ∀ x ∈ papWords sc p, OkS x := fun x hx => by
  simp only [papWords, List.mem_cons, List.not_mem_nil, or_false] at hx
  rcases hx with rfl | rfl | rfl | rfl | rfl | rfl | rfl
  · exact h
  · exact oks_nt _
  · exact oks_nt _
  · exact oks_rt _
  · exact oks_rt _
  · exact oks_rt _
  · exact oks_nt _
theorem oks_words {e : Ent} (ok : e.Ok) : ∀ x ∈ entWords e, OkS x := fun x hx => by
  cases e with
  | paper sc p => exact oks_pap p (oks_sc ok.1) x hx
  | recall sc p d =>
    rcases List.mem_append.mp hx with h | h
    · exact oks_pap p (oks_sc ok.1) x h
    · rw [List.mem_singleton.mp h]; exact oks_nt _
  | weighing sc d ls r =>
    simp only [entWords, List.mem_cons, List.not_mem_nil, or_false] at hx
    rcases hx with rfl | rfl | rfl | rfl
    · exact oks_sc ok.1
    · exact oks_nt _
    · exact oks_lots _
    · exact oks_rt _
  | known ls r =>
    simp only [entWords, List.mem_cons, List.not_mem_nil, or_false] at hx
    rcases hx with rfl | rfl
    · exact oks_lots _
    · exact oks_rt _
  | find l b =>
    simp only [entWords, List.mem_cons, List.not_mem_nil, or_false] at hx
    rcases hx with rfl | rfl
    · exact oks_nt _
    · split <;> exact oks_of _
theorem oks_text {e : Ent} (ok : e.Ok) : OkS (entText e) := oks_join tl_blank (by decide) fun p hp => by
  rcases List.mem_append.mp hp with h | h
  · rw [List.mem_singleton.mp h]; exact oks_kind e
  · exact oks_words ok p h

/-! ### entries as data -/
def lotsD (ls : List Int) : PyData := .tuple (ls.map .int)
def argsD : Ent → List PyData
  | .paper s p => [.str s, papD p]
  | .recall s p d => [.str s, papD p, .int d]
  | .weighing s d ls r => [.str s, .int d, lotsD ls, rtD r]
  | .known ls r => [lotsD ls, rtD r]
  | .find l b => [.int l, .bool b]
def entD (e : Ent) : PyData := .tuple (.str e.kind :: argsD e)
def tailD (e : Ent) : PyData := .tuple (argsD e)
def oD : Option Int → PyData
  | none => .none
  | some i => .int i
def rowD (r : PK × Option Int) : PyData := .tuple [.str r.1.1, papD r.1.2, oD r.2]
section
variable {K : PySem.W.Frag} {H : Hp}
theorem dp_ints : ∀ ls : List Int, DpAll K H (ls.map V.int) (ls.map PyData.int)
  | [] => .nil
  | i :: ls => .cons (.int i) (dp_ints ls)
theorem dp_rt {v : V} {r : Rt} (h : IsRt H v r) : Dp K H v (rtD r) := by
  obtain ⟨a, rfl, ha⟩ := h
  exact .tup (SqT.of ha) (.cons (.int _) (.cons (.int _) .nil))
theorem dp_lots {v : V} {ls : List Int} (h : IsLots H v ls) : Dp K H v (lotsD ls) := by
  obtain ⟨a, rfl, ha⟩ := h
  exact .tup (SqT.of ha) (dp_ints ls)
theorem dp_pap {v : V} {p : Pap} (h : IsPap H v p) : Dp K H v (papD p) := by
  obtain ⟨a, z, b, d, rfl, ha, hz, hb, hd⟩ := h
  exact .tup (SqT.of ha) (.cons (.int _) (.cons (.int _) (.cons (dp_rt hz) (.cons (dp_rt hb) (.cons (dp_rt hd) (.cons (.int _) .nil))))))
theorem dp_args {e : Ent} {xs : List V} (h : EntArgs H e xs) : DpAll K H xs (argsD e) := by
  cases e with
  | paper s p => obtain ⟨v, rfl, hp⟩ := h; exact .cons (.str _) (.cons (dp_pap hp) .nil)
  | recall s p d => obtain ⟨v, rfl, hp⟩ := h; exact .cons (.str _) (.cons (dp_pap hp) (.cons (.int _) .nil))
  | weighing s d ls r => obtain ⟨u, v, rfl, h1, h2⟩ := h; exact .cons (.str _) (.cons (.int _) (.cons (dp_lots h1) (.cons (dp_rt h2) .nil)))
  | known ls r => obtain ⟨u, v, rfl, h1, h2⟩ := h; exact .cons (dp_lots h1) (.cons (dp_rt h2) .nil)
  | find l b => obtain rfl := h; exact .cons (.int _) (.cons (.bl _) .nil)
theorem dp_ent {v : V} {e : Ent} (h : IsEnt H v e) : Dp K H v (entD e) := by
  obtain ⟨a, xs, rfl, ha, hx⟩ := h
  exact .tup (SqT.of ha) (.cons (.str _) (dp_args hx))
theorem dp_tail {v : V} {e : Ent} (h : IsTail H v e) : Dp K H v (tailD e) := by
  obtain ⟨a, xs, rfl, ha, hx⟩ := h
  exact .tup (SqT.of ha) (dp_args hx)
theorem dp_row {v : V} {r : PK × Option Int} (h : IsRow H v r) : Dp K H v (rowD r) := by
  obtain ⟨a, u, rfl, ha, hp⟩ := h
  refine .tup (SqT.of ha) (.cons (.str _) (.cons (dp_pap hp) (.cons ?_ .nil)))
  cases r.2 with
  | none => exact .non
  | some i => exact .int i
theorem dp_all {α : Type} {R : V → α → Prop} {g : α → PyData} (f : ∀ v x, R v x → Dp K H v (g x)) : ∀ {vs : List V} {xs : List α}, All2 R vs xs → DpAll K H vs (xs.map g)
  | _, _, .nil => .nil
  | _, _, .cons a t => .cons (f _ _ a) (dp_all f t)
theorem dp_strs : ∀ ts : List Str, DpAll K H (ts.map V.str) (ts.map PyData.str)
  | [] => .nil
  | t :: ts => .cons (.str t) (dp_strs ts)
end
theorem lay_ints : ∀ ls : List Int, PyData.canLayAll0 (ls.map .int) = true
  | [] => by simp [PyData.canLayAll0]
  | i :: ls => by simp [PyData.canLayAll0, PyData.canLay0, lay_ints ls]
theorem dep_ints : ∀ ls : List Int, PyData.depthAll (ls.map .int) = 0
  | [] => by simp [PyData.depthAll]
  | i :: ls => by simp [PyData.depthAll, PyData.depth, dep_ints ls]
theorem lay_rt (r : Rt) : (rtD r).canLay0 = true := by simp [rtD, PyData.canLay0, PyData.canLayAll0]
theorem lay_pap (p : Pap) : (papD p).canLay0 = true := by simp [papD, PyData.canLay0, PyData.canLayAll0, lay_rt]
theorem lay_lots (ls : List Int) : (lotsD ls).canLay0 = true := by simp only [lotsD, PyData.canLay0]; exact lay_ints ls
theorem lotsD_depth (ls : List Int) : (lotsD ls).depth = 1 := by simp [lotsD, PyData.depth, dep_ints]
theorem lay_args {e : Ent} (ok : e.Ok) : PyData.canLayAll0 (argsD e) = true := by
  cases e with
  | paper s p => simp [argsD, PyData.canLayAll0, PyData.canLay0, lay_pap, strOk_of (oks_sc ok.1)]
  | recall s p d => simp [argsD, PyData.canLayAll0, PyData.canLay0, lay_pap, strOk_of (oks_sc ok.1)]
  | weighing s d ls r => simp [argsD, PyData.canLayAll0, PyData.canLay0, lay_lots, lay_rt, strOk_of (oks_sc ok.1)]
  | known ls r => simp [argsD, PyData.canLayAll0, PyData.canLay0, lay_lots, lay_rt]
  | find l b => simp [argsD, PyData.canLayAll0, PyData.canLay0]
theorem dep_args (e : Ent) : PyData.depthAll (argsD e) ≤ 2 := by
  cases e <;> simp [argsD, PyData.depthAll, PyData.depth, papD_depth, rtD_depth, lotsD_depth]
theorem lay_ent {e : Ent} (ok : e.Ok) : (entD e).canLay0 = true := by
  simp [entD, PyData.canLay0, PyData.canLayAll0, lay_args ok, strOk_of (oks_kind e)]
theorem entD_depth (e : Ent) : (entD e).depth ≤ 3 := by
  have := dep_args e
  simp only [entD, PyData.depth, PyData.depthAll]
  omega
theorem lay_tail {e : Ent} (ok : e.Ok) : (tailD e).canLay0 = true := by simp only [tailD, PyData.canLay0]; exact lay_args ok
theorem tailD_depth (e : Ent) : (tailD e).depth ≤ 3 := by
  have := dep_args e
  simp only [tailD, PyData.depth]
  omega
theorem lay_row {r : PK × Option Int} (h : ScOk r.1.1) : (rowD r).canLay0 = true := by
  have : (oD r.2).canLay0 = true := by cases r.2 <;> simp [oD, PyData.canLay0]
  simp [rowD, PyData.canLay0, PyData.canLayAll0, lay_pap, strOk_of (oks_sc h), this]
theorem rowD_depth (r : PK × Option Int) : (rowD r).depth ≤ 3 := by
  have : (oD r.2).depth = 0 := by cases r.2 <;> simp [oD, PyData.depth]
  simp [rowD, PyData.depth, PyData.depthAll, papD_depth, this]
theorem lay_map {α : Type} {g : α → PyData} : ∀ {xs : List α}, (∀ x ∈ xs, (g x).canLay0 = true) → PyData.canLayAll0 (xs.map g) = true
  | [], _ => by simp [PyData.canLayAll0]
  | x :: xs, h => by
    simp only [List.map_cons, PyData.canLayAll0, Bool.and_eq_true]
    exact ⟨h x List.mem_cons_self, lay_map fun y hy => h y (List.mem_cons_of_mem _ hy)⟩
theorem dep_map {α : Type} {g : α → PyData} {n : Nat} (h : ∀ x, (g x).depth ≤ n) : ∀ xs : List α, PyData.depthAll (xs.map g) ≤ n
  | [] => by simp [PyData.depthAll]
  | x :: xs => by
    simp only [List.map_cons, PyData.depthAll]
    have := h x
    have := dep_map h xs
    omega
theorem shp {d : PyData} (h : d.canLay0 = true) (hd : d.depth ≤ 10) : SeqAt.shaped d = true := by
  unfold SeqAt.shaped
  rw [h, decide_eq_true (by omega : d.depth ≤ 64)]
  rfl
theorem shp_list {α : Type} {g : α → PyData} {xs : List α} (h : ∀ x ∈ xs, (g x).canLay0 = true) (hd : ∀ x, (g x).depth ≤ 3) : SeqAt.shaped (.list (xs.map g)) = true :=
  shp (by simp only [PyData.canLay0]; exact lay_map h) (by have := dep_map hd xs; simp only [PyData.depth]; omega)
theorem eqv_same {d : PyData} (h : SeqAt.shaped d = true) : PyData.eqv d d = true := SeqAt.eqv_refl d (SeqAt.canLay_of_shaped h)
/-! ### one data, one entry -/
theorem eqv_int {i j : Int} (h : PyData.eqv (.int i) (.int j) = true) : i = j := by simpa [PyData.eqv] using h
theorem eqv_ints : ∀ {l m : List Int}, PyData.eqvAll (l.map .int) (m.map .int) = true → l = m
  | [], [], _ => rfl
  | [], _ :: _, h => by simp [PyData.eqvAll] at h
  | _ :: _, [], h => by simp [PyData.eqvAll] at h
  | i :: l, j :: m, h => by
    rw [List.map_cons, List.map_cons, PySem.W.eqv_all_cons, Bool.and_eq_true] at h
    rw [eqv_int h.1, eqv_ints h.2]
theorem entD_inj {e e' : Ent} (h : PyData.eqv (entD e) (entD e') = true) : e = e' := by
  have k : ∀ {x y : Str}, ¬ x = y → ∀ {ds ds' : List PyData}, PyData.eqv (.tuple (.str x :: ds)) (.tuple (.str y :: ds')) = true → False := fun {x y} hn {ds ds'} h => by
    simp only [PyData.eqv, PyData.eqvAll, Bool.and_eq_true] at h
    exact hn (by simpa using h.1)
  cases e with
  | paper s p =>
    cases e' with
    | paper s' p' =>
      obtain ⟨a, b, ⟨c1, c2⟩, ⟨d1, d2⟩, ⟨e1, e2⟩, f⟩ := p
      obtain ⟨a', b', ⟨c1', c2'⟩, ⟨d1', d2'⟩, ⟨e1', e2'⟩, f'⟩ := p'
      simp [entD, argsD, papD, rtD, PyData.eqv, PyData.eqvAll] at h
      simp [h]
    | recall _ _ _ => exact (k (show ¬ (("paper" : Str) = "recall") by decide +kernel) h).elim
    | weighing _ _ _ _ => exact (k (show ¬ (("paper" : Str) = "weighing") by decide +kernel) h).elim
    | known _ _ => exact (k (show ¬ (("paper" : Str) = "known") by decide +kernel) h).elim
    | find _ _ => exact (k (show ¬ (("paper" : Str) = "find") by decide +kernel) h).elim
  | recall s p d =>
    cases e' with
    | recall s' p' d' =>
      obtain ⟨a, b, ⟨c1, c2⟩, ⟨d1, d2⟩, ⟨e1, e2⟩, f⟩ := p
      obtain ⟨a', b', ⟨c1', c2'⟩, ⟨d1', d2'⟩, ⟨e1', e2'⟩, f'⟩ := p'
      simp [entD, argsD, papD, rtD, PyData.eqv, PyData.eqvAll] at h
      simp [h]
    | paper _ _ => exact (k (show ¬ (("recall" : Str) = "paper") by decide +kernel) h).elim
    | weighing _ _ _ _ => exact (k (show ¬ (("recall" : Str) = "weighing") by decide +kernel) h).elim
    | known _ _ => exact (k (show ¬ (("recall" : Str) = "known") by decide +kernel) h).elim
    | find _ _ => exact (k (show ¬ (("recall" : Str) = "find") by decide +kernel) h).elim
  | weighing s d ls r =>
    cases e' with
    | weighing s' d' ls' r' =>
      obtain ⟨c1, c2⟩ := r
      obtain ⟨c1', c2'⟩ := r'
      simp only [entD, argsD, lotsD, rtD, PyData.eqv, PyData.eqvAll, Bool.and_eq_true, Bool.and_true] at h
      have e1 := eqv_ints h.2.2.2.1
      simp at h
      simp [h, e1]
    | paper _ _ => exact (k (show ¬ (("weighing" : Str) = "paper") by decide +kernel) h).elim
    | recall _ _ _ => exact (k (show ¬ (("weighing" : Str) = "recall") by decide +kernel) h).elim
    | known _ _ => exact (k (show ¬ (("weighing" : Str) = "known") by decide +kernel) h).elim
    | find _ _ => exact (k (show ¬ (("weighing" : Str) = "find") by decide +kernel) h).elim
  | known ls r =>
    cases e' with
    | known ls' r' =>
      obtain ⟨c1, c2⟩ := r
      obtain ⟨c1', c2'⟩ := r'
      simp only [entD, argsD, lotsD, rtD, PyData.eqv, PyData.eqvAll, Bool.and_eq_true, Bool.and_true] at h
      have e1 := eqv_ints h.2.1
      simp at h
      simp [h, e1]
    | paper _ _ => exact (k (show ¬ (("known" : Str) = "paper") by decide +kernel) h).elim
    | recall _ _ _ => exact (k (show ¬ (("known" : Str) = "recall") by decide +kernel) h).elim
    | weighing _ _ _ _ => exact (k (show ¬ (("known" : Str) = "weighing") by decide +kernel) h).elim
    | find _ _ => exact (k (show ¬ (("known" : Str) = "find") by decide +kernel) h).elim
  | find l b =>
    cases e' with
    | find l' b' =>
      simp [entD, argsD, PyData.eqv, PyData.eqvAll] at h
      simp [h]
    | paper _ _ => exact (k (show ¬ (("find" : Str) = "paper") by decide +kernel) h).elim
    | recall _ _ _ => exact (k (show ¬ (("find" : Str) = "recall") by decide +kernel) h).elim
    | weighing _ _ _ _ => exact (k (show ¬ (("find" : Str) = "weighing") by decide +kernel) h).elim
    | known _ _ => exact (k (show ¬ (("find" : Str) = "known") by decide +kernel) h).elim
theorem entD_eqv {e e' : Ent} (ok : e.Ok) : PyData.eqv (entD e) (entD e') = decide (e = e') := by
  by_cases h : e = e'
  · subst h
    rw [decide_eq_true rfl]
    exact SeqAt.eqv_refl _ (lay_ent ok)
  · rw [decide_eq_false h]
    cases q : PyData.eqv (entD e) (entD e') with
    | false => rfl
    | true => exact absurd (entD_inj q) h
theorem any_ent {es : List Ent} {e : Ent} (ok : ∀ x ∈ es, x.Ok) : ((es.map entD).any fun z => PyData.eqv z (entD e)) = decide (e ∈ es) := by
  by_cases h : e ∈ es
  · rw [decide_eq_true h, List.any_eq_true]
    exact ⟨entD e, List.mem_map.mpr ⟨e, h, rfl⟩, by rw [entD_eqv (ok e h)]; exact decide_eq_true rfl⟩
  · rw [decide_eq_false h, List.any_eq_false]
    intro z hz
    obtain ⟨x, hx, rfl⟩ := List.mem_map.mp hz
    rw [entD_eqv (ok x hx)]
    exact fun q => h (of_decide_eq_true q ▸ hx)
end Kb

set_option Elab.async false
set_option linter.all false
set_option maxRecDepth 100000
set_option maxHeartbeats 4000000
/-! K64, the plain law, 2: a withdrawal, a correction and a restoration of one record. -/
namespace Kb
open PySem PySem.Spec PyProof.Rows L2 Evl TL
/-- the same but for older versions -/
structure Sim (rs rs' : List Rec) (i : Nat) : Prop where
  len : rs'.length = rs.length
  get : ∀ (k : Nat) (r r' : Rec), rs[k]? = some r → rs'[k]? = some r' → r'.2 = r.2 ∧ r'.1.getLast? = r.1.getLast? ∧ r'.1.length ≤ 2 + i
theorem Sim.refl {rs : List Rec} (h : ∀ r ∈ rs, r.1.length ≤ 2) : Sim rs rs 0 := ⟨rfl, fun k r r' h1 h2 => by
  rw [h1] at h2
  cases h2
  exact ⟨rfl, rfl, h r (List.mem_of_getElem? h1)⟩⟩
theorem Sim.fro {rs rs' : List Rec} {i k : Nat} {r' : Rec} (S : Sim rs rs' i) (h : rs'[k]? = some r') : ∃ r, rs[k]? = some r ∧ r'.2 = r.2 ∧ r'.1.getLast? = r.1.getLast? ∧ r'.1.length ≤ 2 + i := by
  have hk : k < rs.length := by
    have := (List.getElem?_eq_some_iff.mp h).1
    rw [S.len] at this
    exact this
  have e := List.getElem?_eq_getElem hk
  exact ⟨_, e, S.get k _ _ e h⟩
theorem Sim.to {rs rs' : List Rec} {i k : Nat} {r : Rec} (S : Sim rs rs' i) (h : rs[k]? = some r) : ∃ r', rs'[k]? = some r' ∧ r'.2 = r.2 ∧ r'.1.getLast? = r.1.getLast? ∧ r'.1.length ≤ 2 + i := by
  have hk : k < rs'.length := by
    have := (List.getElem?_eq_some_iff.mp h).1
    rw [S.len]
    exact this
  have e := List.getElem?_eq_getElem hk
  exact ⟨_, e, S.get k _ _ h e⟩
theorem Sim.pres {rs rs' : List Rec} {i : Nat} (S : Sim rs rs' i) (e : Ent) : Pres rs' e ↔ Pres rs e := by
  constructor
  · rintro ⟨k, r', h, h2, h3⟩
    obtain ⟨r, a, b, c, _⟩ := S.fro h
    exact ⟨k, r, a, by rw [← b]; exact h2, by rw [← c]; exact h3⟩
  · rintro ⟨k, r, h, h2, h3⟩
    obtain ⟨r', a, b, c, _⟩ := S.to h
    exact ⟨k, r', a, by rw [b]; exact h2, by rw [c]; exact h3⟩
theorem Sim.step {rs rs' : List Rec} {i j : Nat} {r : Rec} {e0 : Ent} (S : Sim rs rs' i) (h : rs'[j]? = some r) (h2 : r.2 = true) (h3 : r.1.getLast? = some e0) : Sim rs (rs'.set j (r.1 ++ [e0], true)) (i + 1) := by
  refine ⟨by rw [List.length_set]; exact S.len, fun k a b ha hb => ?_⟩
  by_cases hk : j = k
  · subst hk
    rw [List.getElem?_set_self (List.getElem?_eq_some_iff.mp h).1] at hb
    cases hb
    obtain ⟨c1, c2, c3⟩ := S.get j a r ha h
    refine ⟨by rw [← c1, h2], ?_, ?_⟩
    · rw [← c2, h3]
      exact List.getLast?_concat ..
    · rw [List.length_append, List.length_singleton]; omega
  · rw [List.getElem?_set_ne hk] at hb
    obtain ⟨c1, c2, c3⟩ := S.get k a b ha hb
    exact ⟨c1, c2, by omega⟩
/-- another record in which e stands -/
def Oth (rs : List Rec) (j : Nat) (e : Ent) : Prop := ∃ (k : Nat) (r : Rec), k ≠ j ∧ rs[k]? = some r ∧ r.2 = true ∧ r.1.getLast? = some e
theorem pres_out {rs : List Rec} {j : Nat} {r : Rec} {e0 : Ent} (h : rs[j]? = some r) (h2 : r.2 = true) (h3 : r.1.getLast? = some e0) (e : Ent) : Pres (rs.set j (r.1, false)) e ↔ Pres rs e ∧ (e ≠ e0 ∨ Oth rs j e0) := by
  have hj := (List.getElem?_eq_some_iff.mp h).1
  have key : Pres (rs.set j (r.1, false)) e ↔ Oth rs j e := by
    constructor
    · rintro ⟨k, s, a, b, c⟩
      by_cases hk : j = k
      · subst hk
        rw [List.getElem?_set_self hj] at a
        cases a
        cases b
      · rw [List.getElem?_set_ne hk] at a
        exact ⟨k, s, fun z => hk z.symm, a, b, c⟩
    · rintro ⟨k, s, hk, a, b, c⟩
      exact ⟨k, s, by rw [List.getElem?_set_ne (fun z => hk z.symm)]; exact a, b, c⟩
  rw [key]
  constructor
  · rintro ⟨k, s, hk, a, b, c⟩
    refine ⟨⟨k, s, a, b, c⟩, ?_⟩
    by_cases he : e = e0
    · exact .inr ⟨k, s, hk, a, b, he ▸ c⟩
    · exact .inl he
  · rintro ⟨⟨k, s, a, b, c⟩, ho⟩
    by_cases he : e = e0
    · rcases ho with ho | ho
      · exact absurd he ho
      · rw [he]; exact ho
    · refine ⟨k, s, ?_, a, b, c⟩
      rintro rfl
      rw [h] at a
      cases a
      rw [h3] at c
      exact he (Option.some.inj c).symm
/-- the texts of one evidence -/
theorem texts_one {rs : List Rec} {es : List Ent} {ts : List Str} (E : Evid rs es) (up : ts.Pairwise leS) (nd : ts.Nodup) (mem : ∀ t, t ∈ ts ↔ ∃ e, Pres rs e ∧ t = entText e) : es.map entText = ts := by
  refine one_list E.up up E.nd nd fun t => ?_
  rw [mem t, List.mem_map]
  exact ⟨fun ⟨e, h, q⟩ => ⟨e, (E.mem e).mp h, q.symm⟩, fun ⟨e, h, q⟩ => ⟨e, (E.mem e).mpr h, q.symm⟩⟩
theorem due_eq {rs rs2 : List Rec} {es2 : List Ent} {ts : List Str} {e0 : Ent} (up : ts.Pairwise leS) (nd : ts.Nodup) (mem : ∀ t, t ∈ ts ↔ ∃ e, Pres rs e ∧ t = entText e) (ok : ∀ e, Pres rs e → e.Ok) (h0 : e0.Ok) (E : Evid rs2 es2) (b : Bool)
    (h2 : ∀ e, Pres rs2 e ↔ Pres rs e ∧ (e ≠ e0 ∨ b = true)) : es2.map entText = ts.filter fun t => !decide (t = entText e0) || b := by
  refine texts_one E (up.filter _) (nd.filter _) fun t => ?_
  rw [List.mem_filter, mem t]
  constructor
  · rintro ⟨⟨e, he, rfl⟩, h⟩
    refine ⟨e, (h2 e).mpr ⟨he, ?_⟩, rfl⟩
    rw [Bool.or_eq_true] at h
    rcases h with h | h
    · refine .inl fun z => ?_
      subst z
      simp at h
    · exact .inr h
  · rintro ⟨e, he, rfl⟩
    obtain ⟨a, c⟩ := (h2 e).mp he
    refine ⟨⟨e, a, rfl⟩, ?_⟩
    rw [Bool.or_eq_true]
    rcases c with c | c
    · refine .inl ?_
      have : ¬ entText e = entText e0 := fun z => c (entText_inj (ok e a) h0 z)
      simp [this]
    · exact .inr c
theorem Evid.of_same {rs rs' : List Rec} {es : List Ent} (E : Evid rs es) (h : ∀ e, Pres rs' e ↔ Pres rs e) : Evid rs' es := ⟨E.up, E.nd, fun e => (E.mem e).trans (h e).symm⟩
theorem Pk.pos {keep : Nat → Bool} {R : Nat → V → Prop} {n : Nat} {ys : List V} (h : Pk keep R n ys) : 0 < ys.length ↔ ∃ i, i < n ∧ keep i = true := by
  induction h with
  | zero => exact ⟨fun h => absurd h (Nat.lt_irrefl 0), fun ⟨i, h, _⟩ => absurd h (Nat.not_lt_zero i)⟩
  | @yes i ys y _ a _ _ => exact ⟨fun _ => ⟨i, Nat.lt_succ_self i, a⟩, fun _ => by rw [List.length_append, List.length_singleton]; omega⟩
  | @no i ys _ a ih =>
    rw [ih]
    constructor
    · rintro ⟨j, h, q⟩
      exact ⟨j, by omega, q⟩
    · rintro ⟨j, h, q⟩
      refine ⟨j, ?_, q⟩
      by_cases hj : j = i
      · subst hj
        rw [a] at q
        cases q
      · omega
def lastE (rs : List Rec) (k : Nat) : Option Ent := (rs[k]?).bind fun r => r.1.getLast?
theorem lastE_of {rs : List Rec} {k : Nat} {r : Rec} (h : rs[k]? = some r) : lastE rs k = r.1.getLast? := by
  unfold lastE
  rw [h]
  rfl
/-- which of the standing records the law lists as others -/
def keepO (rs : List Rec) (j : Nat) (e0 : Ent) (i : Nat) : Bool := match (stI rs)[i]? with
  | some k => !decide (k = j) && decide (lastE rs k = some e0)
  | none => false
theorem oth_iff {rs : List Rec} {j : Nat} {e0 : Ent} : (∃ i, i < (stI rs).length ∧ keepO rs j e0 i = true) ↔ Oth rs j e0 := by
  constructor
  · rintro ⟨i, hi, h⟩
    unfold keepO at h
    have g := List.getElem?_eq_getElem hi
    rw [g] at h
    have h' : (!decide ((stI rs)[i] = j) && decide (lastE rs (stI rs)[i] = some e0)) = true := h
    rw [Bool.and_eq_true] at h'
    obtain ⟨r, a, b⟩ := mem_stI.mp (List.mem_of_getElem? g)
    refine ⟨_, r, by simpa using h'.1, a, b, ?_⟩
    have := of_decide_eq_true h'.2
    rw [lastE_of a] at this
    exact this
  · rintro ⟨k, r, hk, a, b, c⟩
    obtain ⟨i, hi, e⟩ := List.getElem_of_mem (mem_stI.mpr ⟨r, a, b⟩)
    refine ⟨i, hi, ?_⟩
    unfold keepO
    rw [List.getElem?_eq_getElem hi, e]
    show (!decide (k = j) && decide (lastE rs k = some e0)) = true
    rw [lastE_of a, c]
    simp [hk]
theorem ent_nodup {es : List Ent} (ok : ∀ e ∈ es, e.Ok) (h : es.Nodup) : (es.map entText).Nodup := by
  refine List.pairwise_map.mpr (List.Pairwise.imp_of_mem (fun {x y} hx hy hne e => hne (entText_inj (ok x hx) (ok y hy) e)) h)
theorem BookAt.foot_ne {C : Addr} {H : Hp} {x lv ls p : Addr} {ps : List Addr} {rs : List Rec} (B : BookAt C H x lv ls ps rs) (h : H p = none) : ¬ Foot lv ls ps p := fun z => by
  rcases z with z | z | z
  · have := B.vs
    rw [← z, h] at this
    cases this
  · have := B.st
    rw [← z, h] at this
    cases this
  · obtain ⟨ys, q⟩ := B.lst z
    rw [h] at q
    cases q
end Kb

set_option Elab.async false
set_option linter.all false
set_option maxRecDepth 100000
set_option maxHeartbeats 4000000
/-! K64, law: what its calls are read as. -/
namespace Kb
open PySem PySem.Spec PyProof.Rows L2 Evl TL
section
variable {P : Program} {w : World} {K : PySem.W.Frag} {mg : Str → Option Value} {base : Heap} {f aK a1 aL C x lv ls : Addr} {fd : FuncData} {σ : L2.St} {H : Hp} {Q : VK} {ps : List Addr} {rs : List Rec} {i : Nat}
theorem w_ev (hσ : σ[i]? = some (some (.ref x))) (Bk : BookAt C H x lv ls ps rs) (h30 : rs.length ≤ 30) (k : ∀ q xs es H', H q = none → Ex H H' → H' q = some (.lst xs) → Evid rs es → es.length ≤ 30 → All2 (IsEnt H') xs es → Q (.ref q) H') :
    tMeth C "evidence" (spEvidence C) [] E0 (tVar i) tNil σ H Q := by
  obtain ⟨dx, hI⟩ := Bk.ins
  exact ⟨_, hσ, x, dx, _, rfl, hI, pf_no _ _ (by decide +kernel) (by decide +kernel), x, lv, ls, ps, rs, rfl, Bk, h30, k⟩
theorem w_st (hσ : σ[i]? = some (some (.ref x))) (Bk : BookAt C H x lv ls ps rs) (h30 : rs.length ≤ 30) (k : ∀ q H', H q = none → Ex H H' → H' q = some (.lst ((stI rs).map nV)) → Q (.ref q) H') :
    tMeth C "standing" (spStanding C) [] E0 (tVar i) tNil σ H Q := by
  obtain ⟨dx, hI⟩ := Bk.ins
  exact ⟨_, hσ, x, dx, _, rfl, hI, pf_no _ _ (by decide +kernel) (by decide +kernel), x, lv, ls, ps, rs, rfl, Bk, h30, k⟩
theorem w_kd {j : Nat} {z : Str} (hσ : σ[i]? = some (some (.ref x))) (hj : σ[j]? = some (some (.str z))) (hz : inV (.str z) kindsL = true) (Bk : BookAt C H x lv ls ps rs) (h30 : rs.length ≤ 30)
    (k : ∀ q xs es H', H q = none → Ex H H' → H' q = some (.lst xs) → Evid rs es → es.length ≤ 30 → All2 (IsTail H') xs (es.filter fun e => decide (e.kind = z)) → Q (.ref q) H') :
    tMeth C "of_kind" (spOfKind C) [] E0 (tVar i) (tCons (tVar j) tNil) σ H Q := by
  obtain ⟨dx, hI⟩ := Bk.ins
  exact ⟨_, hσ, x, dx, _, rfl, hI, pf_no _ _ (by decide +kernel) (by decide +kernel), _, hj, x, z, lv, ls, ps, rs, rfl, Bk, h30, hz, k⟩
/-- the newest version of the record that slot j names -/
theorem w_vl {j m : Nat} {r : Rec} {e : Ent} (hσ : σ[i]? = some (some (.ref x))) (hj : σ[j]? = some (some (nV m))) (Bk : BookAt C H x lv ls ps rs) (hm : rs[m]? = some r) (he : r.1.getLast? = some e)
    (k : ∀ v H', Ex H H' → IsEnt H' v e → Q v H') :
    tOp (rIxL K) (tMeth C "versions" (spVersions C) [] E0 (tVar i) (tCons (tVar j) tNil)) (tUn (rU fun z => .int (-z)) (tC (.int 1))) σ H Q := by
  obtain ⟨dx, hI⟩ := Bk.ins
  refine ⟨_, hσ, x, dx, _, rfl, hI, pf_no _ _ (by decide +kernel) (by decide +kernel), _, hj, x, _, m, r, lv, ls, ps, rs, rfl, Bk, rfl, hm, fun q xs H' hq e' hl ha => ?_⟩
  obtain ⟨us, v, rfl, hv⟩ := ha.last he
  exact ⟨1, rfl, q, _, _, v, rfl, rfl, SqL.of hl, atI_last us v, k v H' e' hv⟩
theorem w_wd {b : Bool} {m : Str} {j n : Nat} {r : Rec} (hm : (pf lv ls).lookup m = none) (hσ : σ[i]? = some (some (.ref x))) (hj : σ[j]? = some (some (nV n))) (Bk : BookAt C H x lv ls ps rs) (hn : rs[n]? = some r) (hb : r.2 ≠ b)
    (k : ∀ H' : Hp, BookAt C H' x lv ls ps (rs.set n (r.1, b)) → Off (Foot lv ls ps) H H' → Q .non H') :
    tMeth C m (spWithdraw C b) [] E0 (tVar i) (tCons (tVar j) tNil) σ H Q := by
  obtain ⟨dx, hI⟩ := Bk.ins
  exact ⟨_, hσ, x, dx, _, rfl, hI, hm, _, hj, x, _, n, r, lv, ls, ps, rs, rfl, Bk, rfl, hn, hb, k⟩
theorem w_co {j l n : Nat} {v : V} {r : Rec} {e : Ent} (hσ : σ[i]? = some (some (.ref x))) (hj : σ[j]? = some (some (nV n))) (hl : σ[l]? = some (some v)) (Bk : BookAt C H x lv ls ps rs) (hv : IsEnt H v e) (ok : e.Ok) (hn : rs[n]? = some r)
    (hk : ∀ e' ∈ r.1, e'.kind = e.kind) (h6 : r.1.length < 6) (k : ∀ H' : Hp, BookAt C H' x lv ls ps (rs.set n (r.1 ++ [e], r.2)) → Off (Foot lv ls ps) H H' → Q .non H') :
    tMeth C "correct" (spCorrect C) [] E0 (tVar i) (tCons (tVar j) (tCons (tVar l) tNil)) σ H Q := by
  obtain ⟨dx, hI⟩ := Bk.ins
  exact ⟨_, hσ, x, dx, _, rfl, hI, pf_no _ _ (by decide +kernel) (by decide +kernel), _, hj, _, hl, x, _, n, v, e, r, lv, ls, ps, rs, rfl, Bk, hv, ok, rfl, hn, hk, h6, k⟩
/-! ### != of like data -/
theorem ne_like {d : PyData} {u v : V} (hu : Dp K H u d) (hv : Dp K H v d) (hs : SeqAt.shaped d = true) (k : Q (.bl false) H) : rNeD K u v H Q := ⟨d, d, hu, hv, hs, hs, by rw [eqv_same hs]; exact k⟩
theorem ne_ents {a b : Addr} {xs ys : List V} {es : List Ent} (h1 : H a = some (.lst xs)) (h2 : H b = some (.lst ys)) (x1 : All2 (IsEnt H) xs es) (x2 : All2 (IsEnt H) ys es) (ok : ∀ e ∈ es, e.Ok) (k : Q (.bl false) H) : rNeD K (.ref a) (.ref b) H Q :=
  ne_like (.lst (SqL.of h1) (dp_all (fun _ _ h => dp_ent h) x1)) (.lst (SqL.of h2) (dp_all (fun _ _ h => dp_ent h) x2)) (shp_list (fun e he => lay_ent (ok e he)) entD_depth) k
theorem ne_tails {a b : Addr} {xs ys : List V} {es : List Ent} (h1 : H a = some (.lst xs)) (h2 : H b = some (.lst ys)) (x1 : All2 (IsTail H) xs es) (x2 : All2 (IsTail H) ys es) (ok : ∀ e ∈ es, e.Ok) (k : Q (.bl false) H) : rNeD K (.ref a) (.ref b) H Q :=
  ne_like (.lst (SqL.of h1) (dp_all (fun _ _ h => dp_tail h) x1)) (.lst (SqL.of h2) (dp_all (fun _ _ h => dp_tail h) x2)) (shp_list (fun e he => lay_tail (ok e he)) tailD_depth) k
theorem ne_strs {a b : Addr} {ts : List Str} (h1 : H a = some (.lst (ts.map V.str))) (h2 : H b = some (.lst (ts.map V.str))) (ok : ∀ t ∈ ts, OkS t) (k : Q (.bl false) H) : rNeD K (.ref a) (.ref b) H Q :=
  ne_like (.lst (SqL.of h1) (dp_strs ts)) (.lst (SqL.of h2) (dp_strs ts)) (shp_list (fun t ht => by simp only [PyData.canLay0]; exact strOk_of (ok t ht)) (fun t => by simp [PyData.depth])) k
/-- [text(e) for e in ..] -/
theorem lc_texts {H1 : Hp} {a D : Addr} {xs : List V} {es : List Ent} {vs : List Nat} {j : Nat} {σ : L2.St} {Qd : Hp → Prop} (ha : H1 a = some (.lst xs)) (hx : All2 (IsEnt H1) xs es) (ok : ∀ e ∈ es, e.Ok) (hn : es.length ≤ 30) (hD : H1 D = none)
    (hj : ∀ x, ((wipe σ vs).set j (some x))[j]? = some (some x)) (hw : ∀ x, wipe ((wipe σ vs).set j (some x)) vs = wipe σ vs) (hd : ∀ H', Ex H1 H' → H' D = some (.lst ((es.map entText).map V.str)) → Qd H') :
    ∃ W : Nat → Nat → Hp → Prop, (∃ m, W 0 m (upd H1 D (.lst []))) ∧ ∀ i m H, W i m H →
      ((Itl K a).stop i H ∧ Qd H) ∨ ((Itl K a).go i H ∧ ∃ Nx : Hp → Prop, (∀ H', Nx H' → ∃ m', m' < m ∧ W (i + 1) m' H') ∧ ∀ x H', (Itl K a).yld i H x H' → gName j x (wipe σ vs) H' fun σ2 H2 => wipe σ2 vs = wipe σ vs ∧ tYes σ2 H2 fun b H3 =>
        if b = true then tCall spEntryText [] E0 (tCons (tVar j) tNil) σ2 H3 fun y H4 => ∃ acc, H4 D = some (.lst acc) ∧ acc.length < sizeLine ∧ Nx (upd H4 D (.lst (acc ++ [y]))) else Nx H3) := by
  have lx := hx.len
  refine lc_walk (wk_list (K := K) (SqL.of ha)) (by omega) (fun _ => true) (fun i y _ => ∃ e, es[i]? = some e ∧ y = .str (entText e)) (fun _ _ _ _ r _ => r) hD (fun i x H2 Q1 Q2 hi it e q1 q2 => ?_) (fun ys H' e hy hp => ?_)
  · obtain ⟨c, hc, hv⟩ := hx.get it
    exact ⟨hw _, _, hj _, x, c, rfl, hv.mono (TT0.of e), ok c (List.mem_of_getElem? hc), fun H4 e4 => q1 rfl _ _ e4 ⟨c, hc, rfl⟩⟩
  · have k2 := (hp.all (S := fun v e => v = V.str (entText e)) (xs := es) (by omega) fun i y x hx r => by
      obtain ⟨n, h1, h2⟩ := r
      rw [hx] at h1
      cases h1
      exact h2).map_eq
    rw [lx, List.take_length] at k2
    exact hd H' e (by rw [hy, k2, List.map_map]; rfl)
theorem kinds_at {y : V} (h : kindsL[i]? = some y) : ∃ z : Str, y = .str z ∧ inV (.str z) kindsL = true := by
  match i, h with
  | 0, h => exact ⟨"find", (Option.some.inj h).symm, by decide +kernel⟩
  | 1, h => exact ⟨"known", (Option.some.inj h).symm, by decide +kernel⟩
  | 2, h => exact ⟨"paper", (Option.some.inj h).symm, by decide +kernel⟩
  | 3, h => exact ⟨"recall", (Option.some.inj h).symm, by decide +kernel⟩
  | 4, h => exact ⟨"weighing", (Option.some.inj h).symm, by decide +kernel⟩
  | n + 5, h => simp [kindsL] at h
theorem cut_nums {ms : List Int} {lo n : Nat} {a b : Int} (ha : a = (lo : Nat)) (hb : b = ((lo + n : Nat) : Int)) (hl : lo + n ≤ ms.length) : cutV (ms.map V.int) (some a) (some b) = ((ms.drop lo).take n).map V.int ∧ ((ms.drop lo).take n).length = n := by
  subst ha hb
  refine ⟨?_, by rw [List.length_take, List.length_drop]; omega⟩
  unfold cutV
  rw [HT.sIx_nat, HT.sIx_nat, List.length_map, Nat.min_eq_left (by omega), Nat.min_eq_left (by omega), List.map_take, List.map_drop]
  congr 1
  omega
theorem cut_back {ms : List Int} {lo : Nat} {a : Int} (ha : a = (lo : Nat)) (hl : lo ≤ ms.length) : cutV (ms.map V.int) (some a) none = (ms.drop lo).map V.int ∧ (ms.drop lo).length = ms.length - lo := by
  subst ha
  refine ⟨?_, by rw [List.length_drop]⟩
  unfold cutV
  rw [HT.sIx_nat, HT.sIx_none, List.length_map, Nat.min_eq_left (by omega), List.map_drop, List.take_of_length_le (by rw [List.length_drop, List.length_map]; exact Nat.le_refl _)]
theorem cut_three {xs : List V} : cutV xs none (some 3) = xs.take 3 := by
  unfold cutV
  rw [HT.sIx_none, show (some (3 : Int)) = some ((3 : Nat) : Int) from rfl, HT.sIx_nat, List.drop_zero, Nat.sub_zero]
  by_cases h : 3 ≤ xs.length
  · rw [Nat.min_eq_left h]
  · rw [Nat.min_eq_right (by omega), List.take_of_length_le (Nat.le_refl _), List.take_of_length_le (by omega)]
end
theorem hu65 {k : Nat} {A : Around} (r : Room k A) : A.units + 65 < cLine := by
  have := r.un
  omega
end Kb

set_option Elab.async false
set_option linter.all false
set_option maxRecDepth 100000
set_option maxHeartbeats 4000000
/-! K64, law. -/
namespace Kb
open PySem PySem.Spec PyProof.Rows L2 Evl TL
section
variable {P : Program} {w : World} {K : PySem.W.Frag} {mg : Str → Option Value} {base : Heap} {f aK a1 aL C : Addr} {fd : FuncData}
abbrev s_law : Stmt := topS 57
theorem sc_law : FnScope ["_law_script", "_law_numbers_here", "_law_entries", "_law_k", "_law_entry_here", "_law_first", "_law_second", "_law_texts", "_law_kind", "_law_number", "_law_others", "_law_one", "_law_due", "_law_text_here"] ["_law_script"] (defScope s_law) := ⟨rfl, rfl, rfl, by decide +kernel, rfl, by decide +kernel, by decide +kernel⟩
def spLaw (K : PySem.W.Frag) : Sp := fun vs H Q _ => ∃ (a : Addr) (ns : List Int), vs = [.ref a] ∧ SqL K H a (ns.map V.int) ∧ ns.length ≤ 63 ∧ ∀ H', Q (.bl true) H'
theorem ok_law (F : FnP K "law" "law" s_law f fd) (T : Tx K w mg aK a1 aL) (B : TB K mg C) (g_l_numbers : Fd P w K mg base "_law_numbers" 1 ["_law_script", "_law_many"] (spNumbers K)) (g_l_entry : Fd P w K mg base "_law_entry" 3 ["_law_numbers_here"] (spEntry K))
    (g_l_made : Fd P w K mg base "_law_made" 7 ["_law_entries", "_law_numbers_here"] (spMade K C)) (g_l_text : Fd P w K mg base "_law_text" 2 ["_law_entry_here"] spEntryText) (g_entry_text : Fd P w K mg base "entry_text" 3 ["entry"] spEntryText)
    (g_l_drawer : Fd P w K mg base "_law_drawer" 6 ["_law_book"] (spLDrawer C)) (g_Book_evidence : Md P w K mg base C "evidence" 4 ["self"] (spEvidence C)) (g_Book_of_kind : Md P w K mg base C "of_kind" 5 ["self", "kind"] (spOfKind C))
    (g_Book_standing : Md P w K mg base C "standing" 1 ["self"] (spStanding C)) (g_Book_versions : Md P w K mg base C "versions" 2 ["self", "number"] (spVersions C)) (g_Book_correct : Md P w K mg base C "correct" 6 ["self", "number", "entry"] (spCorrect C))
    (g_Book_withdraw : Md P w K mg base C "withdraw" 3 ["self", "number"] (spWithdraw C false)) (g_Book_restore : Md P w K mg base C "restore" 3 ["self", "number"] (spWithdraw C true)) :
    FnOk P w K mg base CX0 8 f fd ["_law_script"] (spLaw K) := by
  refine F.ok sc_law (fun vs H Q E h => ?_) (fun cdv A outer s H vs Q E hr h => ⟨_, PSs.nox ((pss_cons (ps_set (i := 1) sc_law.nd rfl (Or.inl rfl) (pe_fd g_l_numbers (rm hr) rfl (pa_cons (pv 0) (pa_cons pe_int pa_nil))))
      (pss_cons (ps_set (i := 2) sc_law.nd rfl (Or.inl rfl) (pe_lst pa_nil))
      (pss_cons (ps_for PassesOwn.never rfl (pi_range1 rfl T.b_range (pa_cons (pe_op op_mod (pe_ix ix_list (pv 1) pe_int (fun _ _ => rfl)) pe_int) pa_nil)) (pg_name (i := 3) sc_law.nd rfl (Or.inl rfl)) (pss_cons (ps_set (i := 4) sc_law.nd rfl (Or.inr rfl) (pe_fd g_l_entry (rm hr) rfl (pa_cons (pe_slice sl_list (pv 1) (po_some (pe_op op_add pe_int (pe_op op_mul pe_int (pv 3)))) (po_some (pe_op op_add pe_int (pe_op op_mul pe_int (pv 3))))) pa_nil)))
      (pss_one (ps_if (pt_cmpR (op_notInD (hu65 hr)) (pv 4) (pv 2) (by rfl)) (pss_one (ps_expr (pe_bm PySem.F.plainAttrs_list PySem.F.slot_list_append PySem.F.type_list_append mt_append (pv 2) (pa_cons (pv 4) pa_nil)))) pss_nil))))
      (pss_cons (ps_set (i := 5) sc_law.nd rfl (Or.inr rfl) (pe_fd g_l_made (rm hr) rfl (pa_cons (pv 2) (pa_cons (pe_slice sl_list (pv 1) (po_some pe_int) (po_some pe_int)) pa_nil))))
      (pss_cons (ps_set (i := 6) sc_law.nd rfl (Or.inl rfl) (pe_fd g_l_made (rm hr) rfl (pa_cons (pv 2) (pa_cons (pe_slice sl_list (pv 1) (po_some pe_int) po_none) pa_nil))))
      (pss_cons (ps_set (i := 7) sc_law.nd rfl (Or.inl rfl) (pe_callB cr_sortedS (by rfl) T.b_sorted (by decide +kernel) (pa_cons (pe_lc (own := [("_law_entry_here", 4)]) rfl sc_law.nd (pi_list (pv 2)) (blkOk_by (own := [("_law_entry_here", 4)]) (N := ["_law_script", "_law_numbers_here", "_law_entries", "_law_k", "_law_entry_here", "_law_first", "_law_second", "_law_texts", "_law_kind", "_law_number", "_law_others", "_law_one", "_law_due", "_law_text_here"]) (sc := defScope s_law) (by decide +kernel)) (fun _ _ _ _ _ => (pg_name (i := 4) sc_law.nd rfl (Or.inl rfl))) (fun _ _ _ _ _ => pts_nil) (fun _ _ _ _ _ => (pe_fd g_l_text (rm hr) rfl (pa_cons (pv 4) pa_nil)))) pa_nil)))
      (pss_cons (ps_if (PW.pt (pw_or (pt_cmpR (op_neD hr.units) (pe_lc (own := [("_law_entry_here", 4)]) rfl sc_law.nd (pi_list (pe_md0 B.cl (pv 5) g_Book_evidence (rm hr))) (blkOk_by (own := [("_law_entry_here", 4)]) (N := ["_law_script", "_law_numbers_here", "_law_entries", "_law_k", "_law_entry_here", "_law_first", "_law_second", "_law_texts", "_law_kind", "_law_number", "_law_others", "_law_one", "_law_due", "_law_text_here"]) (sc := defScope s_law) (by decide +kernel)) (fun _ _ _ _ _ => (pg_name (i := 4) sc_law.nd rfl (Or.inl rfl))) (fun _ _ _ _ _ => pts_nil) (fun _ _ _ _ _ => (pe_fd g_entry_text (rm hr) rfl (pa_cons (pv 4) pa_nil)))) (pv 7) (nomark _)) (pw_or1 (pt_cmpR (op_neD hr.units) (pe_md0 B.cl (pv 5) g_Book_evidence (rm hr)) (pe_md0 B.cl (pv 6) g_Book_evidence (rm hr)) (nomark _))))) (pss_one (ps_ret pe_bl)) pss_nil)
      (pss_cons (ps_for PassesOwn.never rfl (pi_list (pe_lst (pa_cons pe_str (pa_cons pe_str (pa_cons pe_str (pa_cons pe_str (pa_cons pe_str pa_nil))))))) (pg_name (i := 8) sc_law.nd rfl (Or.inl rfl)) (pss_one (ps_if (pt_cmpR (op_neD hr.units) (pe_md B.cl (pv 5) g_Book_of_kind (rm hr) (pa_cons (pv 8) pa_nil)) (pe_md B.cl (pv 6) g_Book_of_kind (rm hr) (pa_cons (pv 8) pa_nil)) (nomark _)) (pss_one (ps_ret pe_bl)) pss_nil)))
      (pss_cons (ps_if (pt_cmpR (op_neD hr.units) (pe_fd g_l_drawer (rm hr) rfl (pa_cons (pv 5) pa_nil)) (pe_fd g_l_drawer (rm hr) rfl (pa_cons (pv 6) pa_nil)) (nomark _)) (pss_one (ps_ret pe_bl)) pss_nil)
      (pss_cons (ps_for PassesOwn.never rfl (pi_list (pe_slice sl_list (pe_md0 B.cl (pv 5) g_Book_standing (rm hr)) po_none (po_some pe_int))) (pg_name (i := 9) sc_law.nd rfl (Or.inr rfl)) (pss_cons (ps_set (i := 4) sc_law.nd rfl (Or.inr rfl) (pe_ix ix_list (pe_md B.cl (pv 5) g_Book_versions (rm hr) (pa_cons (pv 9) pa_nil)) (pe_un un_neg pe_int) (fun _ _ => rfl)))
      (pss_cons (ps_set (i := 10) sc_law.nd rfl (Or.inr rfl) (pe_lc (own := [("_law_one", 11)]) rfl sc_law.nd (pi_list (pe_md0 B.cl (pv 5) g_Book_standing (rm hr))) (blkOk_by (own := [("_law_one", 11)]) (N := ["_law_script", "_law_numbers_here", "_law_entries", "_law_k", "_law_entry_here", "_law_first", "_law_second", "_law_texts", "_law_kind", "_law_number", "_law_others", "_law_one", "_law_due", "_law_text_here"]) (sc := defScope s_law) (by decide +kernel)) (fun _ _ _ _ _ => (pg_name (i := 11) sc_law.nd rfl (Or.inl rfl))) (fun _ _ _ _ _ => pts_one (PW.pt (pw_and (pt_cmpR op_ne (pv 11) (pv 9) (nomark _)) (pw_and1 (pt_cmpR (r := rEqD K) (op_eqD hr.units) (pe_ix (r := rIxL K) ix_list (pe_md B.cl (pv 5) g_Book_versions (rm hr) (pa_cons (pv 11) pa_nil)) (pe_un un_neg pe_int) (fun _ _ => rfl)) (pv 4) (nomark _)))))) (fun _ _ _ _ _ => (pv 11))))
      (pss_cons (ps_expr (pe_md B.cl (pv 5) g_Book_withdraw (rm hr) (pa_cons (pv 9) pa_nil)))
      (pss_cons (ps_setLc (i := 12) (own := [("_law_text_here", 13)]) rfl sc_law.nd rfl rfl (sw_true rfl rfl rfl (by decide +kernel)) (pi_list (pv 7)) (blkOk_by (own := [("_law_text_here", 13)]) (N := ["_law_script", "_law_numbers_here", "_law_entries", "_law_k", "_law_entry_here", "_law_first", "_law_second", "_law_texts", "_law_kind", "_law_number", "_law_others", "_law_one", "_law_due", "_law_text_here"]) (sc := defScope s_law) (by decide +kernel)) (fun _ _ _ _ _ => (pg_name (i := 13) sc_law.nd rfl (Or.inl rfl))) (fun _ _ _ _ _ => pts_one (PW.pt (pw_or (pt_cmpR op_ne (pv 13) (pe_fd g_l_text (rm hr) rfl (pa_cons (pv 4) pa_nil)) (nomark _)) (pw_or1 (pt_cmpR op_gt (pe_callB (r := rLenS K) call_len_seq (by rfl) T.b_len PySem.boot_len (pa_cons (pv 10) pa_nil)) pe_int (nomark _)))))) (fun _ _ _ _ _ => (pv 13)))
      (pss_cons (ps_if (pt_cmpR (op_neD hr.units) (pe_lc (own := [("_law_one", 11)]) rfl sc_law.nd (pi_list (pe_md0 B.cl (pv 5) g_Book_evidence (rm hr))) (blkOk_by (own := [("_law_one", 11)]) (N := ["_law_script", "_law_numbers_here", "_law_entries", "_law_k", "_law_entry_here", "_law_first", "_law_second", "_law_texts", "_law_kind", "_law_number", "_law_others", "_law_one", "_law_due", "_law_text_here"]) (sc := defScope s_law) (by decide +kernel)) (fun _ _ _ _ _ => (pg_name (i := 11) sc_law.nd rfl (Or.inl rfl))) (fun _ _ _ _ _ => pts_nil) (fun _ _ _ _ _ => (pe_fd g_entry_text (rm hr) rfl (pa_cons (pv 11) pa_nil)))) (pv 12) (nomark _)) (pss_one (ps_ret pe_bl)) pss_nil)
      (pss_cons (ps_expr (pe_md B.cl (pv 5) g_Book_correct (rm hr) (pa_cons (pv 9) (pa_cons (pv 4) pa_nil))))
      (pss_cons (ps_expr (pe_md B.cl (pv 5) g_Book_restore (rm hr) (pa_cons (pv 9) pa_nil)))
      (pss_one (ps_if (pt_cmpR (op_neD hr.units) (pe_md0 B.cl (pv 5) g_Book_evidence (rm hr)) (pe_md0 B.cl (pv 6) g_Book_evidence (rm hr)) (nomark _)) (pss_one (ps_ret pe_bl)) pss_nil))))))))))
      (pss_one (ps_ret pe_bl))))))))))))), ?_⟩)
  · obtain ⟨a, ns, rfl, _⟩ := h
    rfl
  · obtain ⟨a, ns, rfl, hs, h63, h⟩ := h
    refine ⟨_, rfl, a, ns, rfl, hs, h63, fun q H1 ⟨hq0, e01, ms, hms, lm⟩ => ?_⟩
    refine ⟨Nat.zero_le _, fun pe hpe => ?_⟩
    have g0 : ms[0]? = some ms[0] := List.getElem?_eq_getElem (by omega)
    have m0 := Int.emod_nonneg ms[0] (show (7 : Int) ≠ 0 by decide)
    have m1 := Int.emod_lt_of_pos ms[0] (show (0 : Int) < 7 by decide)
    refine ⟨_, rfl, q, _, 0, _, rfl, rfl, SqL.of (Ex.new hpe q _ hms), at_of (j := 0) rfl (by rw [List.getElem?_map, g0]; rfl), _, _, rfl, rfl, by show (0 : Int) < 7; decide, _, rfl, by omega, by omega, ?_⟩
    obtain ⟨n, hn⟩ : ∃ n : Nat, (ms[0] % 7).toNat = n := ⟨_, rfl⟩
    rw [hn]
    have n6 : n ≤ 6 := by omega
    refine for_range (n := n) (fun i σ' H' => ∃ u v xs es, σ' = [some (.ref a), some (.ref q), some (.ref pe), u, v, none, none, none, none, none, none, none, none, none] ∧ Ex H1 H' ∧ H' pe = some (.lst xs) ∧ All2 (IsEnt H') xs es ∧ es.Nodup ∧ (∀ e ∈ es, e.Ok) ∧ es.length ≤ i)
      ⟨none, none, [], [], rfl, Ex.new hpe, upd_same, .nil, List.nodup_nil, fun e he => (nomatch he), Nat.le_refl _⟩ ?_ ?_
    · rintro i σ' H' hi ⟨u, v, xs, es, rfl, eH, hpe', hxs, nd, okE, le⟩
      have z0 : (0 : Int) + (i : Int) = (i : Int) := Int.zero_add _
      refine ⟨_, rfl, _, rfl, _, _, rfl, rfl, m_smallL (by decide) _, _, _, rfl, rfl, _, rfl, _, rfl, _, _, rfl, rfl, m_smallL (by decide) _, _, _, rfl, rfl, _, rfl, q, _, rfl, SqL.of (eH q _ hms), fun p hp => ?_⟩
      obtain ⟨c1, c2⟩ := cut_nums (ms := ms) (lo := 2 + 12 * i) (n := 12) (a := 2 + 12 * (0 + (i : Int))) (b := 14 + 12 * (0 + (i : Int))) (by omega) (by omega) (by omega)
      rw [c1]
      refine ⟨p, _, rfl, SqL.of upd_same, c2, fun v2 e H2 e2 hv oke => ?_⟩
      have e12 := (Ex.new (o := .lst (((ms.drop (2 + 12 * i)).take 12).map V.int)) hp).trans e2
      have hpe2 := e12 pe _ hpe'
      have hxs2 := hxs.imp fun _ _ q => IsEnt.mono (TT0.of e12) q
      refine ⟨_, rfl, _, rfl, entD e, es.map entD, dp_ent hv, .lst (SqL.of hpe2) (dp_all (fun _ _ h => dp_ent h) hxs2), shp (lay_ent oke) (by have := entD_depth e; omega), shp_list (fun x hx => lay_ent (okE x hx)) entD_depth, _, rfl, ?_⟩
      rw [any_ent okE]
      by_cases he : e ∈ es
      · exact nF he ⟨_, _, xs, es, rfl, eH.trans e12, hpe2, hxs2, nd, okE, by omega⟩
      · refine nT he ⟨_, rfl, .inl ⟨rfl, _, SqL.of hpe2⟩, _, rfl, pe, _, _, rfl, rfl, hpe2, small1000 (by have := hxs.len; omega), ?_⟩
        have tu : TT0 H2 (upd H2 pe (.lst (xs ++ [v2]))) := TT0.upd fun zs z => by rw [hpe2] at z; cases z
        refine ⟨_, _, xs ++ [v2], es ++ [e], rfl, (eH.trans e12).mut hpe, upd_same, (hxs2.imp fun _ _ q => q.mono tu).snoc (hv.mono tu), ?_, fun x hx => ?_, by rw [List.length_append, List.length_singleton]; omega⟩
        · rw [List.nodup_append]
          refine ⟨nd, by simp, fun x hx y hy => ?_⟩
          rw [List.mem_singleton.mp hy]
          rintro rfl
          exact he hx
        · rcases List.mem_append.mp hx with hx | hx
          · exact okE x hx
          · rw [List.mem_singleton.mp hx]; exact oke
    · rintro σ' H2 ⟨u3, u4, xs, es, rfl, eH2, hpe2, hxs2, nd, okE, le⟩
      have hq2 := eH2 q _ hms
      -- the two books
      refine ⟨_, rfl, _, rfl, _, rfl, _, rfl, q, _, rfl, SqL.of hq2, fun p3 hp3 => ?_⟩
      obtain ⟨c1, c2⟩ := cut_nums (ms := ms) (lo := 90) (n := 100) (a := 90) (b := 190) rfl rfl (by omega)
      rw [c1]
      have e23 := Ex.new (o := .lst (((ms.drop 90).take 100).map V.int)) hp3
      refine ⟨pe, p3, xs, es, _, rfl, SqL.of (e23 pe _ hpe2), hxs2.imp fun _ _ z => z.mono (TT0.of e23), okE, by omega, SqL.of upd_same, by omega, fun x lv ls ps rs H4 hx hfr e34 Bk l18 v2 hP => ?_⟩
      have e24 := e23.trans e34
      refine ⟨_, rfl, _, rfl, _, rfl, q, _, rfl, SqL.of (e24 q _ hq2), fun p5 hp5 => ?_⟩
      obtain ⟨c3, c4⟩ := cut_back (ms := ms) (lo := 150) (a := 150) rfl (by omega)
      rw [c3]
      have e45 := Ex.new (o := .lst ((ms.drop 150).map V.int)) hp5
      refine ⟨pe, p5, xs, es, _, rfl, SqL.of (e45 pe _ (e24 pe _ hpe2)), hxs2.imp fun _ _ z => z.mono (TT0.of (e24.trans e45)), okE, by omega, SqL.of upd_same, by omega, fun x2 lv2 ls2 ps2 rs2 H6 hx2 hfr2 e56 Bk2 l18b v2b hP2 => ?_⟩
      have e46 := e45.trans e56
      have Bk5 := Bk.ex e45
      have Bk6 := Bk.ex e46
      have nx2 : ¬ Foot lv ls ps x2 := Bk5.foot_ne hx2
      have nf2 : ∀ b, Foot lv2 ls2 ps2 b → ¬ Foot lv ls ps b := fun b hb => Bk5.foot_ne (hfr2 b hb)
      have hpe6 := (e24.trans e46) pe _ hpe2
      have hxs6 := hxs2.imp fun _ _ z => IsEnt.mono (TT0.of (e24.trans e46)) z
      -- the texts
      refine ⟨_, rfl, pe, rfl, ⟨_, SqL.of hpe6⟩, fun D hD => lc_texts hpe6 hxs6 okE (by omega) hD (fun _ => rfl) (fun _ => rfl) fun H7 e67 hD7 => ?_⟩
      refine ⟨D, es.map entText, rfl, SqL.of hD7, by rw [List.length_map]; omega, fun ts pt hperm hsort hpt => ?_⟩
      have e68 := e67.trans (Ex.new (o := .lst (ts.map V.str)) hpt)
      have hpt8 : upd H7 pt (.lst (ts.map V.str)) pt = some (.lst (ts.map V.str)) := upd_same
      generalize upd H7 pt (.lst (ts.map V.str)) = H8 at e68 hpt8
      have tup : ts.Pairwise leS := sorted_pw hsort
      have tnd : ts.Nodup := hperm.nodup_iff.mpr (ent_nodup okE nd)
      have tmem : ∀ t, t ∈ ts ↔ ∃ e, Pres rs e ∧ t = entText e := fun t => by
        rw [hperm.mem_iff, List.mem_map]
        exact ⟨fun ⟨e, h, z⟩ => ⟨e, (hP e).mpr h, z.symm⟩, fun ⟨e, h, z⟩ => ⟨e, (hP e).mp h, z.symm⟩⟩
      have tok : ∀ t ∈ ts, OkS t := fun t ht => by
        obtain ⟨e, he, rfl⟩ := (tmem t).mp ht
        exact oks_text (okE e ((hP e).mp he))
      have Bk8 := Bk6.ex e68
      have Bk28 := Bk2.ex e68
      have npt : ¬ Foot lv ls ps pt := (Bk6.ex e67).foot_ne hpt
      clear hpe6 hxs6 e67 hD7 Bk5 e56 e45 e34 e23 c1 c2 c3 c4 hpt
      have okP : ∀ e, Pres rs e → e.Ok := fun e he => okE e ((hP e).mp he)
      have same : ∀ e, Pres rs2 e ↔ Pres rs e := fun e => (hP2 e).trans (hP e).symm
      refine w_ev (i := 5) rfl Bk8 (by omega) fun q1 xs1 es1 H9 hq1 e89 hl1 ev1 hn1 ha1 => ?_
      have ok1 : ∀ e ∈ es1, e.Ok := fun e he => okP e ((ev1.mem e).mp he)
      have t1 : es1.map entText = ts := texts_one ev1 tup tnd tmem
      have n1 : es1.length ≤ 6 := by
        have l1 := congrArg List.length t1
        have l2 := hperm.length_eq
        rw [List.length_map] at l1 l2
        omega
      refine ⟨q1, rfl, ⟨_, SqL.of hl1⟩, fun D1 hD1 => lc_texts hl1 ha1 ok1 hn1 hD1 (fun _ => rfl) (fun _ => rfl) fun H10 e910 hD10 => ?_⟩
      rw [t1] at hD10
      have e810 := e89.trans e910
      refine ⟨_, rfl, ne_strs hD10 (e810 pt _ hpt8) tok ⟨_, rfl, iteF ?_⟩⟩
      refine w_ev (i := 5) rfl (Bk8.ex e810) (by omega) fun q2 xs2 es2 H11 hq2' e1011 hl2 ev2 hn2 ha2 => ?_
      obtain rfl := ev1.uniq ev2 okP
      refine w_ev (i := 6) rfl (Bk28.ex (e810.trans e1011)) (by omega) fun q3 xs3 es3 H12 hq3 e1112 hl3 ev3 hn3 ha3 => ?_
      obtain rfl := ev1.uniq (ev3.of_same fun e => (same e).symm) okP
      refine ne_ents (e1112 q2 _ hl2) hl3 (ha2.imp fun _ _ z => z.mono (TT0.of e1112)) ha3 ok1 ⟨_, rfl, iteF ?_⟩
      have e812 := e810.trans (e1011.trans e1112)
      -- the kinds
      refine ⟨by show 5 ≤ sizeLine; decide, fun kl hkl => ⟨kl, rfl, ⟨_, SqL.of upd_same⟩, ?_⟩⟩
      have e813 := e812.trans (Ex.new (o := .lst kindsL) hkl)
      have hkl13 : upd H12 kl (.lst kindsL) kl = some (.lst kindsL) := upd_same
      refine for_list (K := K) (a := kl) (xs := kindsL) (fun i σ' H' => ∃ u, σ' = [some (.ref a), some (.ref q), some (.ref pe), u3, u4, some (.ref x), some (.ref x2), some (.ref pt), u, none, none, none, none, none] ∧ Ex (upd H12 kl (.lst kindsL)) H')
        ⟨none, rfl, Ex.refl _⟩ (fun i σ' H' _ ⟨_, _, e⟩ => SqL.of (e kl _ hkl13)) ?_ ?_
      · rintro i y σ' H' hi ⟨u, rfl, eH⟩
        obtain ⟨z, rfl, hz⟩ := kinds_at hi
        have e1 := e813.trans eH
        refine w_kd (i := 5) (j := 8) rfl rfl hz (Bk8.ex e1) (by omega) fun qa xa esa Ha hqa ea hla eva hna haa => ?_
        obtain rfl := ev1.uniq eva okP
        refine w_kd (i := 6) (j := 8) rfl rfl hz (Bk28.ex (e1.trans ea)) (by omega) fun qb xb esb Hb hqb eb hlb evb hnb hab => ?_
        obtain rfl := ev1.uniq (evb.of_same fun e => (same e).symm) okP
        exact ne_tails (eb qa _ hla) hlb (haa.imp fun _ _ z => z.mono (TT0.of eb)) hab (fun e he => ok1 e (List.mem_filter.mp he).1) ⟨_, rfl, iteF ⟨_, rfl, (eH.trans ea).trans eb⟩⟩
      · rintro σ' H14 ⟨u8, rfl, e1314⟩
        have e814 := e813.trans e1314
        -- the drawers
        refine ⟨_, rfl, x, lv, ls, ps, rs, _, rfl, Bk8.ex e814, by omega, ev1, by omega, fun qd td tsd H15 e15 hqd htd hrd => ?_⟩
        refine ⟨_, rfl, x2, lv2, ls2, ps2, rs2, _, rfl, Bk28.ex (e814.trans e15), by omega, ev1.of_same same, by omega, fun qd2 td2 tsd2 H16 e16 hqd2 htd2 hrd2 => ?_⟩
        refine ne_like (d := .tuple [.str "drawer", .tuple ((rowsOf (papersOf es1) (recallsOf es1)).map rowD)]) (.tup (SqT.of (e16 qd _ hqd)) (.cons (.str _) (.cons (.tup (SqT.of (e16 td _ htd)) (dp_all (fun _ _ h => dp_row h) (hrd.imp fun _ _ z => z.mono (TT0.of e16)))) .nil)))
          (.tup (SqT.of hqd2) (.cons (.str _) (.cons (.tup (SqT.of htd2) (dp_all (fun _ _ h => dp_row h) hrd2)) .nil))) (shp ?_ ?_) ⟨_, rfl, iteF ?_⟩
        · have l1 : PyData.canLayAll0 ((rowsOf (papersOf es1) (recallsOf es1)).map rowD) = true := lay_map fun r hr => by
            obtain ⟨z, hz, rfl⟩ := List.mem_map.mp hr
            have hz2 : z ∈ papersOf es1 := (List.mergeSort_perm _ _).mem_iff.mp hz
            have hz3 : Ent.paper z.1 z.2 ∈ es1.filter fun e : Ent => decide (e.kind = ("paper" : Str)) := by rw [papers_filter]; exact List.mem_map.mpr ⟨z, hz2, rfl⟩
            exact lay_row (ok1 _ (List.mem_filter.mp hz3).1).1
          have key : ∀ l : List PyData, PyData.canLayAll0 l = true → PyData.canLay0 (.tuple [.str "drawer", .tuple l]) = true := fun l h => by
            simp [PyData.canLay0, PyData.canLayAll0, h, strOk_of (oks_of "drawer")]
          exact key _ l1
        · have := dep_map rowD_depth (rowsOf (papersOf es1) (recallsOf es1))
          simp only [PyData.depth, PyData.depthAll]
          omega
        · -- the withdrawals
          have e816 := e814.trans (e15.trans e16)
          refine w_st (i := 5) rfl (Bk8.ex e816) (by omega) fun qs H17 hqs e1617 hls => ?_
          refine ⟨_, rfl, qs, _, rfl, SqL.of hls, fun p9 hp9 => ⟨p9, rfl, ⟨_, SqL.of upd_same⟩, ?_⟩⟩
          rw [cut_three]
          have e817 := e816.trans e1617
          have e818 := e817.trans (Ex.new (o := .lst (((stI rs).map nV).take 3)) hp9)
          have hp18 : upd H17 p9 (.lst (((stI rs).map nV).take 3)) p9 = some (.lst (((stI rs).map nV).take 3)) := upd_same
          have np9 : ¬ Foot lv ls ps p9 := (Bk8.ex e817).foot_ne hp9
          have Bkb := Bk8.ex e818
          have Bk2b := Bk28.ex e818
          have hptb := e818 pt _ hpt8
          generalize upd H17 p9 (.lst (((stI rs).map nV).take 3)) = Hb at e818 hp18 Bkb Bk2b hptb
          clear e817 hp9 e1617 hls e816 hqd2 htd2 hrd2 e16 hqd htd hrd e15 e814 e1314 hkl13 e813 hkl e812 hl3 ha3 hl2 ha2 e1112 e1011 e810 e910 hD10 hD1 e89 hl1 ha1 Bk8 Bk28 Bk6 e68 e46 e24
          refine for_list (K := K) (a := p9) (xs := ((stI rs).map nV).take 3) (fun i σ' H' => ∃ u4 u9 u10 u12 rs', σ' = [some (.ref a), some (.ref q), some (.ref pe), u3, u4, some (.ref x), some (.ref x2), some (.ref pt), u8, u9, u10, none, u12, none] ∧
              Off (Foot lv ls ps) Hb H' ∧ BookAt C H' x lv ls ps rs' ∧ Sim rs rs' i)
            ⟨u4, none, none, none, rs, rfl, Off.of (Ex.refl _), Bkb, Sim.refl v2⟩ (fun i σ' H' _ ⟨_, _, _, _, _, _, off, _⟩ => SqL.of (off p9 _ hp18 np9)) ?_ ?_
          · rintro i y σ' Ha hi ⟨u4, u9, u10, u12, rs', rfl, off, Bka, S⟩
            obtain ⟨j, hjm, rfl, i3⟩ : ∃ j, j ∈ stI rs ∧ y = nV j ∧ i < 3 := by
              rw [List.getElem?_take] at hi
              by_cases h3 : i < 3
              · rw [if_pos h3, List.getElem?_map] at hi
                obtain ⟨j, hj, rfl⟩ := Option.map_eq_some_iff.mp hi
                exact ⟨j, List.mem_of_getElem? hj, rfl, h3⟩
              · rw [if_neg h3] at hi
                cases hi
            obtain ⟨r0, hr0, hs0⟩ := mem_stI.mp hjm
            obtain ⟨r, hr, f1, f2, f3⟩ := S.to hr0
            have ft : r.2 = true := f1.trans hs0
            obtain ⟨rne, kd, hkd⟩ := Bka.ok r (List.mem_of_getElem? hr)
            obtain ⟨e0, he0⟩ : ∃ e0, r.1.getLast? = some e0 := ⟨_, List.getLast?_eq_some_getLast rne⟩
            have ok0 := (hkd e0 (List.mem_of_getLast? he0)).2
            have hj' : j < rs'.length := (List.getElem?_eq_some_iff.mp hr).1
            have l30 : rs'.length ≤ 30 := by rw [S.len]; omega
            refine w_vl (i := 5) (j := 9) rfl rfl Bka hr he0 fun v Hc ec hv => ?_
            refine w_st (i := 5) rfl (Bka.ex ec) l30 fun qo Hd hqo ed hlo => ⟨qo, rfl, ⟨_, SqL.of hlo⟩, fun Do hDo => lc_walk (wk_list (K := K) (SqL.of hlo)) (by rw [List.length_map]; have := stI_len rs'; omega) (keepO rs' j e0) (fun _ _ _ => True) (fun _ _ _ _ _ _ => trivial) hDo
              (fun i' y' He Q1 Q2 hi' it ee q1 q2 => ?_) (fun zs Hf ef hz hpk => ?_)⟩
            · rw [List.getElem?_map] at it
              obtain ⟨k', hk', rfl⟩ := Option.map_eq_some_iff.mp it
              obtain ⟨rk, hrk, hsk⟩ := mem_stI.mp (List.mem_of_getElem? hk')
              have keep : keepO rs' j e0 i' = (!decide (k' = j) && decide (lastE rs' k' = some e0)) := by
                unfold keepO
                rw [hk']
              refine ⟨rfl, _, rfl, _, rfl, rfl, _, rfl, ?_⟩
              by_cases hkj : k' = j
              · exact nF (by rw [hkj]) (iteF (q2 (by rw [keep, hkj]; simp) _ (Ex.refl _)))
              · refine nT (fun z => hkj ?_) ?_
                · have := V.int.inj z
                  omega
                obtain ⟨rkne, kk, hkk⟩ := Bka.ok rk (List.mem_of_getElem? hrk)
                obtain ⟨ek, hek⟩ : ∃ e0, rk.1.getLast? = some e0 := ⟨_, List.getLast?_eq_some_getLast rkne⟩
                have okk := (hkk ek (List.mem_of_getLast? hek)).2
                refine w_vl (i := 5) (j := 11) rfl rfl (Bka.ex (ec.trans (ed.trans ee))) hrk hek fun vk Hg eg hvk => ?_
                refine ⟨_, rfl, entD ek, entD e0, dp_ent hvk, dp_ent (hv.mono (TT0.of (ed.trans (ee.trans eg)))), shp (lay_ent okk) (by have := entD_depth ek; omega), shp (lay_ent ok0) (by have := entD_depth e0; omega), _, rfl, ?_⟩
                rw [entD_eqv okk]
                have kp : keepO rs' j e0 i' = decide (ek = e0) := by
                  rw [keep, lastE_of hrk, hek]
                  simp [hkj]
                by_cases hee : ek = e0
                · exact dT hee ⟨_, rfl, q1 (by rw [kp]; exact decide_eq_true hee) _ _ eg trivial⟩
                · exact dF hee (q2 (by rw [kp]; exact decide_eq_false hee) _ eg)
            · have hoth : 0 < zs.length ↔ Oth rs' j e0 := hpk.pos.trans (by rw [List.length_map]; exact oth_iff)
              have eaf := ec.trans (ed.trans ef)
              have hvf := hv.mono (TT0.of (ed.trans ef))
              refine w_wd (b := false) (m := "withdraw") (i := 5) (j := 9) (pf_no _ _ (by decide +kernel) (by decide +kernel)) rfl rfl (Bka.ex eaf) hr (by rw [ft]; decide) fun Hw Bw offw => ?_
              have comp : ∀ {A B D : Hp}, Off (Foot lv ls ps) A B → Off (Foot lv ls ps) B D → Off (Foot lv ls ps) A D := fun a b => a.trans b fun _ _ _ n => n
              have offW := comp (comp off (Off.of eaf)) offw
              have ttw : TT0 Hf Hw := (Bka.ex eaf).tt offw
              have hvw := hvf.mono ttw
              have hptw := offW pt _ hptb npt
              have nDo : ¬ Foot lv ls ps Do := (Bka.ex (ec.trans ed)).foot_ne hDo
              have hzw := offw Do _ hz nDo
              refine ⟨_, rfl, pt, rfl, ⟨_, SqL.of hptw⟩, fun Dd hDd => lc_walk (wk_list (K := K) (SqL.of hptw)) (by rw [List.length_map]; have := hperm.length_eq; rw [List.length_map] at this; omega) (fun i' => match ts[i']? with | some t => !decide (t = entText e0) || decide (0 < zs.length) | none => false)
                (fun i' y _ => ∃ t, ts[i']? = some t ∧ y = .str t) (fun _ _ _ _ r _ => r) hDd (fun i' y' Hx Q1 Q2 hi' it ex q1 q2 => ?_) (fun zs2 Hy ey hz2 hpk2 => ?_)⟩
              · rw [List.getElem?_map] at it
                obtain ⟨t, ht, rfl⟩ := Option.map_eq_some_iff.mp it
                rw [ht] at q1 q2
                refine ⟨rfl, _, rfl, _, rfl, v, e0, rfl, hvw.mono (TT0.of ex), ok0, fun Hx2 ex2 => ⟨rfl, _, rfl, ?_⟩⟩
                by_cases hte : t = entText e0
                · refine nF (by rw [hte]) ⟨_, rfl, Do, _, rfl, .inl (SqL.of ((ex.trans ex2) Do _ hzw)), _, _, rfl, rfl, _, rfl, ?_⟩
                  by_cases hz0 : 0 < zs.length
                  · exact dT (by show (0 : Int) < (zs.length : Int); omega) ⟨_, rfl, q1 (by simp [hz0]) _ _ ex2 ⟨t, rfl, rfl⟩⟩
                  · exact dF (by show ¬ (0 : Int) < (zs.length : Int); omega) (q2 (by show (!decide (t = entText e0) || decide (0 < zs.length)) = false; rw [decide_eq_true hte, decide_eq_false hz0]; rfl) _ ex2)
                · exact nT (fun z => hte (V.str.inj z)) (iteT ⟨_, rfl, q1 (by simp [hte]) _ _ ex2 ⟨t, rfl, rfl⟩⟩)
              · have k2 := (hpk2.filter (S := fun v t => v = V.str t) (xs := ts) (p := fun t => !decide (t = entText e0) || decide (0 < zs.length)) (by rw [List.length_map]; exact Nat.le_refl _) (fun i x hx => by rw [hx]) fun i y x hx _ r => by
                  obtain ⟨t, h1, h2⟩ := r
                  rw [hx] at h1
                  cases h1
                  exact h2).map_eq
                rw [List.length_map, List.take_length] at k2
                rw [k2] at hz2
                have offY := comp offW (Off.of ey)
                have BwY := Bw.ex ey
                have lw : (rs'.set j (r.1, false)).length ≤ 30 := by rw [List.length_set]; exact l30
                have okS : ∀ e, Pres rs' e → e.Ok := fun e he => okP e ((S.pres e).mp he)
                refine w_ev (i := 5) rfl BwY lw fun q5 xs5 es5 H5 hq5 e5 hl5 ev5 hn5 ha5 => ?_
                have t5 : es5.map entText = ts.filter fun t => !decide (t = entText e0) || decide (0 < zs.length) := due_eq tup tnd (fun t => (tmem t).trans ⟨fun ⟨e, h, z⟩ => ⟨e, (S.pres e).mpr h, z⟩, fun ⟨e, h, z⟩ => ⟨e, (S.pres e).mp h, z⟩⟩) okS ok0 ev5 _ fun e => by
                  rw [pres_out hr ft he0 e, decide_eq_true_iff, hoth]
                refine ⟨q5, rfl, ⟨_, SqL.of hl5⟩, fun D5 hD5 => lc_texts hl5 ha5 (fun e he => okS e (((pres_out hr ft he0 e).mp ((ev5.mem e).mp he)).1)) hn5 hD5 (fun _ => rfl) (fun _ => rfl) fun H6 e6 hl6 => ?_⟩
                rw [t5] at hl6
                have e56 := e5.trans e6
                refine ⟨_, rfl, ne_strs hl6 (e56 Dd _ hz2) (fun t ht => tok t (List.mem_filter.mp ht).1) ⟨_, rfl, iteF ?_⟩⟩
                have offZ := comp offY (Off.of e56)
                have g1 : (rs'.set j (r.1, false))[j]? = some (r.1, false) := List.getElem?_set_self hj'
                refine w_co (i := 5) (j := 9) (l := 4) rfl rfl rfl (BwY.ex e56) (hvw.mono (TT0.of (ey.trans e56))) ok0 g1 (fun e' he' => (hkd e' he').1.trans (hkd e0 (List.mem_of_getLast? he0)).1.symm) (by show r.1.length < 6; omega) fun Hz Bz offz => ?_
                have g2 : ((rs'.set j (r.1, false)).set j (r.1 ++ [e0], false))[j]? = some (r.1 ++ [e0], false) := List.getElem?_set_self (by rw [List.length_set]; exact hj')
                refine w_wd (b := true) (m := "restore") (i := 5) (j := 9) (pf_no _ _ (by decide +kernel) (by decide +kernel)) rfl rfl Bz g2 (by show false ≠ true; decide) fun Hr Br offr => ?_
                rw [List.set_set, List.set_set] at Br
                have S2 := S.step hr ft he0
                have offR := comp (comp offZ offz) offr
                have B2r := Bk2b.other offR (Bkb.tt offR) nx2 nf2
                refine w_ev (i := 5) rfl Br (by rw [List.length_set]; exact l30) fun q7 xs7 es7 H7 hq7 e7 hl7 ev7 hn7 ha7 => ?_
                obtain rfl := ev1.uniq (ev7.of_same fun e => (S2.pres e).symm) okP
                refine w_ev (i := 6) rfl (B2r.ex e7) (by omega) fun q9 xs9 es9 H9 hq9 e9 hl9 ev9 hn9 ha9 => ?_
                obtain rfl := ev1.uniq (ev9.of_same fun e => (same e).symm) okP
                refine ne_ents (e9 q7 _ hl7) hl9 (ha7.imp fun _ _ z => z.mono (TT0.of e9)) ha9 ok1 ⟨_, rfl, iteF ?_⟩
                exact ⟨_, _, _, _, _, rfl, comp offR (Off.of (e7.trans e9)), Br.ex (e7.trans e9), S2⟩
          · rintro σ' Hz ⟨u4, u9, u10, u12, rs', rfl, off, Bka, S⟩
            exact h _
end
end Kb

set_option Elab.async false
set_option linter.all false
set_option maxRecDepth 100000
set_option maxHeartbeats 4000000
/-! K64, the top's facts by names; every def keeps its promise. -/
namespace Kb
open PySem PySem.Spec PyProof.Rows L2 Evl TL
/-! ### the head's look: defs, facts, a table, and what stands in tuples and in the table -/
abbrev AlX : Type := He.AlT × Bool
def obsX (fa : List He.Fa) (fn : List He.DefD) (ts : List He.Tab) (ex : PySem.W.Frag → Bool) (K : PySem.W.Frag) : AlX := (He.obsT fa fn ts K, ex K)
def obsXG (n : Nat) (fa : List He.Fa) (fn : List He.DefD) (ts : List He.Tab) (ex : PySem.W.Frag → Bool) (g : Addr → Option Obj) : AlX := obsX fa fn ts ex (He.frG g (He.asD g n))
def SaysX (fa : List He.Fa) (fn : List He.DefD) (ts : List He.Tab) (ex : PySem.W.Frag → Bool) (w : World) (K : PySem.W.Frag) : Prop := obsX fa fn ts ex K = (He.valT fn ts w, true)
def hookX (n : Nat) (fa : List He.Fa) (fn : List He.DefD) (ts : List He.Tab) (ex : PySem.W.Frag → Bool) : PySem.W.Hook where
  α := AlX
  obs := fun s => obsXG n fa fn ts ex s.heap.get?
  val := fun w => (He.valT fn ts w, true)
  says := fun w h => ∃ K : PySem.W.Frag, K.In h ∧ SaysX fa fn ts ex w K
  of := fun _ _ e => ⟨_, He.frG_in, e⟩
  keeps := fun _ _ _ ⟨K, hK, c⟩ k => ⟨K, PySem.W.Frag.In.keeps hK k, c⟩
theorem obsXG_eq {n : Nat} {fa : List He.Fa} {fn : List He.DefD} {ts : List He.Tab} {ex : PySem.W.Frag → Bool} {g : Addr → Option Obj} {s : Shared} (h : ∀ a, g a = s.heap.get? a) : obsXG n fa fn ts ex g = (hookX n fa fn ts ex).obs s := by
  have e : g = s.heap.get? := funext h
  rw [e] <;> rfl
/-! ### this text's -/
def d_common : He.DefD := ⟨("common", none), "common", "common", defArgs s_common, defBody s_common, defScope s_common, [], []⟩
def d_is_ratio : He.DefD := ⟨("is_ratio", none), "is_ratio", "is_ratio", defArgs s_is_ratio, defBody s_is_ratio, defScope s_is_ratio, [], []⟩
def d_sign_of : He.DefD := ⟨("sign_of", none), "sign_of", "sign_of", defArgs s_sign_of, defBody s_sign_of, defScope s_sign_of, [], []⟩
def d_compare : He.DefD := ⟨("compare", none), "compare", "compare", defArgs s_compare, defBody s_compare, defScope s_compare, [], []⟩
def d_ratio_text : He.DefD := ⟨("ratio_text", none), "ratio_text", "ratio_text", defArgs s_ratio_text, defBody s_ratio_text, defScope s_ratio_text, [], []⟩
def d_is_scale : He.DefD := ⟨("is_scale", none), "is_scale", "is_scale", defArgs s_is_scale, defBody s_is_scale, defScope s_is_scale, [], []⟩
def d_is_day : He.DefD := ⟨("is_day", none), "is_day", "is_day", defArgs s_is_day, defBody s_is_day, defScope s_is_day, [], []⟩
def d_is_weight : He.DefD := ⟨("is_weight", none), "is_weight", "is_weight", defArgs s_is_weight, defBody s_is_weight, defScope s_is_weight, [], []⟩
def d_check_paper : He.DefD := ⟨("check_paper", none), "check_paper", "check_paper", defArgs s_check_paper, defBody s_check_paper, defScope s_check_paper, [], []⟩
def d_check_scale : He.DefD := ⟨("check_scale", none), "check_scale", "check_scale", defArgs s_check_scale, defBody s_check_scale, defScope s_check_scale, [], []⟩
def d_check_day : He.DefD := ⟨("check_day", none), "check_day", "check_day", defArgs s_check_day, defBody s_check_day, defScope s_check_day, [], []⟩
def d_earlier : He.DefD := ⟨("earlier", none), "earlier", "earlier", defArgs s_earlier, defBody s_earlier, defScope s_earlier, [], []⟩
def d_check_lots : He.DefD := ⟨("check_lots", none), "check_lots", "check_lots", defArgs s_check_lots, defBody s_check_lots, defScope s_check_lots, [], []⟩
def d_check_known : He.DefD := ⟨("check_known", none), "check_known", "check_known", defArgs s_check_known, defBody s_check_known, defScope s_check_known, [], []⟩
def d_ratios_of : He.DefD := ⟨("ratios_of", none), "ratios_of", "ratios_of", defArgs s_ratios_of, defBody s_ratios_of, defScope s_ratios_of, [], []⟩
def d_check_weighing : He.DefD := ⟨("check_weighing", none), "check_weighing", "check_weighing", defArgs s_check_weighing, defBody s_check_weighing, defScope s_check_weighing, [], []⟩
def d_check_entry : He.DefD := ⟨("check_entry", none), "check_entry", "check_entry", defArgs s_check_entry, defBody s_check_entry, defScope s_check_entry, [], []⟩
def d_lots_text : He.DefD := ⟨("lots_text", none), "lots_text", "lots_text", defArgs s_lots_text, defBody s_lots_text, defScope s_lots_text, [], []⟩
def d_paper_words : He.DefD := ⟨("paper_words", none), "paper_words", "paper_words", defArgs s_paper_words, defBody s_paper_words, defScope s_paper_words, [], []⟩
def d_entry_text : He.DefD := ⟨("entry_text", none), "entry_text", "entry_text", defArgs s_entry_text, defBody s_entry_text, defScope s_entry_text, [], []⟩
def d_Book_init : He.DefD := ⟨("Book", some "__init__"), "__init__", "Book.__init__", defArgs s_Book_init, defBody s_Book_init, defScope s_Book_init, [], []⟩
def d_Book_place : He.DefD := ⟨("Book", some "place"), "place", "Book.place", defArgs s_Book_place, defBody s_Book_place, defScope s_Book_place, [], []⟩
def d_Book_add : He.DefD := ⟨("Book", some "add"), "add", "Book.add", defArgs s_Book_add, defBody s_Book_add, defScope s_Book_add, [], []⟩
def d_Book_correct : He.DefD := ⟨("Book", some "correct"), "correct", "Book.correct", defArgs s_Book_correct, defBody s_Book_correct, defScope s_Book_correct, [], []⟩
def d_Book_set_standing : He.DefD := ⟨("Book", some "set_standing"), "set_standing", "Book.set_standing", defArgs s_Book_set_standing, defBody s_Book_set_standing, defScope s_Book_set_standing, [], []⟩
def d_Book_withdraw : He.DefD := ⟨("Book", some "withdraw"), "withdraw", "Book.withdraw", defArgs s_Book_withdraw, defBody s_Book_withdraw, defScope s_Book_withdraw, [], []⟩
def d_Book_restore : He.DefD := ⟨("Book", some "restore"), "restore", "Book.restore", defArgs s_Book_restore, defBody s_Book_restore, defScope s_Book_restore, [], []⟩
def d_Book_versions : He.DefD := ⟨("Book", some "versions"), "versions", "Book.versions", defArgs s_Book_versions, defBody s_Book_versions, defScope s_Book_versions, [], []⟩
def d_Book_standing : He.DefD := ⟨("Book", some "standing"), "standing", "Book.standing", defArgs s_Book_standing, defBody s_Book_standing, defScope s_Book_standing, [], []⟩
def d_Book_evidence : He.DefD := ⟨("Book", some "evidence"), "evidence", "Book.evidence", defArgs s_Book_evidence, defBody s_Book_evidence, defScope s_Book_evidence, [], []⟩
def d_Book_of_kind : He.DefD := ⟨("Book", some "of_kind"), "of_kind", "Book.of_kind", defArgs s_Book_of_kind, defBody s_Book_of_kind, defScope s_Book_of_kind, [], []⟩
def d_l_numbers : He.DefD := ⟨("_law_numbers", none), "_law_numbers", "_law_numbers", defArgs s_l_numbers, defBody s_l_numbers, defScope s_l_numbers, [], []⟩
def d_l_ratio : He.DefD := ⟨("_law_ratio", none), "_law_ratio", "_law_ratio", defArgs s_l_ratio, defBody s_l_ratio, defScope s_l_ratio, [], []⟩
def d_l_lots : He.DefD := ⟨("_law_lots", none), "_law_lots", "_law_lots", defArgs s_l_lots, defBody s_l_lots, defScope s_l_lots, [], []⟩
def d_l_paper : He.DefD := ⟨("_law_paper", none), "_law_paper", "_law_paper", defArgs s_l_paper, defBody s_l_paper, defScope s_l_paper, [], []⟩
def d_l_entry : He.DefD := ⟨("_law_entry", none), "_law_entry", "_law_entry", defArgs s_l_entry, defBody s_l_entry, defScope s_l_entry, [], []⟩
def d_l_ratio_text : He.DefD := ⟨("_law_ratio_text", none), "_law_ratio_text", "_law_ratio_text", defArgs s_l_ratio_text, defBody s_l_ratio_text, defScope s_l_ratio_text, [], []⟩
def d_l_text : He.DefD := ⟨("_law_text", none), "_law_text", "_law_text", defArgs s_l_text, defBody s_l_text, defScope s_l_text, [], []⟩
def d_l_made : He.DefD := ⟨("_law_made", none), "_law_made", "_law_made", defArgs s_l_made, defBody s_l_made, defScope s_l_made, [], []⟩
def d_drawer_of : He.DefD := ⟨("drawer_of", none), "drawer_of", "drawer_of", defArgs s_drawer_of, defBody s_drawer_of, defScope s_drawer_of, [], []⟩
def d_l_drawer : He.DefD := ⟨("_law_drawer", none), "_law_drawer", "_law_drawer", defArgs s_l_drawer, defBody s_l_drawer, defScope s_l_drawer, [], []⟩
def d_law : He.DefD := ⟨("law", none), "law", "law", defArgs s_law, defBody s_law, defScope s_law, [], []⟩
def fnL : List He.DefD := [d_common, d_is_ratio, d_sign_of, d_compare, d_ratio_text, d_is_scale, d_is_day, d_is_weight, d_check_paper, d_check_scale, d_check_day, d_earlier, d_check_lots, d_check_known, d_ratios_of, d_check_weighing, d_check_entry, d_lots_text, d_paper_words, d_entry_text, d_Book_init]
def fnM : List He.DefD := [d_Book_place, d_Book_add, d_Book_correct, d_Book_set_standing, d_Book_withdraw, d_Book_restore, d_Book_versions, d_Book_standing, d_Book_evidence, d_Book_of_kind, d_l_numbers, d_l_ratio, d_l_lots, d_l_paper, d_l_entry, d_l_ratio_text, d_l_text, d_l_made, d_drawer_of, d_l_drawer, d_law]
def fnX : List He.DefD := fnL ++ fnM
def faA : List He.Fa := [.free "len", .free "abs", .free "all", .free "str", .free "int", .free "max", .free "min", .free "list", .free "tuple", .free "set", .free "sorted", .free "range", .free "enumerate", .int "MAX_TEXT" 60, .int "MAX_DAY" 999, .int "MAX_PAPERS" 12, .int "MAX_NAME" 4, .int "MAX_WEIGHED_weighings" 8, .int "MAX_NUMBER" 99, .int "MAX_LOT" 99, .int "MAX_WEIGHED_entries" 8, .int "MAX_RECORDS" 30, .int "MAX_VERSIONS" 6, .str "LETTERS" "abcdefghijklmnopqrstuvwxyz", .glo "KINDS", .glo "ONE", .glo "LENGTHS", .glo "KerbError", .glo "Book", .glo "common"]
def faB : List He.Fa := [.glo "is_ratio", .glo "sign_of", .glo "compare", .glo "ratio_text", .glo "is_scale", .glo "is_day", .glo "is_weight", .glo "check_paper", .glo "check_scale", .glo "check_day", .glo "earlier", .glo "check_lots", .glo "check_known", .glo "ratios_of", .glo "check_weighing", .glo "check_entry", .glo "lots_text", .glo "paper_words", .glo "entry_text", .glo "_law_numbers", .glo "_law_ratio", .glo "_law_lots", .glo "_law_paper", .glo "_law_entry", .glo "_law_ratio_text", .glo "_law_text", .glo "_law_made", .glo "drawer_of", .glo "_law_drawer", .glo "law"]
def faC : List He.Fa := [.cls "Book", .noat "Book" "_versions", .noat "Book" "_stands", .meth "Book" "place", .meth "Book" "add", .meth "Book" "correct", .meth "Book" "set_standing", .meth "Book" "withdraw", .meth "Book" "restore", .meth "Book" "versions", .meth "Book" "standing", .meth "Book" "evidence", .meth "Book" "of_kind", .mkr "Book"]
def faX : List He.Fa := faA ++ (faB ++ faC)
def tabX : List He.Tab := [(fun K => He.ga K "LENGTHS", ["find", "known", "paper", "recall", "weighing"])]
def lenX : List (Str × He.Dv) := [("find", .int 3), ("known", .int 3), ("paper", .int 3), ("recall", .int 4), ("weighing", .int 5)]
def exX (K : PySem.W.Frag) : Bool := He.tupB K "KINDS" [.str "find", .str "known", .str "paper", .str "recall", .str "weighing"] && (He.tupB K "ONE" [.int 1, .int 1] && He.valsB K (He.ga K "LENGTHS") lenX)
theorem faX_at {i : Nat} {f : He.Fa} (h : faX[i]? = some f) {K : PySem.W.Frag} (c : He.SaysD faX fnX K) : f.ok K = true := c.fact i h
theorem kdct_of {K : PySem.W.Frag} {w : World} {x : Str} {i : Int} (h : He.valsB K (He.ga K "LENGTHS") lenX = true) (D : ∃ es n, KDict K w (He.ga K "LENGTHS") es n) (hm : (x, He.Dv.int i) ∈ lenX) : KDct K w (He.ga K "LENGTHS") x (.int i) := by
  obtain ⟨es, n, D⟩ := D
  obtain ⟨u, e, r⟩ := He.valsB_ok h hm
  exact ⟨es, n, u, D.at_, D.lit, e, r⟩
theorem facts {P : Program} {w : World} {K : PySem.W.Frag} {h : Heap} {mg : Str → Option Value} {f : Addr} (X : K.In h) (G : h.Ns mainGlobals mg) (hfa : mg ("law" : Str) = some (.ref f)) (c : SaysX faX fnX tabX exX w K) :
    ∃ fd : FuncData, (∀ (s : Shared) (v : Value), BindsTo s fd ⟨[v], []⟩ [("_law_script", v)]) ∧ ∀ base : Heap, K.In base → base.Ns mainGlobals mg → FnOk P w K mg base CX0 8 f fd ["_law_script"] (spLaw K) := by
  have cT : He.SaysT faX fnX tabX w K := congrArg (fun z : AlX => z.1) c
  have cE : exX K = true := congrArg (fun z : AlX => z.2) c
  have cD := cT.d
  obtain ⟨ek, cE⟩ := He.ba cE
  obtain ⟨eo, el⟩ := He.ba cE
  have tb := cT.tab 0 (t := (fun K => He.ga K "LENGTHS", ["find", "known", "paper", "recall", "weighing"])) rfl
  have T : Tx K w mg (He.ga K "KINDS") (He.ga K "ONE") (He.ga K "LENGTHS") := {
    b_len := He.free_ok X G (cD.fact 0 (f := .free "len") rfl),
    b_abs := He.free_ok X G (cD.fact 1 (f := .free "abs") rfl),
    b_all := He.free_ok X G (cD.fact 2 (f := .free "all") rfl),
    b_str := He.free_ok X G (cD.fact 3 (f := .free "str") rfl),
    b_int := He.free_ok X G (cD.fact 4 (f := .free "int") rfl),
    b_max := He.free_ok X G (cD.fact 5 (f := .free "max") rfl),
    b_min := He.free_ok X G (cD.fact 6 (f := .free "min") rfl),
    b_list := He.free_ok X G (cD.fact 7 (f := .free "list") rfl),
    b_tuple := He.free_ok X G (cD.fact 8 (f := .free "tuple") rfl),
    b_set := He.free_ok X G (cD.fact 9 (f := .free "set") rfl),
    b_sorted := He.free_ok X G (cD.fact 10 (f := .free "sorted") rfl),
    b_range := He.free_ok X G (cD.fact 11 (f := .free "range") rfl),
    b_enumerate := He.free_ok X G (cD.fact 12 (f := .free "enumerate") rfl),
    m_MAX_TEXT := He.int_ok X G (cD.fact 13 (f := .int "MAX_TEXT" 60) rfl),
    m_MAX_DAY := He.int_ok X G (cD.fact 14 (f := .int "MAX_DAY" 999) rfl),
    m_MAX_PAPERS := He.int_ok X G (cD.fact 15 (f := .int "MAX_PAPERS" 12) rfl),
    m_MAX_NAME := He.int_ok X G (cD.fact 16 (f := .int "MAX_NAME" 4) rfl),
    m_MAX_WEIGHED_weighings := He.int_ok X G (cD.fact 17 (f := .int "MAX_WEIGHED_weighings" 8) rfl),
    m_MAX_NUMBER := He.int_ok X G (cD.fact 18 (f := .int "MAX_NUMBER" 99) rfl),
    m_MAX_LOT := He.int_ok X G (cD.fact 19 (f := .int "MAX_LOT" 99) rfl),
    m_MAX_WEIGHED_entries := He.int_ok X G (cD.fact 20 (f := .int "MAX_WEIGHED_entries" 8) rfl),
    m_MAX_RECORDS := He.int_ok X G (cD.fact 21 (f := .int "MAX_RECORDS" 30) rfl),
    m_MAX_VERSIONS := He.int_ok X G (cD.fact 22 (f := .int "MAX_VERSIONS" 6) rfl),
    m_LETTERS := He.str_ok X G (cD.fact 23 (f := .str "LETTERS" "abcdefghijklmnopqrstuvwxyz") rfl),
    m_KINDS := He.glo_ok X G (cD.fact 24 (f := .glo "KINDS") rfl),
    KINDS := fun H => He.tupB_ok ek H,
    m_ONE := He.glo_ok X G (cD.fact 25 (f := .glo "ONE") rfl),
    ONE := fun H => He.tupB_ok eo H,
    m_LENGTHS := He.glo_ok X G (cD.fact 26 (f := .glo "LENGTHS") rfl),
    L_find := kdct_of el tb (by simp [lenX]),
    L_known := kdct_of el tb (by simp [lenX]),
    L_paper := kdct_of el tb (by simp [lenX]),
    L_recall := kdct_of el tb (by simp [lenX]),
    L_weighing := kdct_of el tb (by simp [lenX]) }
  have B : TB K mg (He.ga K "Book") := { cl := He.cls_ok (cD.fact 60 (f := .cls "Book") rfl), nV := He.noat_ok (cD.fact 61 (f := .noat "Book" "_versions") rfl), nS := He.noat_ok (cD.fact 62 (f := .noat "Book" "_stands") rfl), m_Book := He.glo_ok X G (cD.fact 28 (f := .glo "Book") rfl) }
  have mKE : ∃ c, mg "KerbError" = some c := ⟨_, He.glo_ok X G (cD.fact 27 (f := .glo "KerbError") rfl)⟩
  obtain ⟨fd0, F0⟩ := cD.def_ 0 (d := d_common) rfl
  have g_common : ∀ base : Heap, Fd P w K mg base "common" 1 ["first", "second"] spCommon := fun base => ⟨_, fd0, ok_common F0 T, He.glo_ok X G (cD.fact 29 (f := .glo "common") rfl), F0.kp, F0.bindsN fun _ _ _ _ _ _ us hl => match us, hl with | [_, _], _ => rfl⟩
  obtain ⟨fd1, F1⟩ := cD.def_ 1 (d := d_is_ratio) rfl
  have g_is_ratio : ∀ base : Heap, Fd P w K mg base "is_ratio" 2 ["pair"] spIsRatio := fun base => ⟨_, fd1, ok_is_ratio F1 T (g_common base), He.glo_ok X G (cD.fact 30 (f := .glo "is_ratio") rfl), F1.kp, F1.bindsN fun _ _ _ _ _ _ us hl => match us, hl with | [_], _ => rfl⟩
  obtain ⟨fd2, F2⟩ := cD.def_ 2 (d := d_sign_of) rfl
  have g_sign_of : ∀ base : Heap, Fd P w K mg base "sign_of" 1 ["first"] (spSignOf K) := fun base => ⟨_, fd2, ok_sign_of F2 T, He.glo_ok X G (cD.fact 31 (f := .glo "sign_of") rfl), F2.kp, F2.bindsN fun _ _ _ _ _ _ us hl => match us, hl with | [_], _ => rfl⟩
  obtain ⟨fd3, F3⟩ := cD.def_ 3 (d := d_compare) rfl
  have g_compare : ∀ base : Heap, Fd P w K mg base "compare" 2 ["first", "second"] (spCompare K) := fun base => ⟨_, fd3, ok_compare F3 T (g_sign_of base), He.glo_ok X G (cD.fact 32 (f := .glo "compare") rfl), F3.kp, F3.bindsN fun _ _ _ _ _ _ us hl => match us, hl with | [_, _], _ => rfl⟩
  obtain ⟨fd4, F4⟩ := cD.def_ 4 (d := d_ratio_text) rfl
  have g_ratio_text : ∀ base : Heap, Fd P w K mg base "ratio_text" 1 ["first"] spRatioText := fun base => ⟨_, fd4, ok_ratio_text F4 T, He.glo_ok X G (cD.fact 33 (f := .glo "ratio_text") rfl), F4.kp, F4.bindsN fun _ _ _ _ _ _ us hl => match us, hl with | [_], _ => rfl⟩
  obtain ⟨fd5, F5⟩ := cD.def_ 5 (d := d_is_scale) rfl
  have g_is_scale : ∀ base : Heap, Fd P w K mg base "is_scale" 1 ["text"] spIsScale := fun base => ⟨_, fd5, ok_is_scale F5 T, He.glo_ok X G (cD.fact 34 (f := .glo "is_scale") rfl), F5.kp, F5.bindsN fun _ _ _ _ _ _ us hl => match us, hl with | [_], _ => rfl⟩
  obtain ⟨fd6, F6⟩ := cD.def_ 6 (d := d_is_day) rfl
  have g_is_day : ∀ base : Heap, Fd P w K mg base "is_day" 1 ["day"] spIsDay := fun base => ⟨_, fd6, ok_is_day F6 T, He.glo_ok X G (cD.fact 35 (f := .glo "is_day") rfl), F6.kp, F6.bindsN fun _ _ _ _ _ _ us hl => match us, hl with | [_], _ => rfl⟩
  obtain ⟨fd7, F7⟩ := cD.def_ 7 (d := d_is_weight) rfl
  have g_is_weight : ∀ base : Heap, Fd P w K mg base "is_weight" 3 ["weight"] spIsWeight := fun base => ⟨_, fd7, ok_is_weight F7 T (g_is_ratio base) (g_sign_of base), He.glo_ok X G (cD.fact 36 (f := .glo "is_weight") rfl), F7.kp, F7.bindsN fun _ _ _ _ _ _ us hl => match us, hl with | [_], _ => rfl⟩
  obtain ⟨fd8, F8⟩ := cD.def_ 8 (d := d_check_paper) rfl
  have g_check_paper : ∀ base : Heap, Fd P w K mg base "check_paper" 4 ["paper"] spCheckPaper := fun base => ⟨_, fd8, ok_check_paper F8 T (g_is_weight base) (g_compare base), He.glo_ok X G (cD.fact 37 (f := .glo "check_paper") rfl), F8.kp, F8.bindsN fun _ _ _ _ _ _ us hl => match us, hl with | [_], _ => rfl⟩
  obtain ⟨fd9, F9⟩ := cD.def_ 9 (d := d_check_scale) rfl
  have g_check_scale : ∀ base : Heap, Fd P w K mg base "check_scale" 2 ["text"] spCheckScale := fun base => ⟨_, fd9, ok_check_scale F9 T (g_is_scale base), He.glo_ok X G (cD.fact 38 (f := .glo "check_scale") rfl), F9.kp, F9.bindsN fun _ _ _ _ _ _ us hl => match us, hl with | [_], _ => rfl⟩
  obtain ⟨fd10, F10⟩ := cD.def_ 10 (d := d_check_day) rfl
  have g_check_day : ∀ base : Heap, Fd P w K mg base "check_day" 2 ["day"] spCheckDay := fun base => ⟨_, fd10, ok_check_day F10 T (g_is_day base), He.glo_ok X G (cD.fact 39 (f := .glo "check_day") rfl), F10.kp, F10.bindsN fun _ _ _ _ _ _ us hl => match us, hl with | [_], _ => rfl⟩
  obtain ⟨fd11, F11⟩ := cD.def_ 11 (d := d_earlier) rfl
  have g_earlier : ∀ base : Heap, Fd P w K mg base "earlier" 1 ["until", "day"] spEarlier := fun base => ⟨_, fd11, ok_earlier F11 T, He.glo_ok X G (cD.fact 40 (f := .glo "earlier") rfl), F11.kp, F11.bindsN fun _ _ _ _ _ _ us hl => match us, hl with | [_, _], _ => rfl⟩
  obtain ⟨fd12, F12⟩ := cD.def_ 12 (d := d_check_lots) rfl
  have g_check_lots : ∀ base : Heap, Fd P w K mg base "check_lots" 1 ["lots"] spCheckLots := fun base => ⟨_, fd12, ok_check_lots F12 T, He.glo_ok X G (cD.fact 41 (f := .glo "check_lots") rfl), F12.kp, F12.bindsN fun _ _ _ _ _ _ us hl => match us, hl with | [_], _ => rfl⟩
  obtain ⟨fd13, F13⟩ := cD.def_ 13 (d := d_check_known) rfl
  have g_check_known : ∀ base : Heap, Fd P w K mg base "check_known" 2 ["entry"] spCheckKnown := fun base => ⟨_, fd13, ok_check_known F13 T (g_check_lots base) (g_sign_of base), He.glo_ok X G (cD.fact 42 (f := .glo "check_known") rfl), F13.kp, F13.bindsN fun _ _ _ _ _ _ us hl => match us, hl with | [_], _ => rfl⟩
  obtain ⟨fd14, F14⟩ := cD.def_ 14 (d := d_ratios_of) rfl
  have g_ratios_of : ∀ base : Heap, Fd P w K mg base "ratios_of" 1 ["entry"] spRatiosOf := fun base => ⟨_, fd14, ok_ratios_of F14 T, He.glo_ok X G (cD.fact 43 (f := .glo "ratios_of") rfl), F14.kp, F14.bindsN fun _ _ _ _ _ _ us hl => match us, hl with | [_], _ => rfl⟩
  obtain ⟨fd15, F15⟩ := cD.def_ 15 (d := d_check_weighing) rfl
  have g_check_weighing : ∀ base : Heap, Fd P w K mg base "check_weighing" 4 ["weighing"] spCheckWeighing := fun base => ⟨_, fd15, ok_check_weighing F15 T (g_check_scale base) (g_check_day base) (g_is_weight base), He.glo_ok X G (cD.fact 44 (f := .glo "check_weighing") rfl), F15.kp, F15.bindsN fun _ _ _ _ _ _ us hl => match us, hl with | [_], _ => rfl⟩
  obtain ⟨fd16, F16⟩ := cD.def_ 16 (d := d_check_entry) rfl
  have g_check_entry : ∀ base : Heap, Fd P w K mg base "check_entry" 5 ["entry"] spCheckEntry := fun base => ⟨_, fd16, ok_check_entry F16 T (g_check_weighing base) (g_check_known base) (g_is_scale base) (g_check_paper base) (g_ratios_of base) (g_ratio_text base), He.glo_ok X G (cD.fact 45 (f := .glo "check_entry") rfl), F16.kp, F16.bindsN fun _ _ _ _ _ _ us hl => match us, hl with | [_], _ => rfl⟩
  obtain ⟨fd17, F17⟩ := cD.def_ 17 (d := d_lots_text) rfl
  have g_lots_text : ∀ base : Heap, Fd P w K mg base "lots_text" 1 ["lots"] spLotsText := fun base => ⟨_, fd17, ok_lots_text F17 T, He.glo_ok X G (cD.fact 46 (f := .glo "lots_text") rfl), F17.kp, F17.bindsN fun _ _ _ _ _ _ us hl => match us, hl with | [_], _ => rfl⟩
  obtain ⟨fd18, F18⟩ := cD.def_ 18 (d := d_paper_words) rfl
  have g_paper_words : ∀ base : Heap, Fd P w K mg base "paper_words" 2 ["scale", "paper"] spPaperWords := fun base => ⟨_, fd18, ok_paper_words F18 T (g_ratio_text base), He.glo_ok X G (cD.fact 47 (f := .glo "paper_words") rfl), F18.kp, F18.bindsN fun _ _ _ _ _ _ us hl => match us, hl with | [_, _], _ => rfl⟩
  obtain ⟨fd19, F19⟩ := cD.def_ 19 (d := d_entry_text) rfl
  have g_entry_text : ∀ base : Heap, Fd P w K mg base "entry_text" 3 ["entry"] spEntryText := fun base => ⟨_, fd19, ok_entry_text F19 T (g_ratio_text base) (g_lots_text base) (g_paper_words base), He.glo_ok X G (cD.fact 48 (f := .glo "entry_text") rfl), F19.kp, F19.bindsN fun _ _ _ _ _ _ us hl => match us, hl with | [_], _ => rfl⟩
  obtain ⟨fd20, F20⟩ := cD.def_ 20 (d := d_Book_init) rfl
  have g_Book_init : ∀ base : Heap, Cd P w K mg base (He.ga K "Book") 1 ["self"] (spInit (He.ga K "Book")) := fun base => ⟨_, fd20, ok_init F20 T B, He.mkr_ok (cD.fact 73 (f := .mkr "Book") rfl), F20.bindsN fun _ _ _ _ _ _ us hl => match us, hl with | [_], _ => rfl⟩
  obtain ⟨fd21, F21⟩ := cD.def_ 21 (d := d_Book_place) rfl
  have g_Book_place : ∀ base : Heap, Md P w K mg base (He.ga K "Book") "place" 1 ["self", "number"] (spPlace (He.ga K "Book")) := fun base => ⟨_, fd21, ok_place F21 T B, He.meth_ok (cD.fact 63 (f := .meth "Book" "place") rfl), F21.bindsN fun _ _ _ _ _ _ us hl => match us, hl with | [_, _], _ => rfl⟩
  obtain ⟨fd22, F22⟩ := cD.def_ 22 (d := d_Book_add) rfl
  have g_Book_add : ∀ base : Heap, Md P w K mg base (He.ga K "Book") "add" 6 ["self", "entry"] (spAdd (He.ga K "Book")) := fun base => ⟨_, fd22, ok_add F22 T B (g_check_entry base), He.meth_ok (cD.fact 64 (f := .meth "Book" "add") rfl), F22.bindsN fun _ _ _ _ _ _ us hl => match us, hl with | [_, _], _ => rfl⟩
  obtain ⟨fd23, F23⟩ := cD.def_ 23 (d := d_Book_correct) rfl
  have g_Book_correct : ∀ base : Heap, Md P w K mg base (He.ga K "Book") "correct" 6 ["self", "number", "entry"] (spCorrect (He.ga K "Book")) := fun base => ⟨_, fd23, ok_correct F23 T B (g_check_entry base) (g_Book_place base), He.meth_ok (cD.fact 65 (f := .meth "Book" "correct") rfl), F23.bindsN fun _ _ _ _ _ _ us hl => match us, hl with | [_, _, _], _ => rfl⟩
  obtain ⟨fd24, F24⟩ := cD.def_ 24 (d := d_Book_set_standing) rfl
  have g_Book_set_standing : ∀ base : Heap, Md P w K mg base (He.ga K "Book") "set_standing" 2 ["self", "number", "stands"] (spSet (He.ga K "Book")) := fun base => ⟨_, fd24, ok_set F24 T B (g_Book_place base), He.meth_ok (cD.fact 66 (f := .meth "Book" "set_standing") rfl), F24.bindsN fun _ _ _ _ _ _ us hl => match us, hl with | [_, _, _], _ => rfl⟩
  obtain ⟨fd25, F25⟩ := cD.def_ 25 (d := d_Book_withdraw) rfl
  have g_Book_withdraw : ∀ base : Heap, Md P w K mg base (He.ga K "Book") "withdraw" 3 ["self", "number"] (spWithdraw (He.ga K "Book") false) := fun base => ⟨_, fd25, ok_withdraw F25 T B (g_Book_set_standing base), He.meth_ok (cD.fact 67 (f := .meth "Book" "withdraw") rfl), F25.bindsN fun _ _ _ _ _ _ us hl => match us, hl with | [_, _], _ => rfl⟩
  obtain ⟨fd26, F26⟩ := cD.def_ 26 (d := d_Book_restore) rfl
  have g_Book_restore : ∀ base : Heap, Md P w K mg base (He.ga K "Book") "restore" 3 ["self", "number"] (spWithdraw (He.ga K "Book") true) := fun base => ⟨_, fd26, ok_restore F26 T B (g_Book_set_standing base), He.meth_ok (cD.fact 68 (f := .meth "Book" "restore") rfl), F26.bindsN fun _ _ _ _ _ _ us hl => match us, hl with | [_, _], _ => rfl⟩
  obtain ⟨fd27, F27⟩ := cD.def_ 27 (d := d_Book_versions) rfl
  have g_Book_versions : ∀ base : Heap, Md P w K mg base (He.ga K "Book") "versions" 2 ["self", "number"] (spVersions (He.ga K "Book")) := fun base => ⟨_, fd27, ok_versions F27 T B (g_Book_place base), He.meth_ok (cD.fact 69 (f := .meth "Book" "versions") rfl), F27.bindsN fun _ _ _ _ _ _ us hl => match us, hl with | [_, _], _ => rfl⟩
  obtain ⟨fd28, F28⟩ := cD.def_ 28 (d := d_Book_standing) rfl
  have g_Book_standing : ∀ base : Heap, Md P w K mg base (He.ga K "Book") "standing" 1 ["self"] (spStanding (He.ga K "Book")) := fun base => ⟨_, fd28, ok_standing F28 T B, He.meth_ok (cD.fact 70 (f := .meth "Book" "standing") rfl), F28.bindsN fun _ _ _ _ _ _ us hl => match us, hl with | [_], _ => rfl⟩
  obtain ⟨fd29, F29⟩ := cD.def_ 29 (d := d_Book_evidence) rfl
  have g_Book_evidence : ∀ base : Heap, Md P w K mg base (He.ga K "Book") "evidence" 4 ["self"] (spEvidence (He.ga K "Book")) := fun base => ⟨_, fd29, ok_evidence F29 T B (g_Book_standing base) (g_entry_text base), He.meth_ok (cD.fact 71 (f := .meth "Book" "evidence") rfl), F29.bindsN fun _ _ _ _ _ _ us hl => match us, hl with | [_], _ => rfl⟩
  obtain ⟨fd30, F30⟩ := cD.def_ 30 (d := d_Book_of_kind) rfl
  have g_Book_of_kind : ∀ base : Heap, Md P w K mg base (He.ga K "Book") "of_kind" 5 ["self", "kind"] (spOfKind (He.ga K "Book")) := fun base => ⟨_, fd30, ok_of_kind F30 T B (g_Book_evidence base), He.meth_ok (cD.fact 72 (f := .meth "Book" "of_kind") rfl), F30.bindsN fun _ _ _ _ _ _ us hl => match us, hl with | [_, _], _ => rfl⟩
  obtain ⟨fd31, F31⟩ := cD.def_ 31 (d := d_l_numbers) rfl
  have g_l_numbers : ∀ base : Heap, Fd P w K mg base "_law_numbers" 1 ["_law_script", "_law_many"] (spNumbers K) := fun base => ⟨_, fd31, ok_numbers F31 T, He.glo_ok X G (cD.fact 49 (f := .glo "_law_numbers") rfl), F31.kp, F31.bindsN fun _ _ _ _ _ _ us hl => match us, hl with | [_, _], _ => rfl⟩
  obtain ⟨fd32, F32⟩ := cD.def_ 32 (d := d_l_ratio) rfl
  have g_l_ratio : ∀ base : Heap, Fd P w K mg base "_law_ratio" 1 ["_law_n", "_law_d"] spRatio := fun base => ⟨_, fd32, ok_l_ratio F32 T, He.glo_ok X G (cD.fact 50 (f := .glo "_law_ratio") rfl), F32.kp, F32.bindsN fun _ _ _ _ _ _ us hl => match us, hl with | [_, _], _ => rfl⟩
  obtain ⟨fd33, F33⟩ := cD.def_ 33 (d := d_l_lots) rfl
  have g_l_lots : ∀ base : Heap, Fd P w K mg base "_law_lots" 1 ["_law_number"] spLots := fun base => ⟨_, fd33, ok_l_lots F33 T, He.glo_ok X G (cD.fact 51 (f := .glo "_law_lots") rfl), F33.kp, F33.bindsN fun _ _ _ _ _ _ us hl => match us, hl with | [_], _ => rfl⟩
  obtain ⟨fd34, F34⟩ := cD.def_ 34 (d := d_l_paper) rfl
  have g_l_paper : ∀ base : Heap, Fd P w K mg base "_law_paper" 2 ["_law_numbers_here"] (spPaper K) := fun base => ⟨_, fd34, ok_l_paper F34 T (g_l_ratio base), He.glo_ok X G (cD.fact 52 (f := .glo "_law_paper") rfl), F34.kp, F34.bindsN fun _ _ _ _ _ _ us hl => match us, hl with | [_], _ => rfl⟩
  obtain ⟨fd35, F35⟩ := cD.def_ 35 (d := d_l_entry) rfl
  have g_l_entry : ∀ base : Heap, Fd P w K mg base "_law_entry" 3 ["_law_numbers_here"] (spEntry K) := fun base => ⟨_, fd35, ok_l_entry F35 T (g_l_ratio base) (g_l_paper base) (g_l_lots base), He.glo_ok X G (cD.fact 53 (f := .glo "_law_entry") rfl), F35.kp, F35.bindsN fun _ _ _ _ _ _ us hl => match us, hl with | [_], _ => rfl⟩
  obtain ⟨fd36, F36⟩ := cD.def_ 36 (d := d_l_ratio_text) rfl
  have g_l_ratio_text : ∀ base : Heap, Fd P w K mg base "_law_ratio_text" 1 ["_law_part"] spRatioText := fun base => ⟨_, fd36, ok_l_ratio_text F36 T, He.glo_ok X G (cD.fact 54 (f := .glo "_law_ratio_text") rfl), F36.kp, F36.bindsN fun _ _ _ _ _ _ us hl => match us, hl with | [_], _ => rfl⟩
  obtain ⟨fd37, F37⟩ := cD.def_ 37 (d := d_l_text) rfl
  have g_l_text : ∀ base : Heap, Fd P w K mg base "_law_text" 2 ["_law_entry_here"] spEntryText := fun base => ⟨_, fd37, ok_l_text F37 T (g_l_ratio_text base), He.glo_ok X G (cD.fact 55 (f := .glo "_law_text") rfl), F37.kp, F37.bindsN fun _ _ _ _ _ _ us hl => match us, hl with | [_], _ => rfl⟩
  obtain ⟨fd38, F38⟩ := cD.def_ 38 (d := d_l_made) rfl
  have g_l_made : ∀ base : Heap, Fd P w K mg base "_law_made" 7 ["_law_entries", "_law_numbers_here"] (spMade K (He.ga K "Book")) := fun base => ⟨_, fd38, ok_l_made F38 T B (g_Book_init base) (g_l_entry base) (g_Book_add base) (g_Book_correct base) (g_Book_withdraw base) (g_Book_restore base), He.glo_ok X G (cD.fact 56 (f := .glo "_law_made") rfl), F38.kp, F38.bindsN fun _ _ _ _ _ _ us hl => match us, hl with | [_, _], _ => rfl⟩
  obtain ⟨fd39, F39⟩ := cD.def_ 39 (d := d_drawer_of) rfl
  have g_drawer_of : ∀ base : Heap, Fd P w K mg base "drawer_of" 5 ["papers", "recalls"] spDrawer := fun base => ⟨_, fd39, ok_drawer_of F39 T (g_check_scale base) (g_check_paper base) (g_check_day base) (g_earlier base), He.glo_ok X G (cD.fact 57 (f := .glo "drawer_of") rfl), F39.kp, F39.bindsN fun _ _ _ _ _ _ us hl => match us, hl with | [_, _], _ => rfl⟩
  obtain ⟨fd40, F40⟩ := cD.def_ 40 (d := d_l_drawer) rfl
  have g_l_drawer : ∀ base : Heap, Fd P w K mg base "_law_drawer" 6 ["_law_book"] (spLDrawer (He.ga K "Book")) := fun base => ⟨_, fd40, ok_l_drawer F40 T B mKE (g_Book_of_kind base) (g_drawer_of base), He.glo_ok X G (cD.fact 58 (f := .glo "_law_drawer") rfl), F40.kp, F40.bindsN fun _ _ _ _ _ _ us hl => match us, hl with | [_], _ => rfl⟩
  obtain ⟨fd41, F41⟩ := cD.def_ 41 (d := d_law) rfl
  have e := hfa.symm.trans (He.glo_ok X G (cD.fact 59 (f := .glo "law") rfl))
  cases e
  have b := FunD.bindsA (ps := ["_law_script"]) F41 fun _ _ _ _ _ _ us hl => match us, hl with | [_], _ => rfl
  exact ⟨fd41, fun s v => b s [v] rfl, fun base _ _ => ok_law F41 T B (g_l_numbers base) (g_l_entry base) (g_l_made base) (g_l_text base) (g_entry_text base) (g_l_drawer base) (g_Book_evidence base) (g_Book_of_kind base) (g_Book_standing base) (g_Book_versions base) (g_Book_correct base) (g_Book_withdraw base) (g_Book_restore base)⟩
end Kb

set_option Elab.async false
set_option linter.all false
set_option maxRecDepth 100000
set_option maxHeartbeats 0
/-! K64, the head's run. -/
namespace Kb
open PySem PySem.Spec PyProof.Rows L2
abbrev R : PySem.W.OpenRow := PySem.W.OpenLaw.row PySem.Challenge.rw_kerbside_k64_whole_past_does_not_matter
abbrev hk : PySem.W.Hook := hookX 5 faX fnX tabX exX
def ob (s : PySem.W.SharedT) : AlX := obsXG 5 faX fnX tabX exX (HandSHeadRun.getT s)
theorem ob_eq (s : PySem.W.SharedT) : ob s = hk.obs s.abs := obsXG_eq (HandSHeadRun.getT_eq s)
def looseA : List Str := ["_wall", "KerbError", "NotAllowed", "Missing", "Full", "MAX_TEXT", "common", "is_ratio", "sign_of", "compare", "ratio_text", "MAX_DAY", "MAX_PAPERS", "MAX_NAME", "LETTERS", "ONE", "is_scale", "is_day", "is_weight", "check_paper", "check_scale", "check_day", "earlier", "drawer_of", "MAX_WEIGHED_weighings"]
def looseB : List Str := ["MAX_NUMBER", "check_weighing", "KINDS", "LENGTHS", "MAX_LOT", "MAX_WEIGHED_entries", "check_lots", "check_known", "ratios_of", "check_entry", "lots_text", "paper_words", "entry_text", "MAX_RECORDS", "MAX_VERSIONS", "Book", "_law_numbers", "_law_ratio", "_law_paper", "_law_lots", "_law_entry", "_law_ratio_text", "_law_text", "_law_made", "_law_drawer"]
def looseX : List Str := looseA ++ looseB
theorem run0 (w : World) : HandSHeadRun.RunEq R (PySem.W.view R.prog [57]) hk ob 6000 looseX (w.withFollow "special-get-raises" false) := by
  intro os
  kernel_rfl
theorem run1 (w : World) : HandSHeadRun.RunEq R (PySem.W.view R.prog [57]) hk ob 6000 looseX (w.withFollow "special-get-raises" true) := by
  intro os
  kernel_rfl
theorem run (w : World) : HandSHeadRun.RunEq R (PySem.W.view R.prog [57]) hk ob 6000 looseX w :=
  PySem.W.byRow2 "special-get-raises" (P := fun w => HandSHeadRun.RunEq R (PySem.W.view R.prog [57]) hk ob 6000 looseX w) run0 run1 w
end Kb

set_option Elab.async false
set_option linter.all false
set_option maxRecDepth 100000
set_option maxHeartbeats 0
open PySem PySem.W PySem.Calls PyProof.Rows
theorem PySem.Challenge.cw_kerbside_k64_whole_past_does_not_matter_holds : PySem.Challenge.rw_kerbside_k64_whole_past_does_not_matter.Holds := by
  w_on; o_law
  refine HandSHeadRun.head_any (r := OpenLaw.row PySem.Challenge.rw_kerbside_k64_whole_past_does_not_matter) (q := view (OpenLaw.row PySem.Challenge.rw_kerbside_k64_whole_past_does_not_matter).prog [57]) (H := Kb.hk) (ob := Kb.ob) (M := 6000) (loose := Kb.looseX)
    (d := HandSHeadRun.topDef (OpenLaw.row PySem.Challenge.rw_kerbside_k64_whole_past_does_not_matter).prog 57) (kwd := []) Kb.ob_eq
    (by kernel_rfl) (fun s => by kernel_rfl) Kb.run (by kernel_rfl) (by kernel_rfl) (by kernel_rfl) (by rfl) (by first | assumption | decide +kernel) (by decide +kernel) ⟨rfl, rfl, rfl, rfl, rfl, by decide +kernel⟩ ?hw ?hc
  case hw => w_witness2
  case hc =>
    refine L2.walk_ofE (l := PySem.Challenge.rw_kerbside_k64_whole_past_does_not_matter) (n := 63) (k := 8) (x := "_law_script") (CX := L2.CX0) rfl (by decide) (by kernel_rfl) ⟨rfl, by decide, by decide⟩ ?F (fun _ _ _ _ z => z)
    intro w mg fa h Y G hmg0
    obtain ⟨K, KX, c⟩ := Y
    have hmg : mg ("law" : PySem.Str) = some (.ref fa) := by
      have e : (HandSHeadRun.topDef (OpenLaw.row PySem.Challenge.rw_kerbside_k64_whole_past_does_not_matter).prog 57).name = ("law" : PySem.Str) := by kernel_rfl
      rw [← e]
      exact hmg0
    obtain ⟨fd, hb, hF⟩ := Kb.facts (P := (PySem.Challenge.rw_kerbside_k64_whole_past_does_not_matter).prog) (w := w) KX G hmg c
    exact ⟨K, fd, Kb.spLaw K, KX, hb, fun H a ns hl _ hS => ⟨a, ns, rfl, hS, hl, fun _ => rfl⟩, hF⟩

