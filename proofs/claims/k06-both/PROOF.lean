import PyProof.Rows.All
import Wide.All
import OpenK.AllK
import Wide.FinOn
import HandS.ForExc
import HandS.Comp
import HandS.Iter
import HandS.Walk
import HandS.Dict
import HandS.Style
import HandS.Flow
import HandS.IsInst
import HandS.ExcIs
import HandS.Wide
import HandS.WideBits
import HandS.EndBits
import HandS.Codes
import HandS.Conv
import PySem.Challenge.RW_halfline_k06_whole_both
set_option Elab.async false
set_option linter.all false
set_option maxRecDepth 100000
set_option maxHeartbeats 4000000
namespace Hf
open PySem PySem.Spec PyProof.Rows L2
/-! ### rules that the layer lacks -/
/-- a target o.f within a tuple of targets -/
def gFld (K : PySem.W.Frag) (to : TE) (f : Str) : TG := fun v σ H Q => to σ H fun x H1 => ∃ a C dx fs, x = .ref a ∧ H1 a = some (.ins C dx fs) ∧ Cls K C ∧ NoAttr K C f ∧ fs.length < 1000 ∧ Q σ (upd H1 a (.ins C dx (putF f v fs)))
theorem pg_fld {X : Cx} {o : Expr} {f : Str} {pos : Pos} {to : TE} (ho : PE X o to) : PG X (.Attribute o f pos) (gFld X.K to f) := by
  refine ⟨fun pins s σ H v u Q I r h => ?_⟩
  rw [PySem.assign_Attribute]
  refine wpAny_bind (wpAny_holding (thn (ho.run pins s σ H _ I h) fun ov s1 ⟨x, H1, I1, r1, a, C, dx, fs, ex, ea, c, n, l, q⟩ => ?_))
  subst ex
  obtain rfl : ov = Value.ref a := r1
  refine wpAny_bind (wpAny_standAt (wpAny_bind (wpAny_holding (setattr_ok I1 ea c n l r fun s3 I3 => ?_))))
  exact wpAny_release ⟨σ, _, I3, q⟩
/-- o.m(e, ..) where what is raised is wished for at the slots as they stand -/
def tMethS (C : Addr) (m : Str) (sp : Sp) (E : L2.St → XK) (ta : TE) (t : TA) : TE := fun σ H Q => ta σ H fun x H1 => ∃ a dx fs, x = .ref a ∧ H1 a = some (.ins C dx fs) ∧ fs.lookup m = none ∧ t σ H1 fun vs H2 => sp (x :: vs) H2 Q (E σ)
theorem pe_methS {X : Cx} {CX : CXT} {k : Nat} {f C : Addr} {fd : FuncData} {ps : List Str} {sp : Sp} {E : L2.St → XK} {m : Str} {pos apos : Pos} {e o : Expr} {es : List Expr} {ta : TE} {t : TA} {pl : Sem Bool} (he : PE X o ta) (c : Cls X.K C) (hm : Meth X.K C m f)
    (F : FnOk X.prog X.w X.K X.mg X.base CX k f fd ps sp) (hr : Room k X.A) (hb : Binds X.K fd ps []) (hx : ∀ σ, PassesAt CX X σ (E σ)) (ha : PA X (e :: es) t)
    (hst : starEach (e :: es) X.env = (false, eval e X.env) :: starEach es X.env := by rfl) (hpl : (backTo pos (starEach es X.env)).any (·.1) = false := by rfl)
    (ht : eval (.Call (.Attribute o m apos) (e :: es) [] pos) X.env = (do
      let ov ← eval o X.env
      standAt apos.atName
      let (f, first) ← holding [ov] (getMethod ov m pl)
      callWith pos f first (backTo pos (starEach (e :: es) X.env)) (backToKw pos (keywordEach [] X.env))) := by rfl) :
    PE X (.Call (.Attribute o m apos) (e :: es) [] pos) (tMethS C m sp E ta t) := by
  refine ⟨fun pins s σ H Q I h => ?_⟩
  refine PySem.W.methodCall_KW (pl := pl) (thn (he.run pins s σ H _ I h) fun u s1 ⟨x, H1, I1, rx, a, dx, fs, ex, ea, l, q⟩ => ?_) ht
  subst ex
  obtain rfl : u = Value.ref a := rx
  refine getmeth_ok I1 ea c hm l ?_
  refine PySem.W.callWith_K (first := [.ref a]) (h₀ := X.base) I.ok.mod.kin hm.kp (thn (ha.run pos pins s1 σ H1 _ I1 q) fun us s2 ⟨vs, H2, I2, r, q2⟩ => ⟨I2.kIn, ?_⟩) hst hpl
  exact run_fnS (us := .ref a :: us) (vs := .ref a :: vs) F hr hb (hx σ) I2 (.cons rfl r) q2
/-- o.m() likewise -/
theorem pe_methS0 {X : Cx} {CX : CXT} {k : Nat} {f C : Addr} {fd : FuncData} {ps : List Str} {sp : Sp} {E : L2.St → XK} {m : Str} {pos apos : Pos} {o : Expr} {ta : TE} {pl : Sem Bool} (he : PE X o ta) (c : Cls X.K C) (hm : Meth X.K C m f)
    (F : FnOk X.prog X.w X.K X.mg X.base CX k f fd ps sp) (hr : Room k X.A) (hb : Binds X.K fd ps []) (hx : ∀ σ, PassesAt CX X σ (E σ))
    (ht : eval (.Call (.Attribute o m apos) [] [] pos) X.env = (do
      let ov ← eval o X.env
      standAt apos.atName
      let (f, first) ← holding [ov] (getMethod ov m pl)
      callWith pos f first (backTo pos (starEach [] X.env)) (backToKw pos (keywordEach [] X.env))) := by rfl) :
    PE X (.Call (.Attribute o m apos) [] [] pos) (tMethS C m sp E ta tNil) := by
  refine ⟨fun pins s σ H Q I h => ?_⟩
  refine PySem.W.methodCall_KW (pl := pl) (thn (he.run pins s σ H _ I h) fun u s1 ⟨x, H1, I1, rx, a, dx, fs, ex, ea, l, q⟩ => ?_) ht
  subst ex
  obtain rfl : u = Value.ref a := rx
  refine getmeth_ok I1 ea c hm l ?_
  exact PySem.W.callWith_K0 (first := [.ref a]) I1.kIn hm.kp (run_fnS (us := [.ref a]) (vs := [.ref a]) F hr hb (hx σ) I1 (.cons rfl .nil) q)
/-- isinstance(e, c) of the error that the suite holds, whichever it is -/
def rIsX (K : PySem.W.Frag) (cls : Value) (d : Option Addr) (a : Addr) : List V → Hp → VK → Prop := fun xs H Q => ∃ (D : Addr) (c : V) (cv : Value) (b : Bool), cls = .ref D ∧ d = none ∧ ExcC K D ∧ xs = [.ref a, c] ∧ ClsV c cv ∧ PySem.W.kitOne K (.ref D) cv = some b ∧ Q (.bl b) H
theorem call_isX {X : Cx} {a : Addr} {oe : Obj} {cls : Value} {d : Option Addr} {pn : List (Addr × Obj)} (hz : Zc cls d oe) (hf : ∃ vs, oe.data = .fields vs) : CallR (X.suite a ((a, oe) :: pn)) (.builtin "isinstance") (rIsX X.K cls d a) := by
  intro pins s σ H xs us Q I r h
  obtain ⟨D, c, cv, b, rfl, rfl, C, rfl, k, e, q⟩ := h
  exact call_isE (X := X) (pn := pn) C hz hf pins s σ H _ us Q I r ⟨c, cv, b, rfl, fun u ru => k.eq ru, e, q⟩
/-! ### heaps: what a deed at one object leaves -/
/-- all that is tracked outside of A stays, and is outside of A' -/
def Step (H : Hp) (A : List Addr) (H' : Hp) (A' : List Addr) : Prop := ∀ q o, H q = some o → q ∉ A → H' q = some o ∧ q ∉ A'
theorem Step.refl (H : Hp) (A : List Addr) : Step H A H A := fun _ _ h n => ⟨h, n⟩
theorem Step.trans {H H1 H2 : Hp} {A A1 A2 : List Addr} (a : Step H A H1 A1) (b : Step H1 A1 H2 A2) : Step H A H2 A2 := fun q o h n => b q o (a q o h n).1 (a q o h n).2
theorem Step.same {H H1 H2 : Hp} {A A1 : List Addr} (a : Step H A H1 A1) (b : Same H1 H2) : Step H A H2 A1 := fun q o h n => ⟨b q o (a q o h n).1, (a q o h n).2⟩
theorem Step.ofSame {H H1 : Hp} {A : List Addr} (b : Same H H1) : Step H A H1 A := (Step.refl H A).same b
/-- a store at an address that the first heap does not track -/
theorem Step.upd {H H1 : Hp} {A A1 : List Addr} {m : Addr} {o : HO} (a : Step H A H1 A1) (n : H m = none) : Step H A (upd H1 m o) A1 := fun q u h k => ⟨by rw [upd_ne (ne_of_none h n)]; exact (a q u h k).1, (a q u h k).2⟩
theorem Same.new {H : Hp} {p : Addr} {o : HO} (n : H p = none) : Same H (upd H p o) := fun q u h => by rw [upd_ne (ne_of_none h n)]; exact h
theorem Same.upd {H H1 : Hp} {p : Addr} {o : HO} (a : Same H H1) (n : H p = none) : Same H (upd H1 p o) := fun q u h => by rw [upd_ne (ne_of_none h n)]; exact a q u h
theorem Step.seq {K : PySem.W.Frag} {H H' : Hp} {A A' : List Addr} {a : Addr} {xs : List V} (e : Step H A H' A') (n : a ∉ A) (h : SqL K H a xs) : SqL K H' a xs := by
  rcases h with (h | ⟨o, h⟩) | h
  · exact .inl (.inl (e _ _ h n).1)
  · exact .inl (.inr ⟨o, (e _ _ h n).1⟩)
  · exact .inr h
/-! ### fields by name -/
theorem lk_here {k : Str} {v : V} {r : List (Str × V)} : List.lookup k ((k, v) :: r) = some v := by
  have e : (k == k) = true := beq_self_eq_true k
  simp only [List.lookup, e]
theorem lk_past {k g : Str} {v : V} {r : List (Str × V)} (h : (k == g) = false) : List.lookup k ((g, v) :: r) = List.lookup k r := by
  simp only [List.lookup, h]
theorem put_here {f : Str} {v x : V} {r : List (Str × V)} : putF f v ((f, x) :: r) = (f, v) :: r := if_pos rfl
theorem put_past {f g : Str} {v x : V} {r : List (Str × V)} (h : ¬ g = f) : putF f v ((g, x) :: r) = (g, x) :: putF f v r := if_neg h
theorem put_nil {f : Str} {v : V} : putF f v [] = [(f, v)] := rfl
/-! ### data compared -/
theorem canAll_ints : ∀ ns : List Int, PyData.canLayAll0 (ns.map PyData.int) = true
  | [] => rfl
  | n :: r => by
    show (PyData.canLay0 (.int n) && PyData.canLayAll0 (r.map PyData.int)) = true
    rw [canAll_ints r]
    rfl
theorem depthAll_ints : ∀ ns : List Int, PyData.depthAll (ns.map PyData.int) ≤ 1
  | [] => by decide
  | n :: r => by
    have := depthAll_ints r
    show max (PyData.depth (.int n)) (PyData.depthAll (r.map PyData.int)) ≤ 1
    have e : PyData.depth (.int n) ≤ 1 := by simp [PyData.depth]
    omega
theorem eqvAll_ints : ∀ a b : List Int, PyData.eqvAll (a.map PyData.int) (b.map PyData.int) = decide (a = b)
  | [], [] => rfl
  | [], _ :: _ => rfl
  | _ :: _, [] => rfl
  | x :: a, y :: b => by
    show ((x == y) && PyData.eqvAll (a.map PyData.int) (b.map PyData.int)) = decide (x :: a = y :: b)
    rw [eqvAll_ints a b]
    by_cases h : x = y
    · subst h
      simp
    · have : (x == y) = false := by simpa using h
      rw [this]
      simp [h]
theorem dp_ints {K : PySem.W.Frag} {H : Hp} : ∀ ns : List Int, DpAll K H (ns.map V.int) (ns.map PyData.int)
  | [] => .nil
  | n :: r => .cons (.int n) (dp_ints r)
theorem Dp.ints {K : PySem.W.Frag} {H : Hp} {a : Addr} {ns : List Int} (h : SqL K H a (ns.map V.int)) : Dp K H (.ref a) (.list (ns.map PyData.int)) := .lst h (dp_ints ns)
theorem shaped_ints (ns : List Int) : SeqAt.shaped (.list (ns.map PyData.int)) = true := by
  unfold SeqAt.shaped
  have h := depthAll_ints ns
  have e : PyData.depth (.list (ns.map PyData.int)) ≤ 64 := by
    show PyData.depthAll (ns.map PyData.int) + 1 ≤ 64
    omega
  rw [Bool.and_eq_true]
  exact ⟨canAll_ints ns, decide_eq_true e⟩
/-- xs == ys, xs != ys of lists of whole numbers -/
def rEqI (K : PySem.W.Frag) : R2 := fun x y H Q => ∃ (a b : Addr) (xs ys : List Int), x = .ref a ∧ y = .ref b ∧ SqL K H a (xs.map V.int) ∧ SqL K H b (ys.map V.int) ∧ Q (.bl (decide (xs = ys))) H
def rNeI (K : PySem.W.Frag) : R2 := fun x y H Q => ∃ (a b : Addr) (xs ys : List Int), x = .ref a ∧ y = .ref b ∧ SqL K H a (xs.map V.int) ∧ SqL K H b (ys.map V.int) ∧ Q (.bl (!decide (xs = ys))) H
theorem op_eqI {X : Cx} (hu : X.A.units + 64 < cLine) : OpR X (compareOp .Eq) (rEqI X.K) := by
  intro pins s σ H x y v u Q I rx ry h
  obtain ⟨a, b, xs, ys, rfl, rfl, h1, h2, q⟩ := h
  refine op_eqD hu pins s σ H _ _ v u Q I rx ry ⟨_, _, Dp.ints h1, Dp.ints h2, shaped_ints xs, shaped_ints ys, ?_⟩
  show Q (.bl (PyData.eqvAll (xs.map PyData.int) (ys.map PyData.int))) H
  rw [eqvAll_ints]
  exact q
theorem op_neI {X : Cx} (hu : X.A.units + 64 < cLine) : OpR X (compareOp .NotEq) (rNeI X.K) := by
  intro pins s σ H x y v u Q I rx ry h
  obtain ⟨a, b, xs, ys, rfl, rfl, h1, h2, q⟩ := h
  refine op_neD hu pins s σ H _ _ v u Q I rx ry ⟨_, _, Dp.ints h1, Dp.ints h2, shaped_ints xs, shaped_ints ys, ?_⟩
  show Q (.bl (!PyData.eqvAll (xs.map PyData.int) (ys.map PyData.int))) H
  rw [eqvAll_ints]
  exact q
theorem shaped_tup (ns : List Int) : SeqAt.shaped (.tuple (ns.map PyData.int)) = true := by
  unfold SeqAt.shaped
  have h := depthAll_ints ns
  have e : PyData.depth (.tuple (ns.map PyData.int)) ≤ 64 := by
    show PyData.depthAll (ns.map PyData.int) + 1 ≤ 64
    omega
  rw [Bool.and_eq_true]
  exact ⟨canAll_ints ns, decide_eq_true e⟩
/-- t == u, t != u of tuples of whole numbers -/
def rEqT (K : PySem.W.Frag) : R2 := fun x y H Q => ∃ (a b : Addr) (xs ys : List Int), x = .ref a ∧ y = .ref b ∧ SqT K H a (xs.map V.int) ∧ SqT K H b (ys.map V.int) ∧ Q (.bl (decide (xs = ys))) H
def rNeT (K : PySem.W.Frag) : R2 := fun x y H Q => ∃ (a b : Addr) (xs ys : List Int), x = .ref a ∧ y = .ref b ∧ SqT K H a (xs.map V.int) ∧ SqT K H b (ys.map V.int) ∧ Q (.bl (!decide (xs = ys))) H
theorem op_eqT {X : Cx} (hu : X.A.units + 64 < cLine) : OpR X (compareOp .Eq) (rEqT X.K) := by
  intro pins s σ H x y v u Q I rx ry h
  obtain ⟨a, b, xs, ys, rfl, rfl, h1, h2, q⟩ := h
  refine op_eqD hu pins s σ H _ _ v u Q I rx ry ⟨_, _, .tup h1 (dp_ints xs), .tup h2 (dp_ints ys), shaped_tup xs, shaped_tup ys, ?_⟩
  show Q (.bl (PyData.eqvAll (xs.map PyData.int) (ys.map PyData.int))) H
  rw [eqvAll_ints]
  exact q
theorem op_neT {X : Cx} (hu : X.A.units + 64 < cLine) : OpR X (compareOp .NotEq) (rNeT X.K) := by
  intro pins s σ H x y v u Q I rx ry h
  obtain ⟨a, b, xs, ys, rfl, rfl, h1, h2, q⟩ := h
  refine op_neD hu pins s σ H _ _ v u Q I rx ry ⟨_, _, .tup h1 (dp_ints xs), .tup h2 (dp_ints ys), shaped_tup xs, shaped_tup ys, ?_⟩
  show Q (.bl (!PyData.eqvAll (xs.map PyData.int) (ys.map PyData.int))) H
  rw [eqvAll_ints]
  exact q
end Hf
/-! ## Halfline: the mirror -/
namespace Hf
open PySem PySem.Spec PyProof.Rows L2
def endS (fr : Bool) : Str := if fr then "front" else "back"
/-- half of a row goes over -/
def overN (n : Nat) : Nat := (n + 1) / 2
def layM (full : List Int) : List Int := (full.take (overN full.length)).reverse
def layK (full : List Int) : List Int := full.drop (overN full.length)
def layS (full : List Int) : Int := (overN full.length : Int) + 2 * ((full.length : Int) - (overN full.length : Int))
/-- both rows and the steps behind the laying over (own row first) -/
def laid (mine theirs : List Int) : List Int × List Int × Int := if mine = [] then (layM theirs, layK theirs, layS theirs) else (mine, theirs, 0)
/-- a take: the thing, own row, other row, steps -/
def takeM (mine theirs : List Int) : Int × List Int × List Int × Int :=
  let l := laid mine theirs
  (l.1.getLastD 0, l.1.dropLast, l.2.1, l.2.2 + 1)
theorem layM_ne {full : List Int} (h : full ≠ []) : layM full ≠ [] := by
  unfold layM overN
  intro e
  have e2 : (full.take ((full.length + 1) / 2)) = [] := by simpa using e
  have hl : 0 < full.length := List.length_pos_iff.mpr h
  have e3 : (full.take ((full.length + 1) / 2)).length = 0 := by rw [e2]; rfl
  rw [List.length_take] at e3
  omega
theorem laid_ne {mine theirs : List Int} (h : mine ≠ [] ∨ theirs ≠ []) : (laid mine theirs).1 ≠ [] := by
  unfold laid
  by_cases c : mine = []
  · rw [if_pos c]
    rcases h with h | h
    · exact absurd c h
    · exact layM_ne h
  · rw [if_neg c]
    exact c
theorem laid_things (mine theirs : List Int) : (laid mine theirs).1.reverse ++ (laid mine theirs).2.1 = mine.reverse ++ theirs := by
  unfold laid
  by_cases c : mine = []
  · rw [if_pos c, c]
    show (layM theirs).reverse ++ layK theirs = [] ++ theirs
    unfold layM layK
    rw [List.reverse_reverse, List.take_append_drop]
    rfl
  · rw [if_neg c]
/-- the thing taken is the line's first, seen from the own end; the rest stays -/
theorem takeM_things {mine theirs : List Int} (h : mine ≠ [] ∨ theirs ≠ []) : mine.reverse ++ theirs = (takeM mine theirs).1 :: ((takeM mine theirs).2.1.reverse ++ (takeM mine theirs).2.2.1) := by
  rw [← laid_things]
  have hn := laid_ne h
  show (laid mine theirs).1.reverse ++ (laid mine theirs).2.1 = (laid mine theirs).1.getLastD 0 :: ((laid mine theirs).1.dropLast.reverse ++ (laid mine theirs).2.1)
  have e : (laid mine theirs).1 = (laid mine theirs).1.dropLast ++ [(laid mine theirs).1.getLast hn] := (List.dropLast_concat_getLast hn).symm
  generalize (laid mine theirs).1 = l at *
  have e2 : l.getLastD 0 = l.getLast hn := by
    cases l with
    | nil => exact absurd rfl hn
    | cons a r => rfl
  rw [e2]
  conv => lhs; rw [e]
  simp
end Hf
/-! ## Halfline: the heap and the promises -/
namespace Hf
open PySem PySem.Spec PyProof.Rows L2
def hF (f b : Addr) (n : Int) : List (Str × V) := [("front", .ref f), ("back", .ref b), ("steps", .int n)]
theorem hF_front (f b : Addr) (n : Int) : (hF f b n).lookup ("front" : Str) = some (.ref f) := lk_here
theorem hF_back (f b : Addr) (n : Int) : (hF f b n).lookup ("back" : Str) = some (.ref b) := (lk_past (by decide +kernel)).trans lk_here
theorem hF_steps (f b : Addr) (n : Int) : (hF f b n).lookup ("steps" : Str) = some (.int n) := (lk_past (by decide +kernel)).trans ((lk_past (by decide +kernel)).trans lk_here)
theorem hF_no (f b : Addr) (n : Int) {m : Str} (h1 : (m == "front") = false) (h2 : (m == "back") = false) (h3 : (m == "steps") = false) : (hF f b n).lookup m = none :=
  (lk_past h1).trans ((lk_past h2).trans ((lk_past h3).trans rfl))
theorem put_front (f b x : Addr) (n : Int) : putF "front" (.ref x) (hF f b n) = hF x b n := put_here
theorem put_back (f b x : Addr) (n : Int) : putF "back" (.ref x) (hF f b n) = hF f x n := (put_past (by decide +kernel)).trans (congrArg _ put_here)
theorem put_steps (f b : Addr) (n m : Int) : putF "steps" (.int m) (hF f b n) = hF f b m := (put_past (by decide +kernel)).trans (congrArg _ ((put_past (by decide +kernel)).trans (congrArg _ put_here)))
/-- a Halfline stands at p with the rows xs (front) and ys (back) and n steps; A: the addresses that are its own -/
def HalfAt (C : Addr) (H : Hp) (p : Addr) (A : List Addr) (xs ys : List Int) (n : Int) : Prop :=
  ∃ dx f b, A = [p, f, b] ∧ H p = some (.ins C dx (hF f b n)) ∧ H f = some (.lst (xs.map V.int)) ∧ H b = some (.lst (ys.map V.int)) ∧ f ≠ b
theorem HalfAt.same {C : Addr} {H H' : Hp} {p : Addr} {A : List Addr} {xs ys : List Int} {n : Int} (h : HalfAt C H p A xs ys n) (s : Same H H') : HalfAt C H' p A xs ys n := by
  obtain ⟨dx, f, b, e, h1, h2, h3, h4⟩ := h
  exact ⟨dx, f, b, e, s _ _ h1, s _ _ h2, s _ _ h3, h4⟩
/-- as long as its own addresses stay -/
theorem HalfAt.keep {C : Addr} {H H' : Hp} {p : Addr} {A : List Addr} {xs ys : List Int} {n : Int} (h : HalfAt C H p A xs ys n) (s : ∀ q o, q ∈ A → H q = some o → H' q = some o) : HalfAt C H' p A xs ys n := by
  obtain ⟨dx, f, b, rfl, h1, h2, h3, h4⟩ := h
  exact ⟨dx, f, b, rfl, s _ _ (by simp) h1, s _ _ (by simp) h2, s _ _ (by simp) h3, h4⟩
theorem HalfAt.trk {C : Addr} {H : Hp} {p : Addr} {A : List Addr} {xs ys : List Int} {n : Int} (h : HalfAt C H p A xs ys n) : ∀ q, q ∈ A → ∃ o, H q = some o := by
  obtain ⟨dx, f, b, rfl, h1, h2, h3, h4⟩ := h
  intro q hq
  simp at hq
  rcases hq with rfl | rfl | rfl
  · exact ⟨_, h1⟩
  · exact ⟨_, h2⟩
  · exact ⟨_, h3⟩
theorem HalfAt.upd {C : Addr} {H : Hp} {p m : Addr} {o : HO} {A : List Addr} {xs ys : List Int} {n : Int} (h : HalfAt C H p A xs ys n) (hm : m ∉ A) : HalfAt C (upd H m o) p A xs ys n :=
  h.keep fun q u hq e => by rw [upd_ne (fun z : q = m => hm (by rw [← z]; exact hq))]; exact e
/-- what isinstance says of no whole number, of no text -/
def NoThing (K : PySem.W.Frag) (H : Hp) (x : V) : Prop := ∃ n : String, TyX K H x (.type n) ∧ (kitB n "int" = some false ∨ (kitB n "int" = some true ∧ kitB n "bool" = some true))
def NoEnd (K : PySem.W.Frag) (H : Hp) (x : V) : Prop := (∃ n : String, TyX K H x (.type n) ∧ kitB n "str" = some false) ∨ (∃ z : Str, x = .str z ∧ z ≠ "front" ∧ z ≠ "back")
def spThing (K : PySem.W.Frag) (CT : Addr) : Sp := fun vs H Q E => (∃ i : Int, vs = [.int i] ∧ Q .non H) ∨ (∃ x, vs = [x] ∧ NoThing K H x ∧ E (.ref CT) none H)
def spEnd (K : PySem.W.Frag) (CE : Addr) : Sp := fun vs H Q E => (∃ fr : Bool, vs = [.str (endS fr)] ∧ Q .non H) ∨ (∃ x, vs = [x] ∧ NoEnd K H x ∧ E (.ref CE) none H)
def spInitH (C : Addr) : Sp := fun vs H Q _ => ∃ (p dx : Addr), vs = [.ref p] ∧ H p = some (.ins C dx []) ∧
  ∀ (H' : Hp) (A : List Addr), HalfAt C H' p A [] [] 0 → (∀ b o, H b = some o → b ≠ p → H' b = some o ∧ b ∉ A) → Q .non H'
/-- the rows when z is put to the front (fr) or to the back -/
def putX (fr : Bool) (xs : List Int) (z : Int) : List Int := if fr then xs ++ [z] else xs
def spPutH (K : PySem.W.Frag) (C CT CE : Addr) : Sp := fun vs H Q E => ∃ (p : Addr) (A : List Addr) (xs ys : List Int) (n : Int), HalfAt C H p A xs ys n ∧
  ((∃ (fr : Bool) (z : Int), vs = [.ref p, .str (endS fr), .int z] ∧ xs.length + ys.length < 1000000 ∧
      ∀ (H' : Hp) (A' : List Addr), HalfAt C H' p A' (putX fr xs z) (putX (!fr) ys z) (n + 1) → Step H A H' A' → Q .non H') ∨
   (∃ e t, vs = [.ref p, e, t] ∧ NoEnd K H e ∧ E (.ref CE) none H) ∨
   (∃ (fr : Bool) (t : V), vs = [.ref p, .str (endS fr), t] ∧ NoThing K H t ∧ E (.ref CT) none H))
def spLay (C : Addr) : Sp := fun vs H Q _ => ∃ (p dx f b l : Addr) (n : Int) (xs : List Int), vs = [.ref p, .ref l] ∧ H p = some (.ins C dx (hF f b n)) ∧ H l = some (.lst (xs.map V.int)) ∧ xs.length < 1000000 ∧
  ∀ (H' : Hp) (m k q : Addr), H' p = some (.ins C dx (hF f b (n + layS xs))) → H' m = some (.lst ((layM xs).map V.int)) → H' k = some (.lst ((layK xs).map V.int)) → H' q = some (.tup [.ref m, .ref k]) → m ≠ k →
    H m = none → H k = none → (∀ c o, H c = some o → c ≠ p → H' c = some o) → Q (.ref q) H'
def takeX (fr : Bool) (xs ys : List Int) : List Int := if fr then (takeM xs ys).2.1 else (takeM ys xs).2.2.1
def takeY (fr : Bool) (xs ys : List Int) : List Int := if fr then (takeM xs ys).2.2.1 else (takeM ys xs).2.1
def takeZ (fr : Bool) (xs ys : List Int) : Int := if fr then (takeM xs ys).1 else (takeM ys xs).1
def takeN (fr : Bool) (xs ys : List Int) : Int := if fr then (takeM xs ys).2.2.2 else (takeM ys xs).2.2.2
def spTakeH (K : PySem.W.Frag) (C CE CM : Addr) : Sp := fun vs H Q E => ∃ (p : Addr) (A : List Addr) (xs ys : List Int) (n : Int), HalfAt C H p A xs ys n ∧ xs.length + ys.length < 1000000 ∧
  ((∃ fr : Bool, vs = [.ref p, .str (endS fr)] ∧ xs = [] ∧ ys = [] ∧ ∀ H', Same H H' → E (.ref CM) none H') ∨
   (∃ fr : Bool, vs = [.ref p, .str (endS fr)] ∧ (xs ≠ [] ∨ ys ≠ []) ∧
      ∀ (H' : Hp) (A' : List Addr), HalfAt C H' p A' (takeX fr xs ys) (takeY fr xs ys) (n + takeN fr xs ys) → Step H A H' A' → Q (.int (takeZ fr xs ys)) H') ∨
   (∃ e, vs = [.ref p, e] ∧ NoEnd K H e ∧ E (.ref CE) none H))
def spTurnH (C : Addr) : Sp := fun vs H Q _ => ∃ (p : Addr) (A : List Addr) (xs ys : List Int) (n : Int), vs = [.ref p] ∧ HalfAt C H p A xs ys n ∧
  ∀ (H' : Hp) (A' : List Addr), HalfAt C H' p A' ys xs n → Step H A H' A' → Q .non H'
def spThingsH (C : Addr) : Sp := fun vs H Q _ => ∃ (p : Addr) (A : List Addr) (xs ys : List Int) (n : Int), vs = [.ref p] ∧ HalfAt C H p A xs ys n ∧ xs.length + ys.length < 1000000 ∧
  ∀ (H' : Hp) (l : Addr), Same H H' → H l = none → H' l = some (.lst ((xs.reverse ++ ys).map V.int)) → Q (.ref l) H'
def spStepsH (C : Addr) : Sp := fun vs H Q _ => ∃ (p : Addr) (A : List Addr) (xs ys : List Int) (n : Int), vs = [.ref p] ∧ HalfAt C H p A xs ys n ∧ Q (.int n) H
def spHalvesH (C : Addr) : Sp := fun vs H Q _ => ∃ (p : Addr) (A : List Addr) (xs ys : List Int) (n : Int), vs = [.ref p] ∧ HalfAt C H p A xs ys n ∧
  ∀ (H' : Hp) (t : Addr), Same H H' → H t = none → H' t = some (.tup [.int (xs.length : Int), .int (ys.length : Int)]) → Q (.ref t) H'
def spPurseH (C : Addr) : Sp := fun vs H Q _ => ∃ (p : Addr) (A : List Addr) (xs ys : List Int) (n : Int), vs = [.ref p] ∧ HalfAt C H p A xs ys n ∧
  Q (.int (3 * (if (xs.length : Int) - (ys.length : Int) < 0 then -((xs.length : Int) - (ys.length : Int)) else (xs.length : Int) - (ys.length : Int)))) H
abbrev bmV : List Value := [.type "ValueError", .type "Exception", .type "BaseException", .type "object"]
/-- what the top has written of an error's class -/
structure ETxt (K : PySem.W.Frag) (mg : Str → Option Value) (x : Str) (C : Addr) : Prop where
  g : mg x = some (.ref C)
  x : PySem.W.excIn K C bmV "ValueError.__new__" = true
  k : PySem.W.keepIn K (.ref C) = true
  b : PySem.W.subIn K (.ref C) (.type "BaseException") = some true
  t : PySem.W.typeIn K (.ref C) = some (.type "type")
/-- the built-ins that the text means -/
structure BTxt (mg : Str → Option Value) : Prop where
  isi : mg "isinstance" = none
  int : mg "int" = none
  bool : mg "bool" = none
  str : mg "str" = none
  len : mg "len" = none
  abs : mg "abs" = none
structure HTxt (K : PySem.W.Frag) (mg : Str → Option Value) (C CT CE CM aE : Addr) : Prop where
  cl : Cls K C
  nF : NoAttr K C "front"
  nB : NoAttr K C "back"
  nS : NoAttr K C "steps"
  gC : mg "Halfline" = some (.ref C)
  T : ETxt K mg "BadThing" CT
  E : ETxt K mg "BadEnd" CE
  M : ETxt K mg "Empty" CM
  B : BTxt mg
  ends : mg "ENDS" = some (.ref aE)
  endsT : ∀ H, SqT K H aE [.str "front", .str "back"]
end Hf
/-! ### slices -/
namespace Hf
open PySem PySem.Spec PyProof.Rows L2
theorem sIx_nat (n j : Nat) (d : Nat) : HT.sIx n d (some (j : Int)) = min j n := by
  unfold HT.sIx
  simp
  intro h
  omega
theorem cut_to (xs : List V) (j : Nat) : cutV xs none (some (j : Int)) = xs.take j := by
  unfold cutV
  rw [sIx_nat]
  show (xs.drop 0).take (min j xs.length - 0) = xs.take j
  rw [List.drop_zero, Nat.sub_zero]
  by_cases h : j ≤ xs.length
  · rw [Nat.min_eq_left h]
  · rw [Nat.min_eq_right (by omega), List.take_of_length_le (Nat.le_refl _), List.take_of_length_le (by omega)]
theorem cut_from (xs : List V) (j : Nat) : cutV xs (some (j : Int)) none = xs.drop j := by
  unfold cutV
  rw [sIx_nat]
  show (xs.drop (min j xs.length)).take (xs.length - min j xs.length) = xs.drop j
  by_cases h : j ≤ xs.length
  · rw [Nat.min_eq_left h, List.take_of_length_le (by rw [List.length_drop]; exact Nat.le_refl _)]
  · rw [Nat.min_eq_right (by omega), List.drop_of_length_le (Nat.le_refl _), List.drop_of_length_le (by omega), List.take_nil]
end Hf
/-! ## asked_thing -/
namespace Hf
open PySem PySem.Spec PyProof.Rows L2
def top (i : Nat) : Stmt := PySem.Challenge.pw_halfline_k06_whole_both.main.body.getD i (.Pass ⟨0, 0, 0, 0⟩)
abbrev sThing : Stmt := top 8
section
variable {P : Program} {w : World} {K : PySem.W.Frag} {mg : Str → Option Value} {base : Heap} {C CT CE CM aE : Addr}
theorem scThing : FnScope ["thing"] ["thing"] (defScope sThing) := ⟨rfl, rfl, rfl, by decide +kernel, rfl, by decide +kernel, by decide +kernel⟩
theorem ok_thing {f : Addr} {fd : FuncData} (F : Fun K "asked_thing" "asked_thing" sThing f fd) (B : BTxt mg) (T : ETxt K mg "BadThing" CT) : FnOk P w K mg base (L2.CX P w) 1 f fd ["thing"] (spThing K CT) := by
  refine F.okX scThing (fun vs H Q E h => ?_) (fun cdv A outer s H vs Q E hr h => ?_)
  · rcases h with ⟨_, rfl, _⟩ | ⟨_, rfl, _⟩ <;> rfl
  · refine ⟨_, pss_one (ps_if (PW.pt (pw_or (pt_not (pt_val (pe_callB call_isi (by rfl) B.isi (by decide +kernel) (pa_cons (pv 0) (pa_cons (pe_bltn (v := .ty "int") (by rfl) B.int (by decide +kernel) rfl) pa_nil)))))
        (pw_or1 (pt_val (pe_callB call_isi (by rfl) B.isi (by decide +kernel) (pa_cons (pv 0) (pa_cons (pe_bltn (v := .ty "bool") (by rfl) B.bool (by decide +kernel) rfl) pa_nil)))))))
      (pss_one (ps_raise rfl (takes_of rfl rfl rfl rfl) (pmk_own PySem.F.excBase_ValueError T.x T.g T.k (raises_own T.b T.t) (by exact rfl)))) pss_nil), ?_⟩
    rcases h with ⟨i, rfl, q⟩ | ⟨x, rfl, ⟨n, ty, hn⟩, q⟩
    · refine ⟨_, rfl, _, _, _, _, true, rfl, .ty "int", .base (.int i), kit_ty (by decide +kernel), true, rfl, iteF ?_⟩
      exact ⟨_, rfl, _, _, _, _, false, rfl, .ty "bool", .base (.int i), kit_ty (by decide +kernel), false, rfl, iteF q⟩
    · rcases hn with h1 | ⟨h1, h2⟩
      · exact ⟨_, rfl, _, _, _, _, false, rfl, .ty "int", ty, kit_ty h1, false, rfl, iteT (iteT q)⟩
      · refine ⟨_, rfl, _, _, _, _, true, rfl, .ty "int", ty, kit_ty h1, true, rfl, iteF ?_⟩
        exact ⟨_, rfl, _, _, _, _, true, rfl, .ty "bool", ty, kit_ty h2, true, rfl, iteT q⟩
end
end Hf
/-! ## Halfline: the bodies -/
namespace Hf
open PySem PySem.Spec PyProof.Rows L2
abbrev sEnd : Stmt := top 9
abbrev sHI : Stmt := inClass (top 10) 0
abbrev sHPut : Stmt := inClass (top 10) 1
abbrev sHLay : Stmt := inClass (top 10) 2
abbrev sHTake : Stmt := inClass (top 10) 3
abbrev sHTurn : Stmt := inClass (top 10) 4
abbrev sHThings : Stmt := inClass (top 10) 5
abbrev sHSteps : Stmt := inClass (top 10) 6
abbrev sHHalves : Stmt := inClass (top 10) 7
abbrev sHPurse : Stmt := inClass (top 10) 8
section
variable {P : Program} {w : World} {K : PySem.W.Frag} {mg : Str → Option Value} {base : Heap} {C CT CE CM aE : Addr}
theorem scEnd : FnScope ["end"] ["end"] (defScope sEnd) := ⟨rfl, rfl, rfl, by decide +kernel, rfl, by decide +kernel, by decide +kernel⟩
theorem inV_end (fr : Bool) : inV (.str (endS fr)) [.str "front", .str "back"] = true := by cases fr <;> decide +kernel
theorem inV_no {z : Str} (h1 : z ≠ "front") (h2 : z ≠ "back") : inV (.str z) [.str "front", .str "back"] = false := by
  have a : (("front" : Str) == z) = false := by simpa using fun e => h1 e.symm
  have b : (("back" : Str) == z) = false := by simpa using fun e => h2 e.symm
  show ((("front" : Str) == z) || ((("back" : Str) == z) || false)) = false
  rw [a, b]
  rfl
theorem ok_end {f : Addr} {fd : FuncData} (F : Fun K "asked_end" "asked_end" sEnd f fd) (T : HTxt K mg C CT CE CM aE) : FnOk P w K mg base (L2.CX P w) 1 f fd ["end"] (spEnd K CE) := by
  refine F.okX scEnd (fun vs H Q E h => ?_) (fun cdv A outer s H vs Q E hr h => ?_)
  · rcases h with ⟨_, rfl, _⟩ | ⟨_, rfl, _⟩ <;> rfl
  · refine ⟨_, pss_one (ps_if (PW.pt (pw_or (pt_not (pt_val (pe_callB call_isi (by rfl) T.B.isi (by decide +kernel) (pa_cons (pv 0) (pa_cons (pe_bltn (v := .ty "str") (by rfl) T.B.str (by decide +kernel) rfl) pa_nil)))))
        (pw_or1 (pt_cmpR op_notIn_seq (pv 0) (pe_glob (v := .ref aE) rfl T.ends rfl) (by rfl)))))
      (pss_one (ps_raise rfl (takes_of rfl rfl rfl rfl) (pmk_own PySem.F.excBase_ValueError T.E.x T.E.g T.E.k (raises_own T.E.b T.E.t) (by exact rfl)))) pss_nil), ?_⟩
    rcases h with ⟨fr, rfl, q⟩ | ⟨x, rfl, ⟨n, ty, hn⟩ | ⟨z, rfl, h1, h2⟩, q⟩
    · refine ⟨_, rfl, _, _, _, _, true, rfl, .ty "str", .base (.str _), kit_ty (by decide +kernel), true, rfl, iteF ?_⟩
      refine ⟨_, rfl, aE, _, rfl, .inr (T.endsT H), rfl, rfl, false, ?_, iteF q⟩
      show V.bl (!inV (.str (endS fr)) [.str "front", .str "back"]) = V.bl false
      rw [inV_end]
      rfl
    · exact ⟨_, rfl, _, _, _, _, false, rfl, .ty "str", ty, kit_ty hn, false, rfl, iteT (iteT q)⟩
    · refine ⟨_, rfl, _, _, _, _, true, rfl, .ty "str", .base (.str _), kit_ty (by decide +kernel), true, rfl, iteF ?_⟩
      refine ⟨_, rfl, aE, _, rfl, .inr (T.endsT H), rfl, rfl, true, ?_, iteT q⟩
      show V.bl (!inV (.str z) [.str "front", .str "back"]) = V.bl true
      rw [inV_no h1 h2]
      rfl
theorem scHI : FnScope ["self"] ["self"] (defScope sHI) := ⟨rfl, rfl, rfl, by decide +kernel, rfl, by decide +kernel, by decide +kernel⟩
theorem hF_new (f b : Addr) : putF "steps" (.int 0) (putF "back" (.ref b) (putF "front" (.ref f) [])) = hF f b 0 := by
  have e1 : putF "back" (.ref b) (putF "front" (.ref f) []) = ([("front", .ref f), ("back", .ref b)] : List (Str × V)) := (put_past (by decide +kernel)).trans rfl
  rw [e1]
  exact (put_past (by decide +kernel)).trans (congrArg _ ((put_past (by decide +kernel)).trans rfl))
theorem ok_hi {f : Addr} {fd : FuncData} (F : Fun K "__init__" "Halfline.__init__" sHI f fd) (T : HTxt K mg C CT CE CM aE) : FnOk P w K mg base CX0 1 f fd ["self"] (spInitH C) := by
  refine F.ok scHI (fun vs H Q E h => ?_) (fun cdv A outer s H vs Q E hr h => ?_)
  · obtain ⟨p, dx, rfl, _⟩ := h
    rfl
  · obtain ⟨p, dx, rfl, hp, k⟩ := h
    refine ⟨_, pss_cons (ps_fld (pv 0) (pe_lst pa_nil) rfl) (pss_cons (ps_fld (pv 0) (pe_lst pa_nil) rfl) (pss_one (ps_fld (pv 0) pe_int rfl))), ?_⟩
    refine ⟨(by show 0 ≤ sizeLine; decide), fun f1 n1 => ?_⟩
    have pf : p ≠ f1 := ne_of_none hp n1
    refine ⟨_, rfl, p, C, dx, [], rfl, (by rw [upd_ne pf]; exact hp), T.cl, T.nF, (by show 0 < 1000; decide), ?_⟩
    refine ⟨(by show 0 ≤ sizeLine; decide), fun b1 n2 => ?_⟩
    have pb : p ≠ b1 := ne_of_none upd_same n2
    have fb : f1 ≠ b1 := ne_of_none (by rw [upd_ne pf.symm]; exact upd_same) n2
    refine ⟨_, rfl, p, C, dx, _, rfl, (by rw [upd_ne pb]; exact upd_same), T.cl, T.nB, (by show 1 < 1000; decide), ?_⟩
    refine ⟨_, rfl, p, C, dx, _, rfl, upd_same, T.cl, T.nS, (by show 2 < 1000; decide), ?_⟩
    refine k _ [p, f1, b1] ⟨dx, f1, b1, rfl, Eq.trans upd_same (congrArg (fun q => some (HO.ins C dx q)) (hF_new f1 b1)), ?_, ?_, fb⟩ fun c o e hc => ?_
    · rw [upd_ne pf.symm, upd_ne pf.symm, upd_ne fb, upd_ne pf.symm]
      exact upd_same
    · rw [upd_ne pb.symm, upd_ne pb.symm]
      exact upd_same
    · have c1 : c ≠ f1 := ne_of_none e n1
      have c2 : c ≠ b1 := by
        refine ne_of_none (o := o) ?_ n2
        rw [upd_ne hc, upd_ne c1]
        exact e
      refine ⟨by rw [upd_ne hc, upd_ne hc, upd_ne c2, upd_ne hc, upd_ne c1]; exact e, by simp [hc, c1, c2]⟩
theorem scHPut : FnScope ["self", "end", "thing", "row"] ["self", "end", "thing"] (defScope sHPut) := ⟨rfl, rfl, rfl, by decide +kernel, rfl, by decide +kernel, by decide +kernel⟩
theorem dec_end (fr : Bool) : decide (V.str (endS fr) = V.str "front") = fr := by cases fr <;> decide +kernel
theorem dec_endB (fr : Bool) : decide (V.str (endS fr) = V.str "back") = !fr := by cases fr <;> decide +kernel
theorem ok_hput {f fT fE : Addr} {fd fdT fdE : FuncData} (F : Fun K "put" "Halfline.put" sHPut f fd) (T : HTxt K mg C CT CE CM aE)
    (FT : Fun K "asked_thing" "asked_thing" sThing fT fdT) (bT : Binds K fdT ["thing"] []) (gT : mg "asked_thing" = some (.ref fT))
    (FE : Fun K "asked_end" "asked_end" sEnd fE fdE) (bE : Binds K fdE ["end"] []) (gE : mg "asked_end" = some (.ref fE)) :
    FnOk P w K mg base (L2.CX P w) 2 f fd ["self", "end", "thing"] (spPutH K C CT CE) := by
  have GT : FnOk P w K mg base (L2.CX P w) 1 fT fdT ["thing"] (spThing K CT) := ok_thing FT T.B T.T
  have GE : FnOk P w K mg base (L2.CX P w) 1 fE fdE ["end"] (spEnd K CE) := ok_end FE T
  refine F.okX scHPut (fun vs H Q E h => ?_) (fun cdv A outer s H vs Q E hr h => ?_)
  · obtain ⟨p, A, xs, ys, n, hA, ⟨fr, z, rfl, _⟩ | ⟨e, t, rfl, _⟩ | ⟨fr, t, rfl, _⟩⟩ := h <;> rfl
  · refine ⟨_, pss_cons (ps_expr (pe_callS GE hr rfl gE FE.kp bE (fun σ => passAt (takes_of rfl rfl rfl rfl) σ) (pa_cons (pv 1) pa_nil)))
      (pss_cons (ps_expr (pe_callS GT hr rfl gT FT.kp bT (fun σ => passAt (takes_of rfl rfl rfl rfl) σ) (pa_cons (pv 2) pa_nil)))
      (pss_cons (ps_set (i := 3) scHPut.nd rfl (Or.inl rfl) (pe_ifExp (pt_cmpR op_eq (pv 1) pe_str (nomark _)) (pe_fld (pv 0) rfl) (pe_fld (pv 0) rfl)))
      (pss_cons (ps_expr (pe_bm PySem.F.plainAttrs_list PySem.F.slot_list_append PySem.F.type_list_append mt_append (pv 3) (pa_cons (pv 2) pa_nil)))
      (pss_one (ps_fld (pv 0) (pe_op op_add (pe_fld (pv 0) rfl) pe_int) rfl))))), ?_⟩
    obtain ⟨p, A, xs, ys, n, hA, ⟨fr, z, rfl, hlen, k⟩ | ⟨e, t, rfl, he, k⟩ | ⟨fr, t, rfl, ht, k⟩⟩ := h
    · obtain ⟨dx, f1, b1, rfl, h1, h2, h3, h4⟩ := hA
      have pf : p ≠ f1 := ne_of h1 h2 (by intro q; cases q)
      have pb : p ≠ b1 := ne_of h1 h3 (by intro q; cases q)
      have hz : ∀ l : List Int, l.length < 1000000 → (l.map V.int).length < sizeLine := fun l hl => by
        rw [List.length_map, sizeLine_eq]
        omega
      refine ⟨_, rfl, .inl ⟨fr, rfl, ?_⟩⟩
      refine ⟨_, rfl, .inl ⟨z, rfl, ?_⟩⟩
      refine ⟨_, rfl, rfl, fr, congrArg V.bl (dec_end fr), ?_⟩
      cases fr with
      | true =>
        refine iteT ⟨_, rfl, p, C, dx, _, _, rfl, h1, T.cl, T.nF, hF_front _ _ _, ?_⟩
        refine ⟨_, rfl, .inl ⟨rfl, _, SqL.of h2⟩, _, rfl, f1, _, _, rfl, rfl, h2, hz xs (by omega), ?_⟩
        have h1' : upd H f1 (.lst (xs.map V.int ++ [V.int z])) p = some (.ins C dx (hF f1 b1 n)) := by rw [upd_ne pf]; exact h1
        refine ⟨_, rfl, p, C, dx, _, _, rfl, h1', T.cl, T.nS, hF_steps _ _ _, _, _, rfl, rfl, _, rfl, p, C, dx, _, rfl, h1', T.cl, T.nS, (by show 3 < 1000; decide), ?_⟩
        refine k _ [p, f1, b1] ⟨dx, f1, b1, rfl, Eq.trans upd_same (congrArg (fun q => some (HO.ins C dx q)) (put_steps _ _ _ _)), ?_, ?_, h4⟩ fun q o e hq => ?_
        · rw [upd_ne pf.symm, upd_same]
          simp [putX]
        · rw [upd_ne pb.symm, upd_ne h4.symm]
          exact h3
        · simp at hq
          refine ⟨by rw [upd_ne hq.1, upd_ne hq.2.1]; exact e, by simp [hq]⟩
      | false =>
        refine iteF ⟨_, rfl, p, C, dx, _, _, rfl, h1, T.cl, T.nB, hF_back _ _ _, ?_⟩
        refine ⟨_, rfl, .inl ⟨rfl, _, SqL.of h3⟩, _, rfl, b1, _, _, rfl, rfl, h3, hz ys (by omega), ?_⟩
        have h1' : upd H b1 (.lst (ys.map V.int ++ [V.int z])) p = some (.ins C dx (hF f1 b1 n)) := by rw [upd_ne pb]; exact h1
        refine ⟨_, rfl, p, C, dx, _, _, rfl, h1', T.cl, T.nS, hF_steps _ _ _, _, _, rfl, rfl, _, rfl, p, C, dx, _, rfl, h1', T.cl, T.nS, (by show 3 < 1000; decide), ?_⟩
        refine k _ [p, f1, b1] ⟨dx, f1, b1, rfl, Eq.trans upd_same (congrArg (fun q => some (HO.ins C dx q)) (put_steps _ _ _ _)), ?_, ?_, h4⟩ fun q o e hq => ?_
        · rw [upd_ne pf.symm, upd_ne h4]
          exact h2
        · rw [upd_ne pb.symm, upd_same]
          simp [putX]
        · simp at hq
          refine ⟨by rw [upd_ne hq.1, upd_ne hq.2.2]; exact e, by simp [hq]⟩
    · exact ⟨_, rfl, .inr ⟨e, rfl, he, k⟩⟩
    · exact ⟨_, rfl, .inl ⟨fr, rfl, _, rfl, .inr ⟨t, rfl, ht, k⟩⟩⟩
theorem scHLay : FnScope ["self", "full", "many", "over", "moved", "kept"] ["self", "full"] (defScope sHLay) := ⟨rfl, rfl, rfl, by decide +kernel, rfl, by decide +kernel, by decide +kernel⟩
theorem over_eq (n : Nat) : ((n : Int) + 1) / 2 = (overN n : Int) := by
  unfold overN
  omega
theorem overN_le (n : Nat) : overN n ≤ n ∨ n = 0 := by
  unfold overN
  omega
theorem ok_hlay {f : Addr} {fd : FuncData} (F : Fun K "lay_over" "Halfline.lay_over" sHLay f fd) (T : HTxt K mg C CT CE CM aE) : FnOk P w K mg base CX0 1 f fd ["self", "full"] (spLay C) := by
  refine F.ok scHLay (fun vs H Q E h => ?_) (fun cdv A outer s H vs Q E hr h => ?_)
  · obtain ⟨p, dx, f1, b1, l, n, xs, rfl, _⟩ := h
    rfl
  · obtain ⟨p, dx, f1, b1, l, n, xs, rfl, h1, h2, hlen, k⟩ := h
    refine ⟨_, pss_cons (ps_set (i := 2) scHLay.nd rfl (Or.inl rfl) (pe_callB call_len_seq (by rfl) T.B.len PySem.boot_len (pa_cons (pv 1) pa_nil)))
      (pss_cons (ps_set (i := 3) scHLay.nd rfl (Or.inl rfl) (pe_op op_fdiv (pe_op op_add (pv 2) pe_int) pe_int))
      (pss_cons (ps_set (i := 4) scHLay.nd rfl (Or.inl rfl) (pe_revL (pe_slice sl_list (pv 1) po_none (po_some (pv 3)))))
      (pss_cons (ps_set (i := 5) scHLay.nd rfl (Or.inl rfl) (pe_slice sl_list (pv 1) (po_some (pv 3)) po_none))
      (pss_cons (ps_fld (pv 0) (pe_op op_add (pe_op op_add (pe_fld (pv 0) rfl) (pv 3)) (pe_op op_mul pe_int (pe_op op_sub (pv 2) (pv 3)))) rfl)
      (pss_one (ps_ret (pe_tup (pa_cons (pv 4) (pa_cons (pv 5) pa_nil))))))))), ?_⟩
    have eo : ((((xs.map V.int).length : Nat) : Int) + 1) / 2 = (overN xs.length : Int) := by
      rw [List.length_map]
      exact over_eq _
    refine ⟨_, rfl, l, _, rfl, .inl (SqL.of h2), ?_⟩
    refine ⟨_, rfl, _, _, rfl, rfl, _, _, rfl, rfl, ⟨by decide, by decide⟩, ?_⟩
    refine ⟨_, rfl, _, rfl, _, rfl, l, _, rfl, SqL.of h2, fun u nu => ?_⟩
    refine ⟨u, _, rfl, SqL.of upd_same, fun m nm => ?_⟩
    have lu : l ≠ u := ne_of_none h2 nu
    have lm : l ≠ m := ne_of_none (by rw [upd_ne lu]; exact h2) nm
    have pu : p ≠ u := ne_of_none h1 nu
    have pm : p ≠ m := ne_of_none (by rw [upd_ne pu]; exact h1) nm
    refine ⟨_, rfl, _, rfl, _, rfl, l, _, rfl, SqL.of (by rw [upd_ne lm, upd_ne lu]; exact h2), fun k1 nk => ?_⟩
    have nm0 : H m = Option.none := Same.free (Same.new nu) nm
    have nk0 : H k1 = Option.none := Same.free ((Same.new nu).trans (Same.new nm)) nk
    have pk : p ≠ k1 := ne_of_none (by rw [upd_ne pm, upd_ne pu]; exact h1) nk
    have mk : m ≠ k1 := ne_of_none upd_same nk
    have hp3 : ∀ x y z, (upd (upd (upd H u x) m y) k1 z) p = some (.ins C dx (hF f1 b1 n)) := fun x y z => by
      rw [upd_ne pk, upd_ne pm, upd_ne pu]
      exact h1
    refine ⟨_, rfl, p, C, dx, _, _, rfl, hp3 _ _ _, T.cl, T.nS, hF_steps _ _ _, _, rfl, _, _, rfl, rfl, _, rfl, _, rfl, _, _, rfl, rfl, _, _, rfl, rfl, .inl ⟨by decide, by decide⟩, _, _, rfl, rfl, _, rfl, p, C, dx, _, rfl, hp3 _ _ _, T.cl, T.nS, (by show 3 < 1000; decide), ?_⟩
    refine ⟨_, rfl, _, rfl, (by show 2 ≤ sizeLine; decide), fun q nq => ?_⟩
    have es : n + ((((xs.map V.int).length : Nat) : Int) + 1) / 2 + 2 * ((((xs.map V.int).length : Nat) : Int) - ((((xs.map V.int).length : Nat) : Int) + 1) / 2) = n + layS xs := by
      rw [eo, List.length_map]
      unfold layS
      omega
    have qp : p ≠ q := ne_of_none upd_same nq
    have qm : m ≠ q := ne_of_none (by rw [upd_ne pm.symm, upd_ne mk]; exact upd_same) nq
    have qk : k1 ≠ q := ne_of_none (by rw [upd_ne pk.symm]; exact upd_same) nq
    refine k _ m k1 q ?_ ?_ ?_ upd_same mk nm0 nk0 fun c o e hc => ?_
    · rw [upd_ne qp, upd_same]
      exact congrArg (fun q => some (HO.ins C dx q)) ((put_steps _ _ _ _).trans (congrArg _ es))
    · rw [upd_ne qm, upd_ne pm.symm, upd_ne mk, upd_same]
      unfold layM
      rw [List.map_reverse, List.map_take, ← cut_to, ← eo]
    · rw [upd_ne qk, upd_ne pk.symm, upd_same]
      unfold layK
      rw [List.map_drop, ← cut_from, ← eo]
    · have cu : c ≠ u := ne_of_none e nu
      have cm : c ≠ m := ne_of_none e nm0
      have ck : c ≠ k1 := ne_of_none e nk0
      have cq : c ≠ q := ne_of_none (o := o) (by rw [upd_ne hc, upd_ne ck, upd_ne cm, upd_ne cu]; exact e) nq
      rw [upd_ne cq, upd_ne hc, upd_ne ck, upd_ne cm, upd_ne cu]
      exact e
end
end Hf
/-! ## Halfline: take, turn, what is told -/
namespace Hf
open PySem PySem.Spec PyProof.Rows L2
section
variable {P : Program} {w : World} {K : PySem.W.Frag} {mg : Str → Option Value} {base : Heap} {C CT CE CM aE : Addr}
section
variable {σ : L2.St} {H : Hp} {p : Addr} {A : List Addr} {xs ys : List Int} {n : Int}
theorem rd_nilF {Q : Bool → Hp → Prop} (T : HTxt K mg C CT CE CM aE) (h0 : σ[0]? = some (some (.ref p))) (h : HalfAt C H p A xs ys n) (k : ∀ H1, Same H H1 → Q (decide (xs = [])) H1) :
    tTest (tOp (rEqI K) (tFld K (tVar 0) "front") (tLst tNil)) σ H Q := by
  obtain ⟨dx, f, b, rfl, h1, h2, h3, h4⟩ := h
  refine ⟨_, h0, p, C, dx, _, _, rfl, h1, T.cl, T.nF, hF_front _ _ _, ?_⟩
  refine ⟨(by show 0 ≤ sizeLine; decide), fun e ne => ?_⟩
  exact ⟨f, e, xs, [], rfl, rfl, SqL.of (Same.new ne _ _ h2), SqL.of upd_same, _, rfl, k _ (Same.new ne)⟩
theorem rd_nilB {Q : Bool → Hp → Prop} (T : HTxt K mg C CT CE CM aE) (h0 : σ[0]? = some (some (.ref p))) (h : HalfAt C H p A xs ys n) (k : ∀ H1, Same H H1 → Q (decide (ys = [])) H1) :
    tTest (tOp (rEqI K) (tFld K (tVar 0) "back") (tLst tNil)) σ H Q := by
  obtain ⟨dx, f, b, rfl, h1, h2, h3, h4⟩ := h
  refine ⟨_, h0, p, C, dx, _, _, rfl, h1, T.cl, T.nB, hF_back _ _ _, ?_⟩
  refine ⟨(by show 0 ≤ sizeLine; decide), fun e ne => ?_⟩
  exact ⟨b, e, ys, [], rfl, rfl, SqL.of (Same.new ne _ _ h3), SqL.of upd_same, _, rfl, k _ (Same.new ne)⟩
/-- self.front, self.back = self.lay_over(self.back) -/
def t_layF (K : PySem.W.Frag) (C : Addr) : TS := tAsg (tMeth C "lay_over" (spLay C) [] E0 (tVar 0) (tCons (tFld K (tVar 0) "back") tNil)) (gTup K 2 (gCons (gFld K (tVar 0) "front") (gCons (gFld K (tVar 0) "back") gNil)))
def t_layB (K : PySem.W.Frag) (C : Addr) : TS := tAsg (tMeth C "lay_over" (spLay C) [] E0 (tVar 0) (tCons (tFld K (tVar 0) "front") tNil)) (gTup K 2 (gCons (gFld K (tVar 0) "back") (gCons (gFld K (tVar 0) "front") gNil)))
theorem rd_layF {D : Ends} (T : HTxt K mg C CT CE CM aE) (h0 : σ[0]? = some (some (.ref p))) (h : HalfAt C H p A xs ys n) (hl : ys.length < 1000000)
    (k : ∀ (H1 : Hp) (A1 : List Addr), HalfAt C H1 p A1 (layM ys) (layK ys) (n + layS ys) → Step H A H1 A1 → D.nx σ H1) : t_layF K C D σ H := by
  obtain ⟨dx, f, b, rfl, h1, h2, h3, h4⟩ := h
  refine ⟨_, h0, p, dx, _, rfl, h1, hF_no _ _ _ (by decide +kernel) (by decide +kernel) (by decide +kernel), _, h0, p, C, dx, _, _, rfl, h1, T.cl, T.nB, hF_back _ _ _, ?_⟩
  refine ⟨p, dx, f, b, b, n, ys, rfl, h1, h3, hl, fun H' m k1 q e1 e2 e3 e4 mk nm nk kp => ?_⟩
  have pm : p ≠ m := ne_of e1 e2 (by intro z; cases z)
  have pk : p ≠ k1 := ne_of e1 e3 (by intro z; cases z)
  have pq : p ≠ q := ne_of e1 e4 (by intro z; cases z)
  refine ⟨q, _, rfl, SqT.of e4, rfl, _, _, rfl, _, h0, p, C, dx, _, rfl, e1, T.cl, T.nF, (by show 3 < 1000; decide), ?_⟩
  refine ⟨_, _, rfl, _, h0, p, C, dx, _, rfl, upd_same, T.cl, T.nB, (by show 3 < 1000; decide), rfl, ?_⟩
  refine k _ [p, m, k1] ⟨dx, m, k1, rfl, Eq.trans upd_same (congrArg (fun q => some (HO.ins C dx q)) ?_), ?_, ?_, mk⟩ fun c o e hc => ?_
  · rw [put_front, put_back]
  · rw [upd_ne pm.symm, upd_ne pm.symm]
    exact e2
  · rw [upd_ne pk.symm, upd_ne pk.symm]
    exact e3
  · simp at hc
    have cm : c ≠ m := ne_of_none e nm
    have ck : c ≠ k1 := ne_of_none e nk
    refine ⟨?_, by simp [hc.1, cm, ck]⟩
    rw [upd_ne hc.1, upd_ne hc.1]
    exact kp c o e hc.1
theorem rd_layB {D : Ends} (T : HTxt K mg C CT CE CM aE) (h0 : σ[0]? = some (some (.ref p))) (h : HalfAt C H p A xs ys n) (hl : xs.length < 1000000)
    (k : ∀ (H1 : Hp) (A1 : List Addr), HalfAt C H1 p A1 (layK xs) (layM xs) (n + layS xs) → Step H A H1 A1 → D.nx σ H1) : t_layB K C D σ H := by
  obtain ⟨dx, f, b, rfl, h1, h2, h3, h4⟩ := h
  refine ⟨_, h0, p, dx, _, rfl, h1, hF_no _ _ _ (by decide +kernel) (by decide +kernel) (by decide +kernel), _, h0, p, C, dx, _, _, rfl, h1, T.cl, T.nF, hF_front _ _ _, ?_⟩
  refine ⟨p, dx, f, b, f, n, xs, rfl, h1, h2, hl, fun H' m k1 q e1 e2 e3 e4 mk nm nk kp => ?_⟩
  have pm : p ≠ m := ne_of e1 e2 (by intro z; cases z)
  have pk : p ≠ k1 := ne_of e1 e3 (by intro z; cases z)
  have pq : p ≠ q := ne_of e1 e4 (by intro z; cases z)
  refine ⟨q, _, rfl, SqT.of e4, rfl, _, _, rfl, _, h0, p, C, dx, _, rfl, e1, T.cl, T.nB, (by show 3 < 1000; decide), ?_⟩
  refine ⟨_, _, rfl, _, h0, p, C, dx, _, rfl, upd_same, T.cl, T.nF, (by show 3 < 1000; decide), rfl, ?_⟩
  refine k _ [p, k1, m] ⟨dx, k1, m, rfl, Eq.trans upd_same (congrArg (fun q => some (HO.ins C dx q)) ?_), ?_, ?_, mk.symm⟩ fun c o e hc => ?_
  · rw [put_back, put_front]
  · rw [upd_ne pk.symm, upd_ne pk.symm]
    exact e3
  · rw [upd_ne pm.symm, upd_ne pm.symm]
    exact e2
  · simp at hc
    have cm : c ≠ m := ne_of_none e nm
    have ck : c ≠ k1 := ne_of_none e nk
    refine ⟨?_, by simp [hc.1, cm, ck]⟩
    rw [upd_ne hc.1, upd_ne hc.1]
    exact kp c o e hc.1
/-- self.steps = self.steps + 1; return self.front.pop() if end == 'front' else self.back.pop() -/
def t_tend (K : PySem.W.Frag) : TS := tSeq (sFld K (tVar 0) (tOp (rI0 fun i j => .int (i + j)) (tFld K (tVar 0) "steps") (tC (.int 1))) "steps")
  (tRet (tIf (tTest (tOp rEq (tVar 1) (tC (.str "front")))) (tBM0 K "list" rPop (tFld K (tVar 0) "front")) (tBM0 K "list" rPop (tFld K (tVar 0) "back"))))
theorem last_map {l : List Int} (h : l ≠ []) : (l.map V.int)[(l.map V.int).length - 1]? = some (V.int (l.getLastD 0)) := by
  have e : l = l.dropLast ++ [l.getLast h] := (List.dropLast_concat_getLast h).symm
  have e2 : l.getLastD 0 = l.getLast h := by
    cases l with
    | nil => exact absurd rfl h
    | cons a r => rfl
  rw [List.getElem?_map, List.length_map, ← List.getLast?_eq_getElem?, List.getLast?_eq_some_getLast h, e2]
  rfl
theorem map_dropLast' (l : List Int) : (l.map V.int).dropLast = l.dropLast.map V.int := by
  rw [List.map_dropLast]
theorem rd_tend {D : Ends} {fr : Bool} (T : HTxt K mg C CT CE CM aE) (h0 : σ[0]? = some (some (.ref p))) (h1' : σ[1]? = some (some (.str (endS fr)))) (h : HalfAt C H p A xs ys n) (hne : (if fr then xs else ys) ≠ [])
    (k : ∀ (H1 : Hp) (A1 : List Addr), HalfAt C H1 p A1 (if fr then xs.dropLast else xs) (if fr then ys else ys.dropLast) (n + 1) → Step H A H1 A1 → D.rt (.int ((if fr then xs else ys).getLastD 0)) H1) : t_tend K D σ H := by
  obtain ⟨dx, f, b, rfl, h1, h2, h3, h4⟩ := h
  have pf : p ≠ f := ne_of h1 h2 (by intro q; cases q)
  have pb : p ≠ b := ne_of h1 h3 (by intro q; cases q)
  refine ⟨_, h0, p, C, dx, _, _, rfl, h1, T.cl, T.nS, hF_steps _ _ _, _, _, rfl, rfl, _, h0, p, C, dx, _, rfl, h1, T.cl, T.nS, (by show 3 < 1000; decide), ?_⟩
  have g1 : upd H p (.ins C dx (putF "steps" (.int (n + 1)) (hF f b n))) p = some (.ins C dx (hF f b (n + 1))) := by
    rw [put_steps]
    exact upd_same
  have g2 : upd H p (.ins C dx (putF "steps" (.int (n + 1)) (hF f b n))) f = some (.lst (xs.map V.int)) := by rw [upd_ne pf.symm]; exact h2
  have g3 : upd H p (.ins C dx (putF "steps" (.int (n + 1)) (hF f b n))) b = some (.lst (ys.map V.int)) := by rw [upd_ne pb.symm]; exact h3
  refine ⟨_, h1', rfl, fr, congrArg V.bl (dec_end fr), ?_⟩
  cases fr with
  | true =>
    refine iteT ⟨_, h0, p, C, dx, _, _, rfl, g1, T.cl, T.nF, hF_front _ _ _, .inl ⟨rfl, _, SqL.of g2⟩, f, _, _, rfl, rfl, g2, last_map hne, ?_⟩
    refine k _ [p, f, b] ⟨dx, f, b, rfl, ?_, ?_, ?_, h4⟩ fun q o e hq => ?_
    · rw [upd_ne pf]
      exact g1
    · rw [upd_same, map_dropLast']
      rfl
    · rw [upd_ne h4.symm]
      exact g3
    · simp at hq
      exact ⟨by rw [upd_ne hq.2.1, upd_ne hq.1]; exact e, by simp [hq]⟩
  | false =>
    refine iteF ⟨_, h0, p, C, dx, _, _, rfl, g1, T.cl, T.nB, hF_back _ _ _, .inl ⟨rfl, _, SqL.of g3⟩, b, _, _, rfl, rfl, g3, last_map hne, ?_⟩
    refine k _ [p, f, b] ⟨dx, f, b, rfl, ?_, ?_, ?_, h4⟩ fun q o e hq => ?_
    · rw [upd_ne pb]
      exact g1
    · rw [upd_ne h4]
      exact g2
    · rw [upd_same, map_dropLast']
      rfl
    · simp at hq
      exact ⟨by rw [upd_ne hq.2.2, upd_ne hq.1]; exact e, by simp [hq]⟩
end
theorem scHTake : FnScope ["self", "end"] ["self", "end"] (defScope sHTake) := ⟨rfl, rfl, rfl, by decide +kernel, rfl, by decide +kernel, by decide +kernel⟩
theorem ok_htake {f fE fL : Addr} {fd fdE fdL : FuncData} (F : Fun K "take" "Halfline.take" sHTake f fd) (T : HTxt K mg C CT CE CM aE)
    (FE : Fun K "asked_end" "asked_end" sEnd fE fdE) (bE : Binds K fdE ["end"] []) (gE : mg "asked_end" = some (.ref fE))
    (FL : Fun K "lay_over" "Halfline.lay_over" sHLay fL fdL) (bL : Binds K fdL ["self", "full"] []) (mL : Meth K C "lay_over" fL) :
    FnOk P w K mg base (L2.CX P w) 2 f fd ["self", "end"] (spTakeH K C CE CM) := by
  have GE : FnOk P w K mg base (L2.CX P w) 1 fE fdE ["end"] (spEnd K CE) := ok_end FE T
  have GL : FnOk P w K mg base CX0 1 fL fdL ["self", "full"] (spLay C) := ok_hlay FL T
  refine F.okX scHTake (fun vs H Q E h => ?_) (fun cdv A outer s H vs Q E hr h => ?_)
  · obtain ⟨p, A, xs, ys, n, hA, hl, ⟨fr, rfl, _⟩ | ⟨fr, rfl, _⟩ | ⟨e, rfl, _⟩⟩ := h <;> rfl
  · refine ⟨_, pss_cons (ps_expr (pe_callS GE hr rfl gE FE.kp bE (fun σ => passAt (takes_of rfl rfl rfl rfl) σ) (pa_cons (pv 1) pa_nil)))
      (pss_cons (ps_if (PW.pt (pw_and (pt_cmpR (op_eqI hr.units) (pe_fld (pv 0) rfl) (pe_lst pa_nil) (nomark _)) (pw_and1 (pt_cmpR (op_eqI hr.units) (pe_fld (pv 0) rfl) (pe_lst pa_nil) (nomark _)))))
        (pss_one (ps_raise rfl (takes_of rfl rfl rfl rfl) (pmk_own PySem.F.excBase_ValueError T.M.x T.M.g T.M.k (raises_own T.M.b T.M.t) (by exact rfl)))) pss_nil)
      (pss_cons (ps_if (PW.pt (pw_and (pt_cmpR op_eq (pv 1) pe_str (nomark _)) (pw_and1 (pt_cmpR (op_eqI hr.units) (pe_fld (pv 0) rfl) (pe_lst pa_nil) (nomark _)))))
        (pss_one (ps_asg (pe_meth (pv 0) T.cl mL GL hr bL .nil pass0 (pa_cons (pe_fld (pv 0) rfl) pa_nil)) (pg_tup rfl (pgs_cons (pg_fld (pv 0)) (pgs_cons (pg_fld (pv 0)) pgs_nil))))) pss_nil)
      (pss_cons (ps_if (PW.pt (pw_and (pt_cmpR op_eq (pv 1) pe_str (nomark _)) (pw_and1 (pt_cmpR (op_eqI hr.units) (pe_fld (pv 0) rfl) (pe_lst pa_nil) (nomark _)))))
        (pss_one (ps_asg (pe_meth (pv 0) T.cl mL GL hr bL .nil pass0 (pa_cons (pe_fld (pv 0) rfl) pa_nil)) (pg_tup rfl (pgs_cons (pg_fld (pv 0)) (pgs_cons (pg_fld (pv 0)) pgs_nil))))) pss_nil)
      (pss_cons (ps_fld (pv 0) (pe_op op_add (pe_fld (pv 0) rfl) pe_int) rfl)
      (pss_one (ps_ret (pe_ifExp (pt_cmpR op_eq (pv 1) pe_str (nomark _)) (pe_bm0 PySem.F.plainAttrs_list PySem.F.slot_list_pop PySem.F.type_list_pop mt_pop (pe_fld (pv 0) rfl)) (pe_bm0 PySem.F.plainAttrs_list PySem.F.slot_list_pop PySem.F.type_list_pop mt_pop (pe_fld (pv 0) rfl))))))))), ?_⟩
    obtain ⟨p, A, xs, ys, n, hA, hlen, ⟨fr, rfl, hx, hy, k⟩ | ⟨fr, rfl, hne, k⟩ | ⟨e, rfl, he, k⟩⟩ := h
    · refine ⟨_, rfl, .inl ⟨fr, rfl, ?_⟩⟩
      refine rd_nilF (p := p) T rfl hA fun H1 s1 => ?_
      rw [decide_eq_true hx]
      refine iteT (rd_nilB (p := p) T rfl (hA.same s1) fun H2 s2 => ?_)
      rw [decide_eq_true hy]
      exact iteT (k _ (s1.trans s2))
    · refine ⟨_, rfl, .inl ⟨fr, rfl, ?_⟩⟩
      -- behind the first if
      suffices h3 : ∀ H1, Same H H1 → tSeq (tIfS (tAnd (tTest (tOp rEq (tVar 1) (tC (.str "front")))) (tTest (tOp (rEqI K) (tFld K (tVar 0) "front") (tLst tNil)))) (t_layF K C) tNext)
          (tSeq (tIfS (tAnd (tTest (tOp rEq (tVar 1) (tC (.str "back")))) (tTest (tOp (rEqI K) (tFld K (tVar 0) "back") (tLst tNil)))) (t_layB K C) tNext) (t_tend K)) { nx := fun _ H' => Q .non H', rt := Q } (start ["self", "end"] [.ref p, .str (endS fr)]) H1 by
        refine rd_nilF (p := p) T rfl hA fun H1 s1 => ?_
        by_cases hx : xs = []
        · rw [decide_eq_true hx]
          have hy : ys ≠ [] := hne.resolve_left fun z => z hx
          refine iteT (rd_nilB (p := p) T rfl (hA.same s1) fun H2 s2 => ?_)
          rw [decide_eq_false hy]
          exact iteF (h3 _ (s1.trans s2))
        · rw [decide_eq_false hx]
          exact iteF (iteF (h3 _ s1))
      intro H1 s1
      have hA1 := hA.same s1
      refine ⟨_, rfl, rfl, fr, congrArg V.bl (dec_end fr), ?_⟩
      cases fr with
      | true =>
        refine iteT (rd_nilF (p := p) T rfl hA1 fun H2 s2 => ?_)
        have hA2 := hA1.same s2
        have s12 : Step H A H2 A := Step.ofSame (s1.trans s2)
        -- behind both ifs
        suffices h4 : ∀ (H3 : Hp) (A3 : List Addr), HalfAt C H3 p A3 (laid xs ys).1 (laid xs ys).2.1 (n + (laid xs ys).2.2) → Step H A H3 A3 → tSeq (tIfS (tAnd (tTest (tOp rEq (tVar 1) (tC (.str "back")))) (tTest (tOp (rEqI K) (tFld K (tVar 0) "back") (tLst tNil)))) (t_layB K C) tNext) (t_tend K) { nx := fun _ H' => Q .non H', rt := Q } (start ["self", "end"] [.ref p, .str (endS true)]) H3 by
          by_cases hx : xs = []
          · rw [decide_eq_true hx]
            refine iteT (rd_layF (p := p) T rfl hA2 (by omega) fun H3 A3 h5 s5 => ?_)
            refine h4 H3 A3 ?_ (s12.trans s5)
            unfold laid
            rw [if_pos hx]
            exact h5
          · rw [decide_eq_false hx]
            refine iteF (h4 H2 A ?_ s12)
            unfold laid
            rw [if_neg hx]
            show HalfAt C H2 p A xs ys (n + 0)
            rw [Int.add_zero]
            exact hA2
        intro H3 A3 h5 s5
        refine ⟨_, rfl, rfl, false, congrArg V.bl (dec_endB true), iteF (iteF ?_)⟩
        refine rd_tend (fr := true) (p := p) T rfl rfl h5 (laid_ne hne) fun H4 A4 h6 s6 => ?_
        refine k H4 A4 ?_ (s5.trans s6)
        have e : n + takeN true xs ys = n + (laid xs ys).2.2 + 1 := by
          show n + ((laid xs ys).2.2 + 1) = n + (laid xs ys).2.2 + 1
          omega
        rw [e]
        exact h6
      | false =>
        refine iteF (iteF ⟨_, rfl, rfl, true, congrArg V.bl (dec_endB false), iteT (rd_nilB (p := p) T rfl hA1 fun H2 s2 => ?_)⟩)
        have hA2 := hA1.same s2
        have s12 : Step H A H2 A := Step.ofSame (s1.trans s2)
        suffices h4 : ∀ (H3 : Hp) (A3 : List Addr), HalfAt C H3 p A3 (laid ys xs).2.1 (laid ys xs).1 (n + (laid ys xs).2.2) → Step H A H3 A3 → t_tend K { nx := fun _ H' => Q .non H', rt := Q } (start ["self", "end"] [.ref p, .str (endS false)]) H3 by
          by_cases hx : ys = []
          · rw [decide_eq_true hx]
            refine iteT (rd_layB (p := p) T rfl hA2 (by omega) fun H3 A3 h5 s5 => ?_)
            refine h4 H3 A3 ?_ (s12.trans s5)
            unfold laid
            rw [if_pos hx]
            exact h5
          · rw [decide_eq_false hx]
            refine iteF (h4 H2 A ?_ s12)
            unfold laid
            rw [if_neg hx]
            show HalfAt C H2 p A xs ys (n + 0)
            rw [Int.add_zero]
            exact hA2
        intro H3 A3 h5 s5
        refine rd_tend (fr := false) (p := p) T rfl rfl h5 (laid_ne hne.symm) fun H4 A4 h6 s6 => ?_
        refine k H4 A4 ?_ (s5.trans s6)
        have e : n + takeN false xs ys = n + (laid ys xs).2.2 + 1 := by
          show n + ((laid ys xs).2.2 + 1) = n + (laid ys xs).2.2 + 1
          omega
        rw [e]
        exact h6
    · exact ⟨_, rfl, .inr ⟨e, rfl, he, k⟩⟩
theorem scHThings : FnScope ["self"] ["self"] (defScope sHThings) := ⟨rfl, rfl, rfl, by decide +kernel, rfl, by decide +kernel, by decide +kernel⟩
theorem ok_hthings {f : Addr} {fd : FuncData} (F : Fun K "things" "Halfline.things" sHThings f fd) (T : HTxt K mg C CT CE CM aE) : FnOk P w K mg base CX0 1 f fd ["self"] (spThingsH C) := by
  refine F.ok scHThings (fun vs H Q E h => ?_) (fun cdv A outer s H vs Q E hr h => ?_)
  · obtain ⟨p, A, xs, ys, n, rfl, _⟩ := h
    rfl
  · obtain ⟨p, A, xs, ys, n, rfl, ⟨dx, f1, b1, rfl, h1, h2, h3, h4⟩, hlen, k⟩ := h
    refine ⟨_, pss_one (ps_ret (pe_op op_cat (pe_revL (pe_fld (pv 0) rfl)) (pe_fld (pv 0) rfl))), ?_⟩
    refine ⟨_, rfl, p, C, dx, _, _, rfl, h1, T.cl, T.nF, hF_front _ _ _, f1, _, rfl, SqL.of h2, fun l nl => ?_⟩
    have s1 := Same.new (o := .lst (xs.map V.int).reverse) nl
    refine ⟨_, rfl, p, C, dx, _, _, rfl, s1 _ _ h1, T.cl, T.nB, hF_back _ _ _, l, b1, _, _, rfl, rfl, upd_same, s1 _ _ h3, ?_, fun q nq => ?_⟩
    · rw [List.length_reverse, List.length_map, List.length_map, sizeLine_eq]
      omega
    · refine k _ q (s1.trans (Same.new nq)) (s1.free nq) ?_
      rw [upd_same, List.map_append, List.map_reverse]
theorem scHTurn : FnScope ["self"] ["self"] (defScope sHTurn) := ⟨rfl, rfl, rfl, by decide +kernel, rfl, by decide +kernel, by decide +kernel⟩
end
end Hf
/-! ## Evenline: the mirror -/
namespace Hf
structure EV where
  front : List Int
  top : Int
  back : List Int
  waiting : List Int
  left : Int
  turned : List Int
  spare : List Int
  reading : Int
  good : Int
  st : Nat
  last : Int
def doneE (e : EV) : EV := { e with front := e.turned, top := (e.turned.length : Int) - 1, waiting := [], turned := [], spare := [], st := 0 }
def moveE (e : EV) : EV :=
  if e.st = 1 then
    if 0 ≤ e.reading then { e with spare := e.spare ++ [e.front.getD e.reading.toNat 0], reading := e.reading - 1, good := e.good + 1, left := e.left - 1, turned := e.turned ++ [e.waiting.getD (e.left - 1).toNat 0], last := e.last + 2 }
    else { e with left := e.left - 1, turned := e.turned ++ [e.waiting.getD (e.left - 1).toNat 0], last := e.last + 1, st := 2 }
  else if e.st = 2 then
    if 0 < e.good then { e with spare := e.spare.dropLast, turned := e.turned ++ [e.spare.getLastD 0], good := e.good - 1, last := e.last + 1 }
    else doneE e
  else e
def startE (e : EV) : EV :=
  if e.st = 0 ∧ e.top + 1 < (e.back.length : Int) then { e with waiting := e.back, back := [], left := (e.back.length : Int), good := 0, turned := [], spare := [], reading := e.top, st := 1 } else e
def checkE (e : EV) : EV :=
  let u := moveE (moveE (startE e))
  if u.st = 2 ∧ u.good = 0 then doneE u else u
def putE (e : EV) (z : Int) : EV := checkE { e with last := 0, back := e.back ++ [z] }
def takeE (e : EV) : EV := checkE { e with last := 0, top := e.top - 1, good := if e.st = 0 then e.good else e.good - 1 }
def newE : EV := ⟨[], -1, [], [], 0, [], [], -1, 0, 0, 0⟩
/-- all things, from the first on -/
def thingsE (e : EV) : List Int := (e.front.take (e.top + 1).toNat).reverse ++ (if e.st = 0 then [] else e.waiting) ++ e.back
/-- what a bit of turning about needs -/
structure MoveOk (e : EV) : Prop where
  st : e.st ≤ 2
  rd : e.st = 1 → 0 ≤ e.reading → e.reading.toNat < e.front.length
  lf : e.st = 1 → 1 ≤ e.left ∧ (e.left - 1).toNat < e.waiting.length
  sp : e.st = 2 → 0 < e.good → e.spare ≠ []
  szT : e.turned.length < 1000000
  szS : e.spare.length < 1000000
/-- nothing is being turned about: a things in front -/
structure Idl (e : EV) (a : Nat) : Prop where
  st : e.st = 0
  top : e.top = (a : Int) - 1
  len : a ≤ e.front.length
/-- rows are read: r of n are still to be read; a things in front -/
structure Rev (e : EV) (n r a : Nat) : Prop where
  st : e.st = 1
  top : e.top = (a : Int) - 1
  reading : e.reading = (r : Int) - 1
  left : e.left = (r : Int) + 1
  good : e.good = (a : Int) - (r : Int)
  ra : r ≤ a
  an : a ≤ n
  len : n ≤ e.front.length
  wl : e.waiting.length = n + 1
  spare : e.spare = ((e.front.take n).drop r).reverse
  turned : e.turned = (e.waiting.drop (r + 1)).reverse
/-- rows are laid together: j are laid; a things in front -/
structure App (e : EV) (n j a : Nat) : Prop where
  st : e.st = 2
  top : e.top = (a : Int) - 1
  good : e.good = (a : Int) - (j : Int)
  ja : j ≤ a
  an : a ≤ n
  len : n ≤ e.front.length
  wl : e.waiting.length = n + 1
  spare : e.spare = ((e.front.take n).drop j).reverse
  turned : e.turned = e.waiting.reverse ++ e.front.take j
theorem Rev.ok {e : EV} {n r a : Nat} (h : Rev e n r a) (hn : n < 100000) : MoveOk e := by
  refine ⟨by rw [h.st]; decide, fun _ h0 => ?_, fun _ => ⟨?_, ?_⟩, fun h2 => ?_, ?_, ?_⟩
  · have := h.reading; have := h.ra; have := h.an; have := h.len
    omega
  · have := h.left
    omega
  · have := h.left; have := h.wl; have := h.ra; have := h.an
    omega
  · rw [h.st] at h2
    cases h2
  · rw [h.turned, List.length_reverse, List.length_drop, h.wl]
    omega
  · rw [h.spare, List.length_reverse, List.length_drop, List.length_take]
    have := h.len
    omega
theorem App.ok {e : EV} {n j a : Nat} (h : App e n j a) (hn : n < 100000) : MoveOk e := by
  refine ⟨by rw [h.st]; decide, fun h1 => ?_, fun h1 => ?_, fun _ h0 => ?_, ?_, ?_⟩
  · rw [h.st] at h1
    cases h1
  · rw [h.st] at h1
    cases h1
  · intro hs
    have := congrArg List.length hs
    rw [h.spare, List.length_reverse, List.length_drop, List.length_take, List.length_nil] at this
    have := h.good; have := h.an; have := h.len
    omega
  · rw [h.turned, List.length_append, List.length_reverse, List.length_take, h.wl]
    have := h.ja; have := h.an
    omega
  · rw [h.spare, List.length_reverse, List.length_drop, List.length_take]
    have := h.len
    omega
theorem Idl.ok {e : EV} {a : Nat} (h : Idl e a) (hT : e.turned.length < 1000000) (hS : e.spare.length < 1000000) : MoveOk e :=
  ⟨by rw [h.st]; decide, fun h1 => (by rw [h.st] at h1; cases h1), fun h1 => (by rw [h.st] at h1; cases h1), fun h1 => (by rw [h.st] at h1; cases h1), hT, hS⟩
theorem drop_snoc {l : List Int} {r : Nat} (h : r < l.length) : (l.drop (r + 1)).reverse ++ [l.getD r 0] = (l.drop r).reverse := by
  have e : l.drop r = l.getD r 0 :: l.drop (r + 1) := by
    rw [List.drop_eq_getElem_cons h]
    simp [List.getD_eq_getElem?_getD, h]
  rw [e, List.reverse_cons]
theorem take_getD {l : List Int} {n r : Nat} (h : r < n) : (l.take n).getD r 0 = l.getD r 0 := by
  simp [List.getD_eq_getElem?_getD, List.getElem?_take, h]
/-- one is read of each row -/
theorem Rev.next {e : EV} {n r a : Nat} (h : Rev e n (r + 1) a) : Rev (moveE e) n r a ∧ thingsE (moveE e) = thingsE e ∧ (moveE e).back = e.back ∧ (moveE e).last = e.last + 2 := by
  have h0 : (0 : Int) ≤ e.reading := by
    have := h.reading
    omega
  have er : e.reading.toNat = r := by
    have := h.reading
    omega
  have el : (e.left - 1).toNat = r + 1 := by
    have := h.left
    omega
  have em : moveE e = { e with spare := e.spare ++ [e.front.getD r 0], reading := e.reading - 1, good := e.good + 1, left := e.left - 1, turned := e.turned ++ [e.waiting.getD (r + 1) 0], last := e.last + 2 } := by
    unfold moveE
    rw [if_pos h.st, if_pos h0, er, el]
  rw [em]
  have := h.ra; have := h.an; have hl := h.len
  refine ⟨⟨h.st, h.top, ?_, ?_, ?_, by omega, h.an, h.len, h.wl, ?_, ?_⟩, rfl, rfl, rfl⟩
  · have := h.reading
    show e.reading - 1 = (r : Int) - 1
    omega
  · have := h.left
    show e.left - 1 = (r : Int) + 1
    omega
  · have := h.good
    show e.good + 1 = (a : Int) - (r : Int)
    omega
  · show e.spare ++ [e.front.getD r 0] = ((e.front.take n).drop r).reverse
    rw [h.spare, ← drop_snoc (r := r) (by rw [List.length_take]; omega), take_getD (by omega)]
  · show e.turned ++ [e.waiting.getD (r + 1) 0] = (e.waiting.drop (r + 1)).reverse
    rw [h.turned, ← drop_snoc (r := r + 1) (by rw [h.wl]; omega)]
/-- the last one is read -/
theorem Rev.last' {e : EV} {n a : Nat} (h : Rev e n 0 a) : App (moveE e) n 0 a ∧ thingsE (moveE e) = thingsE e ∧ (moveE e).back = e.back ∧ (moveE e).last = e.last + 1 := by
  have h0 : ¬ (0 : Int) ≤ e.reading := by
    have := h.reading
    omega
  have el : (e.left - 1).toNat = 0 := by
    have := h.left
    omega
  have em : moveE e = { e with left := e.left - 1, turned := e.turned ++ [e.waiting.getD 0 0], last := e.last + 1, st := 2 } := by
    unfold moveE
    rw [if_pos h.st, if_neg h0, el]
  rw [em]
  refine ⟨⟨rfl, h.top, ?_, by omega, h.an, h.len, h.wl, ?_, ?_⟩, ?_, rfl, rfl⟩
  · have := h.good
    show e.good = (a : Int) - ((0 : Nat) : Int)
    omega
  · exact h.spare
  · show e.turned ++ [e.waiting.getD 0 0] = e.waiting.reverse ++ e.front.take 0
    rw [h.turned, drop_snoc (r := 0) (by rw [h.wl]; omega)]
    simp
  · unfold thingsE
    rw [if_neg (by show ¬ (2 : Nat) = 0; decide), if_neg (by rw [h.st]; decide)]
/-- one is laid -/
theorem App.next {e : EV} {n j a : Nat} (h : App e n j a) (hj : j < a) : App (moveE e) n (j + 1) a ∧ thingsE (moveE e) = thingsE e ∧ (moveE e).back = e.back ∧ (moveE e).last = e.last + 1 := by
  have h0 : (0 : Int) < e.good := by
    have := h.good
    omega
  have hs : e.st ≠ 1 := by
    rw [h.st]
    decide
  have em : moveE e = { e with spare := e.spare.dropLast, turned := e.turned ++ [e.spare.getLastD 0], good := e.good - 1, last := e.last + 1 } := by
    unfold moveE
    rw [if_neg hs, if_pos h.st, if_pos h0]
  rw [em]
  have := h.an; have := h.len
  have hlt : j < (e.front.take n).length := by
    rw [List.length_take]
    omega
  have e2 : e.spare = ((e.front.take n).drop (j + 1)).reverse ++ [(e.front.take n).getD j 0] := by rw [h.spare, drop_snoc hlt]
  refine ⟨⟨h.st, h.top, ?_, by omega, h.an, h.len, h.wl, ?_, ?_⟩, rfl, rfl, rfl⟩
  · have := h.good
    show e.good - 1 = (a : Int) - ((j + 1 : Nat) : Int)
    omega
  · show e.spare.dropLast = _
    rw [e2, List.dropLast_concat]
  · show e.turned ++ [e.spare.getLastD 0] = _
    have e3 : e.spare.getLastD 0 = e.front.getD j 0 := by
      rw [e2, take_getD (by omega)]
      simp
    rw [e3, h.turned, List.append_assoc]
    congr 1
    rw [List.take_add_one]
    have hlt2 : j < e.front.length := by omega
    simp [List.getD_eq_getElem?_getD, hlt2]
/-- all are laid: what was turned about is the row to take from -/
theorem App.done {e : EV} {n a : Nat} (h : App e n a a) : Idl (doneE e) (n + 1 + a) ∧ thingsE (doneE e) = thingsE e ∧ (doneE e).back = e.back ∧ (doneE e).last = e.last ∧ (doneE e).turned = [] ∧ (doneE e).spare = [] := by
  have := h.an; have := h.len
  have hl : e.turned.length = n + 1 + a := by
    rw [h.turned, List.length_append, List.length_reverse, List.length_take, h.wl]
    omega
  refine ⟨⟨rfl, ?_, ?_⟩, ?_, rfl, rfl, rfl, rfl⟩
  · show (e.turned.length : Int) - 1 = _
    rw [hl]
  · show _ ≤ e.turned.length
    omega
  · unfold thingsE
    rw [if_neg (show ¬ e.st = 0 by rw [h.st]; decide)]
    show (e.turned.take ((e.turned.length : Int) - 1 + 1).toNat).reverse ++ (if (0 : Nat) = 0 then [] else []) ++ e.back = _
    have e1 : ((e.turned.length : Int) - 1 + 1).toNat = e.turned.length := by omega
    have e2 : (e.top + 1).toNat = a := by
      have := h.top
      omega
    rw [if_pos rfl, e1, e2, List.take_length, h.turned]
    simp
theorem App.move_done {e : EV} {n a : Nat} (h : App e n a a) : moveE e = doneE e := by
  have h0 : ¬ (0 : Int) < e.good := by
    have := h.good
    omega
  have hs : e.st ≠ 1 := by
    rw [h.st]
    decide
  unfold moveE
  rw [if_neg hs, if_pos h.st, if_neg h0]
theorem Idl.move {e : EV} {a : Nat} (h : Idl e a) : moveE e = e := by
  unfold moveE
  rw [if_neg (by rw [h.st]; decide), if_neg (by rw [h.st]; decide)]
/-- how an evenline stands behind each deed -/
inductive Good (e : EV) : Prop
  | idl (a : Nat) (h : Idl e a) (hb : e.back.length ≤ a) (hT : e.turned = []) (hS : e.spare = [])
  | rev (n r a : Nat) (h : Rev e n r a) (hr : r + 2 ≤ a) (hb : 2 * e.back.length + n + r + 2 ≤ 2 * a)
  | app (n j a : Nat) (h : App e n j a) (hj : j < a) (hb : 2 * e.back.length + n + 1 ≤ 2 * a + j)
theorem good_new : Good newE ∧ thingsE newE = [] ∧ newE.last = 0 := ⟨.idl 0 ⟨rfl, rfl, Nat.le_refl _⟩ (Nat.le_refl _) rfl rfl, rfl, rfl⟩
/-- what a deed's turning about makes of it -/
structure Chk (e : EV) : Prop where
  ok1 : MoveOk (startE e)
  ok2 : MoveOk (moveE (startE e))
  good : Good (checkE e)
  same : thingsE (checkE e) = thingsE e
  lo : e.last ≤ (checkE e).last
  hi : (checkE e).last ≤ e.last + 4
theorem start_no {e : EV} (h : e.st ≠ 0) : startE e = e := by
  unfold startE
  rw [if_neg fun z => h z.1]
theorem check_stop {e : EV} (h : ¬ ((moveE (moveE (startE e))).st = 2 ∧ (moveE (moveE (startE e))).good = 0)) : checkE e = moveE (moveE (startE e)) := if_neg h
theorem check_done {e : EV} (h : (moveE (moveE (startE e))).st = 2 ∧ (moveE (moveE (startE e))).good = 0) : checkE e = doneE (moveE (moveE (startE e))) := if_pos h
/-- what follows when both bits are done and the row stands at App -/
theorem chk_app {e : EV} {n j a : Nat} (o1 : MoveOk (startE e)) (o2 : MoveOk (moveE (startE e))) (h : App (moveE (moveE (startE e))) n j a) (ht : thingsE (moveE (moveE (startE e))) = thingsE e) (hl : e.last ≤ (moveE (moveE (startE e))).last) (hh : (moveE (moveE (startE e))).last ≤ e.last + 4)
    (hb : 2 * (moveE (moveE (startE e))).back.length + n + 1 ≤ 2 * a + j) : Chk e := by
  by_cases hj : j = a
  · subst hj
    have hg := h.good
    have d := check_done (e := e) ⟨h.st, by omega⟩
    obtain ⟨d1, d2, d3, d4, d5, d6⟩ := h.done
    refine ⟨o1, o2, ?_, ?_, ?_, ?_⟩
    · rw [d]
      refine .idl _ d1 ?_ d5 d6
      rw [d3]
      have := h.an
      omega
    · rw [d, d2, ht]
    · rw [d, d4]
      exact hl
    · rw [d, d4]
      exact hh
  · have hg := h.good
    have hja := h.ja
    have d := check_stop (e := e) (fun z => by omega)
    refine ⟨o1, o2, ?_, ?_, ?_, ?_⟩
    · rw [d]
      exact .app n j a h (by omega) hb
    · rw [d, ht]
    · rw [d]
      exact hl
    · rw [d]
      exact hh
theorem chk_rev {e : EV} {n r a : Nat} (o1 : MoveOk (startE e)) (o2 : MoveOk (moveE (startE e))) (h : Rev (moveE (moveE (startE e))) n r a) (ht : thingsE (moveE (moveE (startE e))) = thingsE e) (hl : e.last ≤ (moveE (moveE (startE e))).last) (hh : (moveE (moveE (startE e))).last ≤ e.last + 4)
    (hr : r + 2 ≤ a) (hb : 2 * (moveE (moveE (startE e))).back.length + n + r + 2 ≤ 2 * a) : Chk e := by
  have hs := h.st
  have d := check_stop (e := e) (fun z => by omega)
  exact ⟨o1, o2, by rw [d]; exact .rev n r a h hr hb, by rw [d, ht], by rw [d]; exact hl, by rw [d]; exact hh⟩
theorem chk_idl {e : EV} {a : Nat} (o1 : MoveOk (startE e)) (o2 : MoveOk (moveE (startE e))) (h : Idl (moveE (moveE (startE e))) a) (ht : thingsE (moveE (moveE (startE e))) = thingsE e) (hl : e.last ≤ (moveE (moveE (startE e))).last) (hh : (moveE (moveE (startE e))).last ≤ e.last + 4)
    (hb : (moveE (moveE (startE e))).back.length ≤ a) (hT : (moveE (moveE (startE e))).turned = []) (hS : (moveE (moveE (startE e))).spare = []) : Chk e := by
  have hs := h.st
  have d := check_stop (e := e) (fun z => by omega)
  exact ⟨o1, o2, by rw [d]; exact .idl a h hb hT hS, by rw [d, ht], by rw [d]; exact hl, by rw [d]; exact hh⟩
/-- two bits from Rev: b2 is twice what was put behind so far -/
theorem chk_of_rev {e : EV} {n r a : Nat} (h : Rev (startE e) n r a) (hn : n < 100000) (ht : thingsE (startE e) = thingsE e) (hl : (startE e).last = e.last) (hr : r ≤ a) (hb : 2 * (startE e).back.length + n + r ≤ 2 * a) : Chk e := by
  have o1 := h.ok hn
  match r, h, hr, hb with
  | r + 2, h, hr, hb =>
    obtain ⟨a1, a2, a3, a4⟩ := h.next
    obtain ⟨b1, b2, b3, b4⟩ := a1.next
    refine chk_rev o1 (a1.ok hn) b1 (b2.trans (a2.trans ht)) (by omega) (by omega) (by omega) ?_
    rw [b3, a3]
    omega
  | 1, h, hr, hb =>
    obtain ⟨a1, a2, a3, a4⟩ := h.next
    obtain ⟨b1, b2, b3, b4⟩ := a1.last'
    refine chk_app o1 (a1.ok hn) b1 (b2.trans (a2.trans ht)) (by omega) (by omega) ?_
    rw [b3, a3]
    omega
  | 0, h, hr, hb =>
    obtain ⟨a1, a2, a3, a4⟩ := h.last'
    by_cases ha : a = 0
    · subst ha
      have em := a1.move_done
      obtain ⟨d1, d2, d3, d4, d5, d6⟩ := a1.done
      rw [← em] at d1 d2 d3 d4 d5 d6
      refine chk_idl o1 (a1.ok hn) d1 (d2.trans (a2.trans ht)) (by omega) (by omega) ?_ d5 d6
      rw [d3, a3]
      omega
    · obtain ⟨b1, b2, b3, b4⟩ := a1.next (by omega)
      refine chk_app o1 (a1.ok hn) b1 (b2.trans (a2.trans ht)) (by omega) (by omega) ?_
      rw [b3, a3]
      omega
/-- two bits from App -/
theorem chk_of_app {e : EV} {n j a : Nat} (h : App (startE e) n j a) (hn : n < 100000) (ht : thingsE (startE e) = thingsE e) (hl : (startE e).last = e.last) (hb : 2 * (startE e).back.length + n ≤ 2 * a + j + 1) : Chk e := by
  have o1 := h.ok hn
  have hja := h.ja
  have han := h.an
  by_cases h1 : j = a
  · subst h1
    have em := h.move_done
    obtain ⟨d1, d2, d3, d4, d5, d6⟩ := h.done
    rw [← em] at d1 d2 d3 d4 d5 d6
    have e2 := d1.move
    refine chk_idl (a := n + 1 + j) o1 (d1.ok (by rw [d5]; decide) (by rw [d6]; decide)) (by rw [e2]; exact d1) (by rw [e2]; exact d2.trans ht) (by rw [e2]; omega) (by rw [e2]; omega) ?_ (by rw [e2]; exact d5) (by rw [e2]; exact d6)
    rw [e2, d3]
    omega
  · obtain ⟨a1, a2, a3, a4⟩ := h.next (by omega)
    by_cases h2 : j + 1 = a
    · subst h2
      have em := a1.move_done
      obtain ⟨d1, d2, d3, d4, d5, d6⟩ := a1.done
      rw [← em] at d1 d2 d3 d4 d5 d6
      refine chk_idl o1 (a1.ok hn) d1 (d2.trans (a2.trans ht)) (by omega) (by omega) ?_ d5 d6
      rw [d3, a3]
      omega
    · obtain ⟨b1, b2, b3, b4⟩ := a1.next (by omega)
      refine chk_app o1 (a1.ok hn) b1 (b2.trans (a2.trans ht)) (by omega) (by omega) ?_
      rw [b3, a3]
      omega
/-- two bits from Idl: turning about may begin -/
theorem chk_of_idl {e : EV} {a : Nat} (h : Idl e a) (ha : a < 100000) (hb : e.back.length ≤ a + 1) (hT : e.turned = []) (hS : e.spare = []) : Chk e := by
  have htop := h.top
  by_cases hgo : e.back.length = a + 1
  · have es : startE e = { e with waiting := e.back, back := [], left := (e.back.length : Int), good := 0, turned := [], spare := [], reading := e.top, st := 1 } := if_pos ⟨h.st, by omega⟩
    have hR : Rev (startE e) a a a := by
      rw [es]
      refine ⟨rfl, h.top, h.top, ?_, ?_, Nat.le_refl _, Nat.le_refl _, h.len, hgo, ?_, ?_⟩
      · show (e.back.length : Int) = _
        omega
      · show (0 : Int) = _
        omega
      · show [] = _
        rw [List.drop_of_length_le (by rw [List.length_take]; omega)]
        rfl
      · show [] = (e.back.drop (a + 1)).reverse
        rw [List.drop_of_length_le (by omega)]
        rfl
    refine chk_of_rev hR ha ?_ (by rw [es]) (Nat.le_refl _) ?_
    · rw [es]
      unfold thingsE
      rw [if_pos h.st, if_neg (by show ¬ (1 : Nat) = 0; decide)]
      show (e.front.take (e.top + 1).toNat).reverse ++ e.back ++ [] = (e.front.take (e.top + 1).toNat).reverse ++ [] ++ e.back
      simp
    · rw [es]
      show 2 * 0 + a + a ≤ 2 * a
      omega
  · have es : startE e = e := if_neg (fun z => by omega)
    have em : moveE (startE e) = e := by rw [es]; exact h.move
    have em2 : moveE (moveE (startE e)) = e := by rw [em]; exact h.move
    have o := h.ok (by rw [hT]; decide) (by rw [hS]; decide)
    refine chk_idl (a := a) (by rw [es]; exact o) (by rw [em]; exact o) (by rw [em2]; exact h) (by rw [em2]) (by rw [em2]; omega) (by rw [em2]; omega) ?_ (by rw [em2]; exact hT) (by rw [em2]; exact hS)
    rw [em2]
    omega
theorem Good.len {e : EV} (h : Good e) : (thingsE e).length = (e.top + 1).toNat + (if e.st = 0 then 0 else e.waiting.length) + e.back.length ∧ (e.top + 1).toNat ≤ e.front.length ∧ -1 ≤ e.top := by
  have key : (e.top + 1).toNat ≤ e.front.length ∧ -1 ≤ e.top := by
    cases h with
    | idl a h _ _ _ => have := h.top; have := h.len; omega
    | rev n r a h _ _ => have := h.top; have := h.len; have := h.an; omega
    | app n j a h _ _ => have := h.top; have := h.len; have := h.an; omega
  refine ⟨?_, key⟩
  unfold thingsE
  rw [List.length_append, List.length_append, List.length_reverse, List.length_take]
  split <;> simp <;> omega
theorem Good.put {e : EV} (h : Good e) (z : Int) (hl : (thingsE e).length < 90000) : Chk { e with last := 0, back := e.back ++ [z] } := by
  have hlen := h.len.1
  cases h with
  | idl a h hb hT hS =>
    have := h.top
    rw [if_pos h.st] at hlen
    exact chk_of_idl ⟨h.st, h.top, h.len⟩ (by omega) (by simp; omega) hT hS
  | rev n r a h hr hb =>
    have es : startE { e with last := 0, back := e.back ++ [z] } = { e with last := 0, back := e.back ++ [z] } := start_no (by show ¬ e.st = 0; rw [h.st]; decide)
    rw [if_neg (by rw [h.st]; decide), h.wl] at hlen
    refine chk_of_rev (n := n) (r := r) (a := a) (by rw [es]; exact ⟨h.st, h.top, h.reading, h.left, h.good, h.ra, h.an, h.len, h.wl, h.spare, h.turned⟩) (by omega) (by rw [es]) (by rw [es]) h.ra ?_
    rw [es]
    show 2 * (e.back ++ [z]).length + n + r ≤ 2 * a
    simp
    omega
  | app n j a h hj hb =>
    have es : startE { e with last := 0, back := e.back ++ [z] } = { e with last := 0, back := e.back ++ [z] } := start_no (by show ¬ e.st = 0; rw [h.st]; decide)
    rw [if_neg (by rw [h.st]; decide), h.wl] at hlen
    refine chk_of_app (n := n) (j := j) (a := a) (by rw [es]; exact ⟨h.st, h.top, h.good, h.ja, h.an, h.len, h.wl, h.spare, h.turned⟩) (by omega) (by rw [es]) (by rw [es]) ?_
    rw [es]
    show 2 * (e.back ++ [z]).length + n ≤ 2 * a + j + 1
    simp
    omega
theorem put_thingsE (e : EV) (z : Int) : thingsE { e with last := 0, back := e.back ++ [z] } = thingsE e ++ [z] := by
  unfold thingsE
  simp
/-- where nothing is in front nothing is there -/
theorem Good.front {e : EV} (h : Good e) : e.top < 0 ↔ thingsE e = [] := by
  cases h with
  | idl a h hb hT hS =>
    have ht := h.top
    have hf := h.len
    constructor
    · intro hz
      have ha : a = 0 := by omega
      subst ha
      have hb0 : e.back = [] := List.length_eq_zero_iff.mp (by omega)
      unfold thingsE
      rw [if_pos h.st, hb0, ht]
      simp
    · intro hz
      have := congrArg List.length hz
      unfold thingsE at this
      rw [if_pos h.st] at this
      simp at this
      have hm : min (e.top + 1).toNat e.front.length = 0 := by
        rcases this with ⟨q, _⟩
        rcases q with q | q
        · omega
        · rw [q]
          simp
      omega
  | rev n r a h hr hb =>
    have ht := h.top
    constructor
    · intro hz
      omega
    · intro hz
      unfold thingsE at hz
      rw [if_neg (by rw [h.st]; decide)] at hz
      have hw := h.wl
      rw [(List.append_eq_nil_iff.mp (List.append_eq_nil_iff.mp hz).1).2] at hw
      simp at hw
  | app n j a h hj hb =>
    have ht := h.top
    constructor
    · intro hz
      omega
    · intro hz
      unfold thingsE at hz
      rw [if_neg (by rw [h.st]; decide)] at hz
      have hw := h.wl
      rw [(List.append_eq_nil_iff.mp (List.append_eq_nil_iff.mp hz).1).2] at hw
      simp at hw
theorem take_revE {l : List Int} {a : Nat} (h : a < l.length) : (l.take (a + 1)).reverse = l.getD a 0 :: (l.take a).reverse := by
  rw [List.take_add_one]
  simp [List.getD_eq_getElem?_getD, h]
theorem take_thingsE {e : EV} (h : Good e) (h0 : 0 ≤ e.top) (g : Int) : thingsE e = e.front.getD e.top.toNat 0 :: thingsE { e with last := 0, top := e.top - 1, good := g } := by
  have hl := h.len.2.1
  unfold thingsE
  show (e.front.take (e.top + 1).toNat).reverse ++ _ ++ _ = e.front.getD e.top.toNat 0 :: ((e.front.take (e.top - 1 + 1).toNat).reverse ++ _ ++ _)
  have e1 : (e.top + 1).toNat = e.top.toNat + 1 := by omega
  have e2 : (e.top - 1 + 1).toNat = e.top.toNat := by omega
  rw [e1, e2, take_revE (by omega)]
  rfl
theorem Good.take {e : EV} (h : Good e) (h0 : 0 ≤ e.top) (hl : (thingsE e).length < 90000) : Chk { e with last := 0, top := e.top - 1, good := if e.st = 0 then e.good else e.good - 1 } := by
  have hlen := h.len.1
  cases h with
  | idl a h hb hT hS =>
    have ht := h.top
    rw [if_pos h.st] at hlen
    have hf := h.len
    refine chk_of_idl (a := a - 1) ⟨h.st, ?_, ?_⟩ (by omega) ?_ hT hS
    · show e.top - 1 = _
      omega
    · show a - 1 ≤ e.front.length
      omega
    · show e.back.length ≤ _
      omega
  | rev n r a h hr hb =>
    have ht := h.top
    have es : startE { e with last := 0, top := e.top - 1, good := if e.st = 0 then e.good else e.good - 1 } = { e with last := 0, top := e.top - 1, good := if e.st = 0 then e.good else e.good - 1 } := start_no (by show ¬ e.st = 0; rw [h.st]; decide)
    rw [if_neg (by rw [h.st]; decide), h.wl] at hlen
    have han := h.an
    refine chk_of_rev (n := n) (r := r) (a := a - 1) (by
        rw [es]
        refine ⟨h.st, ?_, h.reading, h.left, ?_, by omega, by omega, h.len, h.wl, h.spare, h.turned⟩
        · show e.top - 1 = _
          omega
        · show (if e.st = 0 then e.good else e.good - 1) = _
          rw [if_neg (by rw [h.st]; decide), h.good]
          omega) (by omega) (by rw [es]) (by rw [es]) (by omega) ?_
    rw [es]
    show 2 * e.back.length + n + r ≤ 2 * (a - 1)
    omega
  | app n j a h hj hb =>
    have ht := h.top
    have es : startE { e with last := 0, top := e.top - 1, good := if e.st = 0 then e.good else e.good - 1 } = { e with last := 0, top := e.top - 1, good := if e.st = 0 then e.good else e.good - 1 } := start_no (by show ¬ e.st = 0; rw [h.st]; decide)
    rw [if_neg (by rw [h.st]; decide), h.wl] at hlen
    have han := h.an
    refine chk_of_app (n := n) (j := j) (a := a - 1) (by
        rw [es]
        refine ⟨h.st, ?_, ?_, by omega, by omega, h.len, h.wl, h.spare, h.turned⟩
        · show e.top - 1 = _
          omega
        · show (if e.st = 0 then e.good else e.good - 1) = _
          rw [if_neg (by rw [h.st]; decide), h.good]
          omega) (by omega) (by rw [es]) (by rw [es]) ?_
    rw [es]
    show 2 * e.back.length + n ≤ 2 * (a - 1) + j + 1
    omega
end Hf
/-! ## Evenline: the heap -/
namespace Hf
open PySem PySem.Spec PyProof.Rows L2
inductive LF where
  | front | back | waiting | turned | spare
deriving DecidableEq
inductive NK where
  | top | left | reading | good | last
deriving DecidableEq
abbrev LF.name : LF → Str
  | .front => "front" | .back => "back" | .waiting => "waiting" | .turned => "turned" | .spare => "spare"
abbrev NK.name : NK → Str
  | .top => "top" | .left => "left" | .reading => "reading" | .good => "good" | .last => "last"
abbrev EV.row (e : EV) : LF → List Int
  | .front => e.front | .back => e.back | .waiting => e.waiting | .turned => e.turned | .spare => e.spare
abbrev EV.setR (e : EV) : LF → List Int → EV
  | .front, l => { e with front := l } | .back, l => { e with back := l } | .waiting, l => { e with waiting := l } | .turned, l => { e with turned := l } | .spare, l => { e with spare := l }
abbrev EV.num (e : EV) : NK → Int
  | .top => e.top | .left => e.left | .reading => e.reading | .good => e.good | .last => e.last
abbrev EV.setN (e : EV) : NK → Int → EV
  | .top, v => { e with top := v } | .left, v => { e with left := v } | .reading, v => { e with reading := v } | .good, v => { e with good := v } | .last, v => { e with last := v }
def stS (n : Nat) : Str := if n = 0 then "idle" else if n = 1 then "reversing" else "appending"
def eF (L : LF → Addr) (e : EV) : List (Str × V) := [("front", .ref (L .front)), ("top", .int e.top), ("back", .ref (L .back)), ("waiting", .ref (L .waiting)), ("left", .int e.left), ("turned", .ref (L .turned)),
  ("spare", .ref (L .spare)), ("reading", .int e.reading), ("good", .int e.good), ("state", .str (stS e.st)), ("last", .int e.last)]
def setL (L : LF → Addr) (x : LF) (l : Addr) : LF → Addr := fun y => if y = x then l else L y
theorem eF_row (L : LF → Addr) (e : EV) (x : LF) : (eF L e).lookup x.name = some (.ref (L x)) := by
  cases x <;> (unfold eF; repeat (first | exact lk_here | refine (lk_past (by decide +kernel)).trans ?_))
theorem eF_num (L : LF → Addr) (e : EV) (x : NK) : (eF L e).lookup x.name = some (.int (e.num x)) := by
  cases x <;> (unfold eF; repeat (first | exact lk_here | refine (lk_past (by decide +kernel)).trans ?_))
theorem eF_st (L : LF → Addr) (e : EV) : (eF L e).lookup ("state" : Str) = some (.str (stS e.st)) := by
  unfold eF; repeat (first | exact lk_here | refine (lk_past (by decide +kernel)).trans ?_)
theorem eF_no (L : LF → Addr) (e : EV) {m : Str} (h : (["front", "top", "back", "waiting", "left", "turned", "spare", "reading", "good", "state", "last"] : List Str).all (fun f => !(m == f)) = true) : (eF L e).lookup m = none := by
  simp only [List.all_cons, List.all_nil, Bool.and_eq_true, Bool.not_eq_true'] at h
  obtain ⟨h1, h2, h3, h4, h5, h6, h7, h8, h9, h10, h11, _⟩ := h
  exact (lk_past h1).trans ((lk_past h2).trans ((lk_past h3).trans ((lk_past h4).trans ((lk_past h5).trans ((lk_past h6).trans ((lk_past h7).trans ((lk_past h8).trans ((lk_past h9).trans ((lk_past h10).trans ((lk_past h11).trans rfl))))))))))
theorem eF_putN (L : LF → Addr) (e : EV) (x : NK) (v : Int) : putF x.name (.int v) (eF L e) = eF L (e.setN x v) := by
  cases x <;> (unfold eF; repeat (first | exact put_here | refine (put_past (by decide +kernel)).trans (congrArg _ ?_)))
theorem eF_putS (L : LF → Addr) (e : EV) (n : Nat) : putF "state" (.str (stS n)) (eF L e) = eF L { e with st := n } := by
  unfold eF; repeat (first | exact put_here | refine (put_past (by decide +kernel)).trans (congrArg _ ?_))
theorem eF_putL (L : LF → Addr) (e : EV) (x : LF) (l : Addr) : putF x.name (.ref l) (eF L e) = eF (setL L x l) e := by
  cases x <;> (unfold eF setL; repeat (first | exact put_here | refine (put_past (by decide +kernel)).trans (congrArg _ ?_)))
theorem eF_setR (L : LF → Addr) (e : EV) (x : LF) (l : List Int) : eF L (e.setR x l) = eF L e := by cases x <;> rfl
theorem row_setN (e : EV) (x : NK) (v : Int) (y : LF) : (e.setN x v).row y = e.row y := by cases x <;> cases y <;> rfl
theorem row_setR (e : EV) (x : LF) (l : List Int) (y : LF) : (e.setR x l).row y = if y = x then l else e.row y := by cases x <;> cases y <;> rfl
/-- an Evenline stands at p, its rows at L -/
structure Ev0 (C : Addr) (H : Hp) (p : Addr) (L : LF → Addr) (e : EV) : Prop where
  ins : ∃ dx, H p = some (.ins C dx (eF L e))
  row : ∀ x, H (L x) = some (.lst ((e.row x).map V.int))
/-- and no two of its rows are one -/
def EvAt (C : Addr) (H : Hp) (p : Addr) (L : LF → Addr) (e : EV) : Prop := Ev0 C H p L e ∧ ∀ x y, L x = L y → x = y
def own (p : Addr) (L : LF → Addr) : List Addr := [p, L .front, L .back, L .waiting, L .turned, L .spare]
theorem mem_own {p q : Addr} {L : LF → Addr} : q ∈ own p L ↔ q = p ∨ ∃ x, q = L x := by
  constructor
  · intro h
    simp only [own, List.mem_cons, List.not_mem_nil, or_false] at h
    rcases h with h | h | h | h | h | h
    · exact .inl h
    · exact .inr ⟨_, h⟩
    · exact .inr ⟨_, h⟩
    · exact .inr ⟨_, h⟩
    · exact .inr ⟨_, h⟩
    · exact .inr ⟨_, h⟩
  · intro h
    rcases h with h | ⟨x, h⟩
    · subst h
      simp [own]
    · subst h
      cases x <;> simp [own]
section
variable {C : Addr} {H : Hp} {p : Addr} {L : LF → Addr} {e : EV}
theorem Ev0.ne (h : Ev0 C H p L e) (x : LF) : p ≠ L x := by
  obtain ⟨dx, hp⟩ := h.ins
  exact ne_of hp (h.row x) (by intro q; cases q)
theorem Ev0.same {H' : Hp} (h : Ev0 C H p L e) (s : Same H H') : Ev0 C H' p L e := by
  obtain ⟨dx, hp⟩ := h.ins
  exact ⟨⟨dx, s _ _ hp⟩, fun x => s _ _ (h.row x)⟩
theorem EvAt.same {H' : Hp} (h : EvAt C H p L e) (s : Same H H') : EvAt C H' p L e := ⟨h.1.same s, h.2⟩
theorem EvAt.keep {H' : Hp} (h : EvAt C H p L e) (s : ∀ q o, q ∈ own p L → H q = some o → H' q = some o) : EvAt C H' p L e := by
  obtain ⟨⟨⟨dx, hp⟩, hr⟩, hi⟩ := h
  exact ⟨⟨⟨dx, s _ _ (mem_own.mpr (.inl rfl)) hp⟩, fun x => s _ _ (mem_own.mpr (.inr ⟨x, rfl⟩)) (hr x)⟩, hi⟩
theorem Ev0.trk (h : Ev0 C H p L e) : ∀ q, q ∈ own p L → ∃ o, H q = some o := fun q hq => by
  rcases mem_own.mp hq with rfl | ⟨x, rfl⟩
  · obtain ⟨dx, hp⟩ := h.ins
    exact ⟨_, hp⟩
  · exact ⟨_, h.row x⟩
theorem Ev0.setN {dx : Addr} (h : Ev0 C H p L e) (x : NK) (v : Int) : Ev0 C (upd H p (.ins C dx (putF x.name (.int v) (eF L e)))) p L (e.setN x v) :=
  ⟨⟨dx, by rw [upd_same, eF_putN]⟩, fun y => by rw [upd_ne (h.ne y).symm, row_setN]; exact h.row y⟩
theorem Ev0.setS {dx : Addr} (h : Ev0 C H p L e) (n : Nat) : Ev0 C (upd H p (.ins C dx (putF "state" (.str (stS n)) (eF L e)))) p L { e with st := n } :=
  ⟨⟨dx, by rw [upd_same, eF_putS]⟩, fun y => by rw [upd_ne (h.ne y).symm]; exact h.row y⟩
theorem Ev0.setL {dx l : Addr} {xs : List Int} (h : Ev0 C H p L e) (hp : H p = some (.ins C dx (eF L e))) (x : LF) (hl : H l = some (.lst (xs.map V.int))) : Ev0 C (upd H p (.ins C dx (putF x.name (.ref l) (eF L e)))) p (setL L x l) (e.setR x xs) :=
  ⟨⟨dx, by rw [upd_same, eF_putL, eF_setR]⟩, fun y => by
    rw [row_setR]
    unfold Hf.setL
    by_cases c : y = x
    · rw [if_pos c, if_pos c, upd_ne (ne_of hl hp (by intro q; cases q))]
      exact hl
    · rw [if_neg c, if_neg c, upd_ne (h.ne y).symm]
      exact h.row y⟩
theorem EvAt.setR (h : EvAt C H p L e) (x : LF) (xs : List Int) : EvAt C (upd H (L x) (.lst (xs.map V.int))) p L (e.setR x xs) := by
  obtain ⟨h, hi⟩ := h
  obtain ⟨dx, hp⟩ := h.ins
  refine ⟨⟨⟨dx, by rw [upd_ne (h.ne x), eF_setR]; exact hp⟩, fun y => ?_⟩, hi⟩
  rw [row_setR]
  by_cases c : y = x
  · rw [if_pos c, c]
    exact upd_same
  · rw [if_neg c, upd_ne (fun z => c (hi y x z))]
    exact h.row y
theorem step_p {o : HO} : Step H (own p L) (upd H p o) (own p L) := fun q u hq hn => ⟨by rw [upd_ne (fun z => hn (mem_own.mpr (.inl z)))]; exact hq, hn⟩
theorem step_row {o : HO} (x : LF) : Step H (own p L) (upd H (L x) o) (own p L) := fun q u hq hn => ⟨by rw [upd_ne (fun z => hn (mem_own.mpr (.inr ⟨x, z⟩)))]; exact hq, hn⟩
end
/-- an Evenline with the things ts; l: what the last deed moved; A: the addresses that are its own -/
def EvenAt (C : Addr) (H : Hp) (p : Addr) (A : List Addr) (ts : List Int) (l : Int) : Prop := ∃ L e, A = own p L ∧ EvAt C H p L e ∧ Good e ∧ thingsE e = ts ∧ e.last = l
section
variable {C : Addr} {H H' : Hp} {p : Addr} {A : List Addr} {ts : List Int} {l : Int}
theorem EvenAt.same (h : EvenAt C H p A ts l) (s : Same H H') : EvenAt C H' p A ts l := by
  obtain ⟨L, e, h1, h2, h3⟩ := h
  exact ⟨L, e, h1, h2.same s, h3⟩
theorem EvenAt.keep (h : EvenAt C H p A ts l) (s : ∀ q o, q ∈ A → H q = some o → H' q = some o) : EvenAt C H' p A ts l := by
  obtain ⟨L, e, rfl, h2, h3⟩ := h
  exact ⟨L, e, rfl, h2.keep s, h3⟩
theorem EvenAt.trk (h : EvenAt C H p A ts l) : ∀ q, q ∈ A → ∃ o, H q = some o := by
  obtain ⟨L, e, rfl, h2, h3⟩ := h
  exact h2.1.trk
theorem EvenAt.fresh (h : EvenAt C H p A ts l) {m : Addr} (hm : H m = none) : m ∉ A := fun q => by
  obtain ⟨o, e⟩ := h.trk m q
  rw [hm] at e
  cases e
end
/-! ### the promises -/
def spDone (C : Addr) : Sp := fun vs H Q _ => ∃ (p : Addr) (L : LF → Addr) (e : EV), vs = [.ref p] ∧ EvAt C H p L e ∧ ∀ (H' : Hp) (L' : LF → Addr), EvAt C H' p L' (doneE e) → Step H (own p L) H' (own p L') → Q .non H'
def spMove (C : Addr) : Sp := fun vs H Q _ => ∃ (p : Addr) (L : LF → Addr) (e : EV), vs = [.ref p] ∧ EvAt C H p L e ∧ MoveOk e ∧ ∀ (H' : Hp) (L' : LF → Addr), EvAt C H' p L' (moveE e) → Step H (own p L) H' (own p L') → Q .non H'
def spCheck (C : Addr) : Sp := fun vs H Q _ => ∃ (p : Addr) (L : LF → Addr) (e : EV), vs = [.ref p] ∧ EvAt C H p L e ∧ Chk e ∧ e.st ≤ 2 ∧ ∀ (H' : Hp) (L' : LF → Addr), EvAt C H' p L' (checkE e) → Step H (own p L) H' (own p L') → Q .non H'
def spInitE (C : Addr) : Sp := fun vs H Q _ => ∃ (p dx : Addr), vs = [.ref p] ∧ H p = some (.ins C dx []) ∧
  ∀ (H' : Hp) (A : List Addr), EvenAt C H' p A [] 0 → (∀ b o, H b = some o → b ≠ p → H' b = some o ∧ b ∉ A) → Q .non H'
def spPutE (K : PySem.W.Frag) (C CT : Addr) : Sp := fun vs H Q E => ∃ (p : Addr) (A : List Addr) (ts : List Int) (l : Int), EvenAt C H p A ts l ∧
  ((∃ z : Int, vs = [.ref p, .int z] ∧ ts.length < 90000 ∧ ∀ (H' : Hp) (A' : List Addr) (l' : Int), EvenAt C H' p A' (ts ++ [z]) l' → 0 ≤ l' → l' ≤ 4 → Step H A H' A' → Q .non H') ∨
   (∃ t, vs = [.ref p, t] ∧ NoThing K H t ∧ E (.ref CT) none H))
def spTakeE (C CM : Addr) : Sp := fun vs H Q E => ∃ (p : Addr) (A : List Addr) (ts : List Int) (l : Int), vs = [.ref p] ∧ EvenAt C H p A ts l ∧ ts.length < 90000 ∧
  ((ts = [] ∧ ∀ H', EvenAt C H' p A [] 0 → Step H A H' A → E (.ref CM) none H') ∨
   (∃ z r, ts = z :: r ∧ ∀ (H' : Hp) (A' : List Addr) (l' : Int), EvenAt C H' p A' r l' → 0 ≤ l' → l' ≤ 4 → Step H A H' A' → Q (.int z) H'))
def spFirstE (C CM : Addr) : Sp := fun vs H Q E => ∃ (p : Addr) (A : List Addr) (ts : List Int) (l : Int), vs = [.ref p] ∧ EvenAt C H p A ts l ∧
  ((ts = [] ∧ E (.ref CM) none H) ∨ (∃ z r, ts = z :: r ∧ Q (.int z) H))
def spThingsE (C : Addr) : Sp := fun vs H Q _ => ∃ (p : Addr) (A : List Addr) (ts : List Int) (l : Int), vs = [.ref p] ∧ EvenAt C H p A ts l ∧ ts.length < 90000 ∧
  ∀ (H' : Hp) (m : Addr), Same H H' → H m = none → H' m = some (.lst (ts.map V.int)) → Q (.ref m) H'
def spMovedE (C : Addr) : Sp := fun vs H Q _ => ∃ (p : Addr) (A : List Addr) (ts : List Int) (l : Int), vs = [.ref p] ∧ EvenAt C H p A ts l ∧ Q (.int l) H
structure VTxt (K : PySem.W.Frag) (mg : Str → Option Value) (C CT CM : Addr) : Prop where
  cl : Cls K C
  nR : ∀ x : LF, NoAttr K C x.name
  nN : ∀ x : NK, NoAttr K C x.name
  nS : NoAttr K C "state"
  gC : mg "Evenline" = some (.ref C)
  T : ETxt K mg "BadThing" CT
  M : ETxt K mg "Empty" CM
  B : BTxt mg
/-! ### readings -/
theorem last_mapE {l : List Int} (h : l ≠ []) : (l.map V.int)[(l.map V.int).length - 1]? = some (V.int (l.getLastD 0)) := by
  have e2 : l.getLastD 0 = l.getLast h := by
    cases l with
    | nil => exact absurd rfl h
    | cons a r => rfl
  rw [List.getElem?_map, List.length_map, ← List.getLast?_eq_getElem?, List.getLast?_eq_some_getLast h, e2]
  rfl
section
variable {K : PySem.W.Frag} {mg : Str → Option Value} {C CT CM : Addr} {H : Hp} {p : Addr} {L : LF → Addr} {e : EV} {σ : L2.St} {Q : VK} {D : Ends}
theorem rd_num {j : Nat} (T : VTxt K mg C CT CM) (x : NK) (h0 : σ[j]? = some (some (.ref p))) (h : Ev0 C H p L e) (k : Q (.int (e.num x)) H) : tFld K (tVar j) x.name σ H Q := by
  obtain ⟨dx, hp⟩ := h.ins
  exact ⟨_, h0, p, C, dx, _, _, rfl, hp, T.cl, T.nN x, eF_num L e x, k⟩
theorem rd_row {j : Nat} (T : VTxt K mg C CT CM) (x : LF) (h0 : σ[j]? = some (some (.ref p))) (h : Ev0 C H p L e) (k : Q (.ref (L x)) H) : tFld K (tVar j) x.name σ H Q := by
  obtain ⟨dx, hp⟩ := h.ins
  exact ⟨_, h0, p, C, dx, _, _, rfl, hp, T.cl, T.nR x, eF_row L e x, k⟩
theorem rd_st {j : Nat} (T : VTxt K mg C CT CM) (h0 : σ[j]? = some (some (.ref p))) (h : Ev0 C H p L e) (k : Q (.str (stS e.st)) H) : tFld K (tVar j) "state" σ H Q := by
  obtain ⟨dx, hp⟩ := h.ins
  exact ⟨_, h0, p, C, dx, _, _, rfl, hp, T.cl, T.nS, eF_st L e, k⟩
/-- self.x = a number -/
theorem rd_setN {te : TE} (T : VTxt K mg C CT CM) (x : NK) (v : Int) (h0 : σ[0]? = some (some (.ref p))) (h : EvAt C H p L e) (ht : ∀ R : V → Hp → Prop, R (.int v) H → te σ H R)
    (k : ∀ H1, EvAt C H1 p L (e.setN x v) → Step H (own p L) H1 (own p L) → D.nx σ H1) : sFld K (tVar 0) te x.name D σ H := by
  obtain ⟨dx, hp⟩ := h.1.ins
  exact ht _ ⟨_, h0, p, C, dx, _, rfl, hp, T.cl, T.nN x, (by show 11 < 1000; decide), k _ ⟨h.1.setN x v, h.2⟩ step_p⟩
theorem rd_setS (T : VTxt K mg C CT CM) (n : Nat) (h0 : σ[0]? = some (some (.ref p))) (h : EvAt C H p L e)
    (k : ∀ H1, EvAt C H1 p L { e with st := n } → Step H (own p L) H1 (own p L) → D.nx σ H1) : sFld K (tVar 0) (tC (.str (stS n))) "state" D σ H := by
  obtain ⟨dx, hp⟩ := h.1.ins
  exact ⟨_, h0, p, C, dx, _, rfl, hp, T.cl, T.nS, (by show 11 < 1000; decide), k _ ⟨h.1.setS n, h.2⟩ step_p⟩
/-- self.x as one of several targets: a number -/
theorem rd_gN {R : L2.St → Hp → Prop} (T : VTxt K mg C CT CM) (x : NK) (v : Int) (h0 : σ[0]? = some (some (.ref p))) (h : Ev0 C H p L e)
    (k : ∀ H1, Ev0 C H1 p L (e.setN x v) → (∀ q o, H q = some o → q ≠ p → H1 q = some o) → R σ H1) : gFld K (tVar 0) x.name (.int v) σ H R := by
  obtain ⟨dx, hp⟩ := h.ins
  exact ⟨_, h0, p, C, dx, _, rfl, hp, T.cl, T.nN x, (by show 11 < 1000; decide), k _ (h.setN x v) fun q o e n => by rw [upd_ne n]; exact e⟩
/-- .. a row -/
theorem rd_gL {R : L2.St → Hp → Prop} {l : Addr} {xs : List Int} (T : VTxt K mg C CT CM) (x : LF) (h0 : σ[0]? = some (some (.ref p))) (h : Ev0 C H p L e) (hl : H l = some (.lst (xs.map V.int)))
    (k : ∀ H1, Ev0 C H1 p (setL L x l) (e.setR x xs) → (∀ q o, H q = some o → q ≠ p → H1 q = some o) → R σ H1) : gFld K (tVar 0) x.name (.ref l) σ H R := by
  obtain ⟨dx, hp⟩ := h.ins
  exact ⟨_, h0, p, C, dx, _, rfl, hp, T.cl, T.nR x, (by show 11 < 1000; decide), k _ (h.setL hp x hl) fun q o e n => by rw [upd_ne n]; exact e⟩
/-- self.x.append(..) -/
theorem rd_app {te : TE} {e1 : EV} {v : Int} (T : VTxt K mg C CT CM) (x : LF) (h0 : σ[0]? = some (some (.ref p))) (h : EvAt C H p L e)
    (ht : ∀ R : V → Hp → Prop, (∀ H1, EvAt C H1 p L e1 → Step H (own p L) H1 (own p L) → R (.int v) H1) → te σ H R) (hl : (e1.row x).length < 1000000)
    (k : ∀ H2, EvAt C H2 p L (e1.setR x (e1.row x ++ [v])) → Step H (own p L) H2 (own p L) → D.nx σ H2) : tDrop (tBM K "list" rAppend (tFld K (tVar 0) x.name) (tCons te tNil)) D σ H := by
  show tFld K (tVar 0) x.name σ H (fun y H1 => tyV K "list" y H1 ∧ tCons te tNil σ H1 fun xs H2 => rAppend y xs H2 fun _ H3 => D.nx σ H3)
  refine rd_row T x h0 h.1 ?_
  refine ⟨.inl ⟨rfl, _, SqL.of (h.1.row x)⟩, ht _ fun H1 h1 s1 => ?_⟩
  refine ⟨L x, _, _, rfl, rfl, h1.1.row x, ?_, ?_⟩
  · rw [List.length_map, sizeLine_eq]
    omega
  · have e2 : (e1.row x).map V.int ++ [V.int v] = (e1.row x ++ [v]).map V.int := by simp
    rw [e2]
    exact k _ (h1.setR x _) (s1.trans (step_row x))
/-- self.x.pop() -/
theorem rd_pop (T : VTxt K mg C CT CM) (x : LF) (h0 : σ[0]? = some (some (.ref p))) (h : EvAt C H p L e) (hne : e.row x ≠ [])
    (k : ∀ H1, EvAt C H1 p L (e.setR x (e.row x).dropLast) → Step H (own p L) H1 (own p L) → Q (.int ((e.row x).getLastD 0)) H1) : tBM0 K "list" rPop (tFld K (tVar 0) x.name) σ H Q := by
  show tFld K (tVar 0) x.name σ H (fun y H1 => tyV K "list" y H1 ∧ rPop y [] H1 Q)
  refine rd_row T x h0 h.1 ?_
  refine ⟨.inl ⟨rfl, _, SqL.of (h.1.row x)⟩, L x, _, _, rfl, rfl, h.1.row x, last_mapE hne, ?_⟩
  rw [← List.map_dropLast]
  exact k _ (h.setR x _) (step_row x)
/-- self.x[self.y] -/
theorem rd_at {j : Nat} (T : VTxt K mg C CT CM) (x : LF) (y : NK) (i : Nat) (h0 : σ[j]? = some (some (.ref p))) (h : Ev0 C H p L e) (hi : e.num y = (i : Int)) (hl : i < (e.row x).length)
    (k : Q (.int ((e.row x).getD i 0)) H) : tOp (rIxL K) (tFld K (tVar j) x.name) (tFld K (tVar j) y.name) σ H Q := by
  refine rd_row T x h0 h (rd_num T y h0 h ⟨L x, _, _, _, rfl, rfl, SqL.of (h.row x), ?_, k⟩)
  rw [hi]
  refine atI_nat ?_
  rw [List.getElem?_map, List.getElem?_eq_getElem hl, List.getD_eq_getElem?_getD, List.getElem?_eq_getElem hl]
  rfl
end
end Hf
/-! ## Evenline: the bodies -/
namespace Hf
open PySem PySem.Spec PyProof.Rows L2
abbrev sVI : Stmt := inClass (top 12) 0
abbrev sVMove : Stmt := inClass (top 12) 1
abbrev sVDone : Stmt := inClass (top 12) 2
abbrev sVCheck : Stmt := inClass (top 12) 3
abbrev sVPut : Stmt := inClass (top 12) 4
abbrev sVTake : Stmt := inClass (top 12) 5
abbrev sVFirst : Stmt := inClass (top 12) 6
abbrev sVThings : Stmt := inClass (top 12) 7
abbrev sVMoved : Stmt := inClass (top 12) 8
/-! ### further readings -/
section
variable {K : PySem.W.Frag} {mg : Str → Option Value} {C CT CM : Addr} {H : Hp} {p : Addr} {L : LF → Addr} {e : EV} {σ : L2.St} {Q : VK} {D : Ends}
theorem st_dec {n m : Nat} (hn : n ≤ 2) (hm : m ≤ 2) : decide (V.str (stS n) = V.str (stS m)) = decide (n = m) := by
  match n, m, hn, hm with
  | 0, 0, _, _ => decide +kernel
  | 0, 1, _, _ => decide +kernel
  | 0, 2, _, _ => decide +kernel
  | 1, 0, _, _ => decide +kernel
  | 1, 1, _, _ => decide +kernel
  | 1, 2, _, _ => decide +kernel
  | 2, 0, _, _ => decide +kernel
  | 2, 1, _, _ => decide +kernel
  | 2, 2, _, _ => decide +kernel
  | n + 3, _, h, _ => omega
  | _, m + 3, _, h => omega
theorem rd_is {Q : Bool → Hp → Prop} {s : Str} (T : VTxt K mg C CT CM) (m : Nat) (h0 : σ[0]? = some (some (.ref p))) (h : Ev0 C H p L e) (h2 : e.st ≤ 2) (k : Q (decide (e.st = m)) H) (hm : m ≤ 2 := by decide) (hs : stS m = s := by rfl) :
    tTest (tOp rEq (tFld K (tVar 0) "state") (tC (.str s))) σ H Q := by
  obtain ⟨dx, hp⟩ := h.ins
  subst hs
  exact ⟨_, h0, p, C, dx, _, _, rfl, hp, T.cl, T.nS, eF_st L e, rfl, _, congrArg V.bl (st_dec h2 hm), k⟩
theorem rd_isnt {Q : Bool → Hp → Prop} {s : Str} (T : VTxt K mg C CT CM) (m : Nat) (h0 : σ[0]? = some (some (.ref p))) (h : Ev0 C H p L e) (h2 : e.st ≤ 2) (k : Q (!decide (e.st = m)) H) (hm : m ≤ 2 := by decide) (hs : stS m = s := by rfl) :
    tTest (tOp rNe (tFld K (tVar 0) "state") (tC (.str s))) σ H Q := by
  obtain ⟨dx, hp⟩ := h.ins
  subst hs
  exact ⟨_, h0, p, C, dx, _, _, rfl, hp, T.cl, T.nS, eF_st L e, rfl, _, congrArg (fun b => V.bl (!b)) (st_dec h2 hm), k⟩
/-- self.x .. another number -/
theorem rd_opN {r : R2} {te : TE} (T : VTxt K mg C CT CM) (x : NK) (h0 : σ[0]? = some (some (.ref p))) (h : Ev0 C H p L e) (k : te σ H fun y H2 => r (.int (e.num x)) y H2 Q) : tOp r (tFld K (tVar 0) x.name) te σ H Q := by
  obtain ⟨dx, hp⟩ := h.ins
  exact ⟨_, h0, p, C, dx, _, _, rfl, hp, T.cl, T.nN x, eF_num L e x, k⟩
theorem rd_tN {Q : Bool → Hp → Prop} {r : R2} {te : TE} (T : VTxt K mg C CT CM) (x : NK) (h0 : σ[0]? = some (some (.ref p))) (h : Ev0 C H p L e) (k : te σ H fun y H2 => r (.int (e.num x)) y H2 fun z H3 => ∃ b, z = .bl b ∧ Q b H3) : tTest (tOp r (tFld K (tVar 0) x.name) te) σ H Q := by
  obtain ⟨dx, hp⟩ := h.ins
  exact ⟨_, h0, p, C, dx, _, _, rfl, hp, T.cl, T.nN x, eF_num L e x, k⟩
def rLenS (K : PySem.W.Frag) : List V → Hp → VK → Prop := fun xs H Q => ∃ p ys, xs = [.ref p] ∧ (SqL K H p ys ∨ SqT K H p ys) ∧ Q (.int ys.length) H
theorem rd_len (T : VTxt K mg C CT CM) (x : LF) (h0 : σ[0]? = some (some (.ref p))) (h : Ev0 C H p L e) (k : Q (.int ((e.row x).length : Nat)) H) : tCB (rLenS K) (tCons (tFld K (tVar 0) x.name) tNil) σ H Q := by
  obtain ⟨dx, hp⟩ := h.ins
  refine ⟨_, h0, p, C, dx, _, _, rfl, hp, T.cl, T.nR x, eF_row L e x, L x, _, rfl, .inl (SqL.of (h.row x)), ?_⟩
  rw [List.length_map]
  exact k
theorem rd_setN0 {te : TE} (T : VTxt K mg C CT CM) (x : NK) (v : Int) (h0 : σ[0]? = some (some (.ref p))) (h : Ev0 C H p L e) (ht : ∀ R : V → Hp → Prop, R (.int v) H → te σ H R)
    (k : ∀ H1, Ev0 C H1 p L (e.setN x v) → (∀ q o, H q = some o → q ≠ p → H1 q = some o) → D.nx σ H1) : sFld K (tVar 0) te x.name D σ H := by
  obtain ⟨dx, hp⟩ := h.ins
  exact ht _ ⟨_, h0, p, C, dx, _, rfl, hp, T.cl, T.nN x, (by show 11 < 1000; decide), k _ (h.setN x v) fun q o e n => by rw [upd_ne n]; exact e⟩
theorem rd_setS0 {s : Str} (T : VTxt K mg C CT CM) (n : Nat) (h0 : σ[0]? = some (some (.ref p))) (h : Ev0 C H p L e)
    (k : ∀ H1, Ev0 C H1 p L { e with st := n } → (∀ q o, H q = some o → q ≠ p → H1 q = some o) → D.nx σ H1) (hs : stS n = s := by rfl) : sFld K (tVar 0) (tC (.str s)) "state" D σ H := by
  obtain ⟨dx, hp⟩ := h.ins
  subst hs
  exact ⟨_, h0, p, C, dx, _, rfl, hp, T.cl, T.nS, (by show 11 < 1000; decide), k _ (h.setS n) fun q o e n => by rw [upd_ne n]; exact e⟩
theorem rd_setL0 {te : TE} {l : Addr} {xs : List Int} (T : VTxt K mg C CT CM) (x : LF) (h0 : σ[0]? = some (some (.ref p))) (h : Ev0 C H p L e) (hl : H l = some (.lst (xs.map V.int))) (ht : ∀ R : V → Hp → Prop, R (.ref l) H → te σ H R)
    (k : ∀ H1, Ev0 C H1 p (setL L x l) (e.setR x xs) → (∀ q o, H q = some o → q ≠ p → H1 q = some o) → D.nx σ H1) : sFld K (tVar 0) te x.name D σ H := by
  obtain ⟨dx, hp⟩ := h.ins
  exact ht _ ⟨_, h0, p, C, dx, _, rfl, hp, T.cl, T.nR x, (by show 11 < 1000; decide), k _ (h.setL hp x hl) fun q o e n => by rw [upd_ne n]; exact e⟩
/-- self.x = self.x + d, self.x - d -/
theorem rd_add (T : VTxt K mg C CT CM) (x : NK) (d : Int) (h0 : σ[0]? = some (some (.ref p))) (h : EvAt C H p L e)
    (k : ∀ H1, EvAt C H1 p L (e.setN x (e.num x + d)) → Step H (own p L) H1 (own p L) → D.nx σ H1) : sFld K (tVar 0) (tOp (rI0 fun i j => .int (i + j)) (tFld K (tVar 0) x.name) (tC (.int d))) x.name D σ H :=
  rd_setN T x _ h0 h (fun R q => rd_opN T x h0 h.1 ⟨_, _, rfl, rfl, q⟩) k
theorem rd_sub (T : VTxt K mg C CT CM) (x : NK) (d : Int) (h0 : σ[0]? = some (some (.ref p))) (h : EvAt C H p L e)
    (k : ∀ H1, EvAt C H1 p L (e.setN x (e.num x - d)) → Step H (own p L) H1 (own p L) → D.nx σ H1) : sFld K (tVar 0) (tOp (rI0 fun i j => .int (i - j)) (tFld K (tVar 0) x.name) (tC (.int d))) x.name D σ H :=
  rd_setN T x _ h0 h (fun R q => rd_opN T x h0 h.1 ⟨_, _, rfl, rfl, q⟩) k
theorem rd_zero (T : VTxt K mg C CT CM) (x : NK) (d : Int) (h0 : σ[0]? = some (some (.ref p))) (h : EvAt C H p L e)
    (k : ∀ H1, EvAt C H1 p L (e.setN x d) → Step H (own p L) H1 (own p L) → D.nx σ H1) : sFld K (tVar 0) (tC (.int d)) x.name D σ H :=
  rd_setN T x _ h0 h (fun R q => q) k
theorem rd_move (h0 : σ[0]? = some (some (.ref p))) (h : EvAt C H p L e) (ok : MoveOk e) (k : ∀ (H' : Hp) (L' : LF → Addr), EvAt C H' p L' (moveE e) → Step H (own p L) H' (own p L') → Q .non H') :
    tMeth C "move" (spMove C) [] E0 (tVar 0) tNil σ H Q := by
  obtain ⟨dx, hp⟩ := h.1.ins
  exact ⟨_, h0, p, dx, _, rfl, hp, eF_no _ _ (by decide +kernel), p, L, e, rfl, h, ok, k⟩
theorem rd_done (h0 : σ[0]? = some (some (.ref p))) (h : EvAt C H p L e) (k : ∀ (H' : Hp) (L' : LF → Addr), EvAt C H' p L' (doneE e) → Step H (own p L) H' (own p L') → Q .non H') :
    tMeth C "done" (spDone C) [] E0 (tVar 0) tNil σ H Q := by
  obtain ⟨dx, hp⟩ := h.1.ins
  exact ⟨_, h0, p, dx, _, rfl, hp, eF_no _ _ (by decide +kernel), p, L, e, rfl, h, k⟩
theorem rd_check (h0 : σ[0]? = some (some (.ref p))) (h : EvAt C H p L e) (ok : Chk e) (h2 : e.st ≤ 2) (k : ∀ (H' : Hp) (L' : LF → Addr), EvAt C H' p L' (checkE e) → Step H (own p L) H' (own p L') → Q .non H') :
    tMeth C "check" (spCheck C) [] E0 (tVar 0) tNil σ H Q := by
  obtain ⟨dx, hp⟩ := h.1.ins
  exact ⟨_, h0, p, dx, _, rfl, hp, eF_no _ _ (by decide +kernel), p, L, e, rfl, h, ok, h2, k⟩
end
/-! ### __init__ -/
/-- while it is being made: the fields fs so far, the empty rows as -/
structure Pre (C : Addr) (H0 H : Hp) (p dx : Addr) (fs : List (Str × V)) (as : List Addr) : Prop where
  ins : H p = some (.ins C dx fs)
  row : ∀ a ∈ as, H a = some (.lst [])
  nod : as.Nodup
  kp : ∀ b o, H0 b = some o → b ≠ p → H b = some o ∧ b ∉ as
theorem putF_new {f : Str} {v : V} : ∀ (fs : List (Str × V)) (ks : List Str), fs.map Prod.fst = ks → ks.all (fun g => !decide (g = f)) = true → putF f v fs = fs ++ [(f, v)]
  | [], _, _, _ => rfl
  | (g, x) :: r, ks, e, h => by
    subst e
    simp only [List.map_cons, List.all_cons, Bool.and_eq_true, Bool.not_eq_true', decide_eq_false_iff_not] at h
    rw [put_past h.1, putF_new r _ rfl h.2]
    rfl
section
variable {P : Program} {w : World} {K : PySem.W.Frag} {mg : Str → Option Value} {base : Heap} {C CT CM : Addr} {H0 H : Hp} {p dx : Addr} {fs : List (Str × V)} {as : List Addr} {σ : L2.St} {D : Ends}
theorem rd_iL {f : Str} (ks : List Str) (cl : Cls K C) (na : NoAttr K C f) (h0 : σ[0]? = some (some (.ref p))) (h : Pre C H0 H p dx fs as) (hk : fs.map Prod.fst = ks) (hf : ks.all (fun g => !decide (g = f)) = true) (hl : fs.length < 1000)
    (k : ∀ H1 a, Pre C H0 H1 p dx (fs ++ [(f, .ref a)]) (a :: as) → D.nx σ H1) : sFld K (tVar 0) (tLst tNil) f D σ H := by
  refine ⟨(by show 0 ≤ sizeLine; decide), fun a na' => ?_⟩
  have pa : p ≠ a := ne_of_none h.ins na'
  refine ⟨_, h0, p, C, dx, fs, rfl, (by rw [upd_ne pa]; exact h.ins), cl, na, hl, ?_⟩
  rw [putF_new fs ks hk hf]
  have nea : ∀ b ∈ as, b ≠ a := fun b hb => ne_of_none (h.row b hb) na'
  have nep : ∀ b ∈ as, b ≠ p := fun b hb => ne_of (h.row b hb) h.ins (by intro q; cases q)
  refine k _ a ⟨upd_same, fun b hb => ?_, List.nodup_cons.mpr ⟨fun z => nea a z rfl, h.nod⟩, fun b o e hb => ?_⟩
  · rcases List.mem_cons.mp hb with rfl | hb
    · rw [upd_ne pa.symm]
      exact upd_same
    · rw [upd_ne (nep b hb), upd_ne (nea b hb)]
      exact h.row b hb
  · have h1 := h.kp b o e hb
    have ba : b ≠ a := ne_of_none h1.1 na'
    exact ⟨by rw [upd_ne hb, upd_ne ba]; exact h1.1, fun z => (List.mem_cons.mp z).elim ba h1.2⟩
theorem rd_iV {f : Str} {te : TE} (v : V) (ks : List Str) (cl : Cls K C) (na : NoAttr K C f) (h0 : σ[0]? = some (some (.ref p))) (h : Pre C H0 H p dx fs as) (hk : fs.map Prod.fst = ks) (hf : ks.all (fun g => !decide (g = f)) = true) (hl : fs.length < 1000) (ht : ∀ R : V → Hp → Prop, R v H → te σ H R)
    (k : ∀ H1, Pre C H0 H1 p dx (fs ++ [(f, v)]) as → D.nx σ H1) : sFld K (tVar 0) te f D σ H := by
  refine ht _ ⟨_, h0, p, C, dx, fs, rfl, h.ins, cl, na, hl, ?_⟩
  rw [putF_new fs ks hk hf]
  have nep : ∀ b ∈ as, b ≠ p := fun b hb => ne_of (h.row b hb) h.ins (by intro q; cases q)
  exact k _ ⟨upd_same, fun b hb => by rw [upd_ne (nep b hb)]; exact h.row b hb, h.nod, fun b o e hb => ⟨by rw [upd_ne hb]; exact (h.kp b o e hb).1, (h.kp b o e hb).2⟩⟩
theorem scVI : FnScope ["self"] ["self"] (defScope sVI) := ⟨rfl, rfl, rfl, by decide +kernel, rfl, by decide +kernel, by decide +kernel⟩
theorem ok_vi {f : Addr} {fd : FuncData} (F : Fun K "__init__" "Evenline.__init__" sVI f fd) (T : VTxt K mg C CT CM) : FnOk P w K mg base CX0 1 f fd ["self"] (spInitE C) := by
  refine F.ok scVI (fun vs H Q E h => ?_) (fun cdv A outer s H vs Q E hr h => ?_)
  · obtain ⟨p, dx, rfl, _⟩ := h
    rfl
  · obtain ⟨p, dx, rfl, hp, k⟩ := h
    refine ⟨_, pss_cons (ps_fld (pv 0) (pe_lst pa_nil) rfl) (pss_cons (ps_fld (pv 0) (pe_un un_neg pe_int) rfl) (pss_cons (ps_fld (pv 0) (pe_lst pa_nil) rfl) (pss_cons (ps_fld (pv 0) (pe_lst pa_nil) rfl)
      (pss_cons (ps_fld (pv 0) pe_int rfl) (pss_cons (ps_fld (pv 0) (pe_lst pa_nil) rfl) (pss_cons (ps_fld (pv 0) (pe_lst pa_nil) rfl) (pss_cons (ps_fld (pv 0) (pe_un un_neg pe_int) rfl)
      (pss_cons (ps_fld (pv 0) pe_int rfl) (pss_cons (ps_fld (pv 0) pe_str rfl) (pss_one (ps_fld (pv 0) pe_int rfl)))))))))))  , ?_⟩
    have h0 : Pre C H H p dx [] [] := ⟨hp, fun a ha => absurd ha (by simp), List.nodup_nil, fun b o e hb => ⟨e, by simp⟩⟩
    refine rd_iL [] T.cl (T.nR .front) rfl h0 rfl rfl (by decide) fun H1 a1 h1 => ?_
    refine rd_iV (te := tUn (rU fun i => .int (-i)) (tC (.int 1))) (.int (-1)) ["front"] T.cl (T.nN .top) rfl h1 rfl (by decide +kernel) (by show 1 < 1000; decide) (fun R q => ⟨_, rfl, q⟩) fun H2 h2 => ?_
    refine rd_iL ["front", "top"] T.cl (T.nR .back) rfl h2 rfl (by decide +kernel) (by show 2 < 1000; decide) fun H3 a3 h3 => ?_
    refine rd_iL ["front", "top", "back"] T.cl (T.nR .waiting) rfl h3 rfl (by decide +kernel) (by show 3 < 1000; decide) fun H4 a4 h4 => ?_
    refine rd_iV (te := tC (.int 0)) (.int 0) ["front", "top", "back", "waiting"] T.cl (T.nN .left) rfl h4 rfl (by decide +kernel) (by show 4 < 1000; decide) (fun R q => q) fun H5 h5 => ?_
    refine rd_iL ["front", "top", "back", "waiting", "left"] T.cl (T.nR .turned) rfl h5 rfl (by decide +kernel) (by show 5 < 1000; decide) fun H6 a6 h6 => ?_
    refine rd_iL ["front", "top", "back", "waiting", "left", "turned"] T.cl (T.nR .spare) rfl h6 rfl (by decide +kernel) (by show 6 < 1000; decide) fun H7 a7 h7 => ?_
    refine rd_iV (te := tUn (rU fun i => .int (-i)) (tC (.int 1))) (.int (-1)) ["front", "top", "back", "waiting", "left", "turned", "spare"] T.cl (T.nN .reading) rfl h7 rfl (by decide +kernel) (by show 7 < 1000; decide) (fun R q => ⟨_, rfl, q⟩) fun H8 h8 => ?_
    refine rd_iV (te := tC (.int 0)) (.int 0) ["front", "top", "back", "waiting", "left", "turned", "spare", "reading"] T.cl (T.nN .good) rfl h8 rfl (by decide +kernel) (by show 8 < 1000; decide) (fun R q => q) fun H9 h9 => ?_
    refine rd_iV (te := tC (.str "idle")) (.str "idle") ["front", "top", "back", "waiting", "left", "turned", "spare", "reading", "good"] T.cl T.nS rfl h9 rfl (by decide +kernel) (by show 9 < 1000; decide) (fun R q => q) fun H10 h10 => ?_
    refine rd_iV (te := tC (.int 0)) (.int 0) ["front", "top", "back", "waiting", "left", "turned", "spare", "reading", "good", "state"] T.cl (T.nN .last) rfl h10 rfl (by decide +kernel) (by show 10 < 1000; decide) (fun R q => q) fun H11 h11 => ?_
    let L : LF → Addr := fun x => match x with | .front => a1 | .back => a3 | .waiting => a4 | .turned => a6 | .spare => a7
    have hn := h11.nod
    simp only [List.nodup_cons, List.mem_cons, List.not_mem_nil, or_false, not_or] at hn
    refine k H11 (own p L) ⟨L, newE, rfl, ⟨⟨⟨dx, h11.ins⟩, fun x => ?_⟩, fun x y e => ?_⟩, good_new.1, good_new.2.1, rfl⟩ fun b o e hb => ?_
    · cases x <;> exact h11.row _ (by simp [L])
    · obtain ⟨⟨n1, n2, n3, n4⟩, ⟨n5, n6, n7⟩, ⟨n8, n9⟩, n10, _⟩ := hn
      cases x <;> cases y <;> first | rfl | exact absurd e n1 | exact absurd e.symm n1 | exact absurd e n2 | exact absurd e.symm n2 | exact absurd e n3 | exact absurd e.symm n3 | exact absurd e n4 | exact absurd e.symm n4 | exact absurd e n5 | exact absurd e.symm n5 | exact absurd e n6 | exact absurd e.symm n6 | exact absurd e n7 | exact absurd e.symm n7 | exact absurd e n8 | exact absurd e.symm n8 | exact absurd e n9 | exact absurd e.symm n9 | exact absurd e n10 | exact absurd e.symm n10
    · have h1 := h11.kp b o e hb
      refine ⟨h1.1, fun z => ?_⟩
      rcases mem_own.mp z with z | ⟨x, z⟩
      · exact hb z
      · refine h1.2 ?_
        rw [z]
        cases x <;> simp [L]
end
/-! ### done, move, check -/
section
variable {P : Program} {w : World} {K : PySem.W.Frag} {mg : Str → Option Value} {base : Heap} {C CT CM : Addr}
theorem scVDone : FnScope ["self"] ["self"] (defScope sVDone) := ⟨rfl, rfl, rfl, by decide +kernel, rfl, by decide +kernel, by decide +kernel⟩
theorem ok_vdone {f : Addr} {fd : FuncData} (F : Fun K "done" "Evenline.done" sVDone f fd) (T : VTxt K mg C CT CM) : FnOk P w K mg base CX0 1 f fd ["self"] (spDone C) := by
  refine F.ok scVDone (fun vs H Q E h => ?_) (fun cdv A outer s H vs Q E hr h => ?_)
  · obtain ⟨p, L, e, rfl, _⟩ := h
    rfl
  · obtain ⟨p, L, e, rfl, hE, k⟩ := h
    refine ⟨_, pss_cons (ps_fld (pv 0) (pe_fld (pv 0) rfl) rfl)
      (pss_cons (ps_fld (pv 0) (pe_op op_sub (pe_callB call_len_seq (by rfl) T.B.len PySem.boot_len (pa_cons (pe_fld (pv 0) rfl) pa_nil)) pe_int) rfl)
      (pss_cons (ps_asg (pe_tup (pa_cons (pe_lst pa_nil) (pa_cons (pe_lst pa_nil) (pa_cons (pe_lst pa_nil) pa_nil)))) (pg_tup rfl (pgs_cons (pg_fld (pv 0)) (pgs_cons (pg_fld (pv 0)) (pgs_cons (pg_fld (pv 0)) pgs_nil)))))
      (pss_one (ps_fld (pv 0) pe_str rfl)))), ?_⟩
    refine rd_setL0 T .front rfl hE.1 (hE.1.row .turned) (fun R q => rd_row T .turned rfl hE.1 q) fun H1 h1 c1 => ?_
    refine rd_setN0 (te := tOp (rI0 fun i j => .int (i - j)) (tCB (rLenS K) (tCons (tFld K (tVar 0) "turned") tNil)) (tC (.int 1))) T .top ((e.turned.length : Int) - 1) rfl h1 (fun R q => ?_) fun H2 h2 c2 => ?_
    · exact rd_len (Q := fun y H1 => tC (.int 1) _ H1 fun y2 H2 => rI0 (fun i j => .int (i - j)) y y2 H2 R) T .turned rfl h1 ⟨_, _, rfl, rfl, q⟩
    have c12 : ∀ q o, H q = some o → q ≠ p → H2 q = some o := fun q o e n => c2 q o (c1 q o e n) n
    refine ⟨(by show 0 ≤ sizeLine; decide), fun a1 n1 => ⟨(by show 0 ≤ sizeLine; decide), fun a2 n2 => ⟨(by show 0 ≤ sizeLine; decide), fun a3 n3 => ⟨(by show 3 ≤ sizeLine; decide), fun t nt => ?_⟩⟩⟩⟩
    have s1 : Same H2 (upd H2 a1 (.lst [])) := Same.new n1
    have s2 : Same (upd H2 a1 (.lst [])) (upd (upd H2 a1 (.lst [])) a2 (.lst [])) := Same.new n2
    have s3 : Same (upd (upd H2 a1 (.lst [])) a2 (.lst [])) (upd (upd (upd H2 a1 (.lst [])) a2 (.lst [])) a3 (.lst [])) := Same.new n3
    have s4 := Same.new (o := .tup [.ref a1, .ref a2, .ref a3]) nt
    have g1 := s4 _ _ (s3 _ _ (s2 _ _ (upd_same (H := H2) (a := a1) (o := .lst []))))
    have g2 := s4 _ _ (s3 _ _ (upd_same (H := upd H2 a1 (.lst [])) (a := a2) (o := .lst [])))
    have g3 := s4 _ _ (upd_same (H := upd (upd H2 a1 (.lst [])) a2 (.lst [])) (a := a3) (o := .lst []))
    have h4 := (((h2.same s1).same s2).same s3).same s4
    have p4 := h4.ins
    obtain ⟨dx, p4⟩ := p4
    have pa1 : p ≠ a1 := ne_of p4 g1 (by intro q; cases q)
    have pa2 : p ≠ a2 := ne_of p4 g2 (by intro q; cases q)
    have pa3 : p ≠ a3 := ne_of p4 g3 (by intro q; cases q)
    refine ⟨t, _, rfl, SqT.of upd_same, rfl, _, _, rfl, rd_gL (xs := []) T .waiting rfl h4 g1 fun H5 h5 c5 => ⟨_, _, rfl, rd_gL (xs := []) T .turned rfl h5 (c5 _ _ g2 pa2.symm) fun H6 h6 c6 => ⟨_, _, rfl, rd_gL (xs := []) T .spare rfl h6 (c6 _ _ (c5 _ _ g3 pa3.symm) pa3.symm) fun H7 h7 c7 => ⟨rfl, ?_⟩⟩⟩⟩
    refine rd_setS0 T 0 rfl h7 fun H8 h8 c8 => ?_
    have tr : ∀ q o, H q = some o → q ≠ p → H2 q = some o ∧ q ≠ a1 ∧ q ≠ a2 ∧ q ≠ a3 ∧ H8 q = some o := fun q o eq n => by
      have e2 := c12 q o eq n
      have q1 : q ≠ a1 := ne_of_none e2 n1
      have q2 : q ≠ a2 := ne_of_none (s1 _ _ e2) n2
      have q3 : q ≠ a3 := ne_of_none (s2 _ _ (s1 _ _ e2)) n3
      exact ⟨e2, q1, q2, q3, c8 _ _ (c7 _ _ (c6 _ _ (c5 _ _ (s4 _ _ (s3 _ _ (s2 _ _ (s1 _ _ e2)))) n) n) n) n⟩
    have rT := tr _ _ (hE.1.row .turned) (hE.1.ne .turned).symm
    have rB := tr _ _ (hE.1.row .back) (hE.1.ne .back).symm
    have nTB : L .turned ≠ L .back := fun z => by cases hE.2 _ _ z
    have n12 : a1 ≠ a2 := ne_of_none (upd_same (H := H2)) n2
    have n13 : a1 ≠ a3 := ne_of_none (s2 _ _ (upd_same (H := H2) (a := a1) (o := .lst []))) n3
    have n23 : a2 ≠ a3 := ne_of_none (upd_same (H := upd H2 a1 (.lst []))) n3
    refine k H8 (setL (setL (setL (setL L .front (L .turned)) .waiting a1) .turned a2) .spare a3) ⟨h8, fun x y ez => ?_⟩ fun q o eq hq => ?_
    · cases x <;> cases y <;> first | rfl | exact absurd ez nTB | exact absurd ez.symm nTB | exact absurd ez rT.2.1 | exact absurd ez.symm rT.2.1 | exact absurd ez rT.2.2.1 | exact absurd ez.symm rT.2.2.1 | exact absurd ez rT.2.2.2.1 | exact absurd ez.symm rT.2.2.2.1 | exact absurd ez rB.2.1 | exact absurd ez.symm rB.2.1 | exact absurd ez rB.2.2.1 | exact absurd ez.symm rB.2.2.1 | exact absurd ez rB.2.2.2.1 | exact absurd ez.symm rB.2.2.2.1 | exact absurd ez n12 | exact absurd ez.symm n12 | exact absurd ez n13 | exact absurd ez.symm n13 | exact absurd ez n23 | exact absurd ez.symm n23
    · have qp : q ≠ p := fun z => hq (mem_own.mpr (.inl z))
      have r := tr q o eq qp
      refine ⟨r.2.2.2.2, fun z => ?_⟩
      rcases mem_own.mp z with z | ⟨x, z⟩
      · exact qp z
      · cases x with
        | front => exact hq (mem_own.mpr (.inr ⟨.turned, z⟩))
        | back => exact hq (mem_own.mpr (.inr ⟨.back, z⟩))
        | waiting => exact r.2.1 z
        | turned => exact r.2.2.1 z
        | spare => exact r.2.2.2.1 z
end
end Hf
/-! ## Evenline: move, check, put, take, what is told -/
namespace Hf
open PySem PySem.Spec PyProof.Rows L2
section
variable {P : Program} {w : World} {K : PySem.W.Frag} {mg : Str → Option Value} {base : Heap} {C CT CM : Addr}
theorem scVMove : FnScope ["self"] ["self"] (defScope sVMove) := ⟨rfl, rfl, rfl, by decide +kernel, rfl, by decide +kernel, by decide +kernel⟩
theorem ok_vmove {f fO : Addr} {fd fdO : FuncData} (F : Fun K "move" "Evenline.move" sVMove f fd) (T : VTxt K mg C CT CM)
    (FO : Fun K "done" "Evenline.done" sVDone fO fdO) (bO : Binds K fdO ["self"] []) (mO : Meth K C "done" fO) : FnOk P w K mg base CX0 2 f fd ["self"] (spMove C) := by
  have GO : FnOk P w K mg base CX0 1 fO fdO ["self"] (spDone C) := ok_vdone FO T
  refine F.ok scVMove (fun vs H Q E h => ?_) (fun cdv A outer s H vs Q E hr h => ?_)
  · obtain ⟨p, L, e, rfl, _⟩ := h
    rfl
  · obtain ⟨p, L, e, rfl, hE, ok, k⟩ := h
    refine ⟨_, pss_one (ps_if (PW.pt (pw_and (pt_cmpR op_eq (pe_fld (pv 0) rfl) pe_str (nomark _)) (pw_and1 (pt_cmpR op_ge (pe_fld (pv 0) rfl) pe_int (nomark _)))))
      (pss_cons (ps_expr (pe_bm PySem.F.plainAttrs_list PySem.F.slot_list_append PySem.F.type_list_append mt_append (pe_fld (pv 0) rfl) (pa_cons (pe_ix ix_list (pe_fld (pv 0) rfl) (pe_fld (pv 0) rfl) (fun _ _ => rfl)) pa_nil)))
      (pss_cons (ps_fld (pv 0) (pe_op op_sub (pe_fld (pv 0) rfl) pe_int) rfl)
      (pss_cons (ps_fld (pv 0) (pe_op op_add (pe_fld (pv 0) rfl) pe_int) rfl)
      (pss_cons (ps_fld (pv 0) (pe_op op_sub (pe_fld (pv 0) rfl) pe_int) rfl)
      (pss_cons (ps_expr (pe_bm PySem.F.plainAttrs_list PySem.F.slot_list_append PySem.F.type_list_append mt_append (pe_fld (pv 0) rfl) (pa_cons (pe_ix ix_list (pe_fld (pv 0) rfl) (pe_fld (pv 0) rfl) (fun _ _ => rfl)) pa_nil)))
      (pss_one (ps_fld (pv 0) (pe_op op_add (pe_fld (pv 0) rfl) pe_int) rfl)))))))
      (pss_one (ps_if (pt_cmpR op_eq (pe_fld (pv 0) rfl) pe_str (nomark _))
        (pss_cons (ps_fld (pv 0) (pe_op op_sub (pe_fld (pv 0) rfl) pe_int) rfl)
        (pss_cons (ps_expr (pe_bm PySem.F.plainAttrs_list PySem.F.slot_list_append PySem.F.type_list_append mt_append (pe_fld (pv 0) rfl) (pa_cons (pe_ix ix_list (pe_fld (pv 0) rfl) (pe_fld (pv 0) rfl) (fun _ _ => rfl)) pa_nil)))
        (pss_cons (ps_fld (pv 0) (pe_op op_add (pe_fld (pv 0) rfl) pe_int) rfl)
        (pss_one (ps_fld (pv 0) pe_str rfl)))))
        (pss_one (ps_if (PW.pt (pw_and (pt_cmpR op_eq (pe_fld (pv 0) rfl) pe_str (nomark _)) (pw_and1 (pt_cmpR op_gt (pe_fld (pv 0) rfl) pe_int (nomark _)))))
          (pss_cons (ps_expr (pe_bm PySem.F.plainAttrs_list PySem.F.slot_list_append PySem.F.type_list_append mt_append (pe_fld (pv 0) rfl) (pa_cons (pe_bm0 PySem.F.plainAttrs_list PySem.F.slot_list_pop PySem.F.type_list_pop mt_pop (pe_fld (pv 0) rfl)) pa_nil)))
          (pss_cons (ps_fld (pv 0) (pe_op op_sub (pe_fld (pv 0) rfl) pe_int) rfl)
          (pss_one (ps_fld (pv 0) (pe_op op_add (pe_fld (pv 0) rfl) pe_int) rfl))))
          (pss_one (ps_if (pt_cmpR op_eq (pe_fld (pv 0) rfl) pe_str (nomark _)) (pss_one (ps_expr (pe_meth0 (pv 0) T.cl mO GO hr bO .nil pass0))) pss_nil))))))), ?_⟩
    have hnn : ∀ n : Nat, n ≤ 2 → n = 0 ∨ n = 1 ∨ n = 2 := fun n h => by omega
    refine rd_is T 1 rfl hE.1 ok.st ?_
    rcases hnn e.st ok.st with c | c | c
    · rw [decide_eq_false (by omega : ¬ e.st = 1)]
      refine iteF (iteF (rd_is T 1 rfl hE.1 ok.st ?_))
      rw [decide_eq_false (by omega : ¬ e.st = 1)]
      refine iteF (rd_is T 2 rfl hE.1 ok.st ?_)
      rw [decide_eq_false (by omega : ¬ e.st = 2)]
      refine iteF (iteF (rd_is T 2 rfl hE.1 ok.st ?_))
      rw [decide_eq_false (by omega : ¬ e.st = 2)]
      have em : moveE e = e := by
        unfold moveE
        rw [if_neg (by omega), if_neg (by omega)]
      exact iteF (k H L (by rw [em]; exact hE) (Step.refl _ _))
    · rw [decide_eq_true c]
      refine iteT (rd_tN T .reading rfl hE.1 ⟨_, _, rfl, rfl, _, rfl, ?_⟩)
      have hlf := ok.lf c
      refine ite2 (fun h => ?_) fun h => ?_
      · have h : (0 : Int) ≤ e.reading := of_decide_eq_true h
        have hrd := ok.rd c h
        refine rd_app (te := tOp (rIxL K) (tFld K (tVar 0) "front") (tFld K (tVar 0) "reading")) (v := e.front.getD e.reading.toNat 0) T .spare rfl hE (fun R q => rd_at T .front .reading e.reading.toNat rfl hE.1 (by show e.reading = _; omega) hrd (q H hE (Step.refl _ _))) ok.szS fun H1 h1 s1 => ?_
        refine rd_sub T .reading 1 rfl h1 fun H2 h2 s2 => ?_
        refine rd_add T .good 1 rfl h2 fun H3 h3 s3 => ?_
        refine rd_sub T .left 1 rfl h3 fun H4 h4 s4 => ?_
        refine rd_app (te := tOp (rIxL K) (tFld K (tVar 0) "waiting") (tFld K (tVar 0) "left")) (v := e.waiting.getD (e.left - 1).toNat 0) T .turned rfl h4 (fun R q => rd_at T .waiting .left (e.left - 1).toNat rfl h4.1 (by show e.left - 1 = _; omega) hlf.2 (q H4 h4 (Step.refl _ _))) ok.szT fun H5 h5 s5 => ?_
        refine rd_add T .last 2 rfl h5 fun H6 h6 s6 => ?_
        refine k H6 L ?_ ((((s1.trans s2).trans s3).trans s4).trans (s5.trans s6))
        unfold moveE
        rw [if_pos c, if_pos h]
        exact h6
      · have h : ¬ (0 : Int) ≤ e.reading := of_decide_eq_false (by simpa using h)
        refine rd_is T 1 rfl hE.1 ok.st ?_
        rw [decide_eq_true c]
        refine iteT (rd_sub T .left 1 rfl hE fun H4 h4 s4 => ?_)
        refine rd_app (te := tOp (rIxL K) (tFld K (tVar 0) "waiting") (tFld K (tVar 0) "left")) (v := e.waiting.getD (e.left - 1).toNat 0) T .turned rfl h4 (fun R q => rd_at T .waiting .left (e.left - 1).toNat rfl h4.1 (by show e.left - 1 = _; omega) hlf.2 (q H4 h4 (Step.refl _ _))) ok.szT fun H5 h5 s5 => ?_
        refine rd_add T .last 1 rfl h5 fun H6 h6 s6 => ?_
        refine rd_setS (L := L) T 2 rfl h6 fun H7 h7 s7 => ?_
        refine k H7 L ?_ ((s4.trans s5).trans (s6.trans s7))
        unfold moveE
        rw [if_pos c, if_neg h]
        exact h7
    · rw [decide_eq_false (by omega : ¬ e.st = 1)]
      refine iteF (iteF (rd_is T 1 rfl hE.1 ok.st ?_))
      rw [decide_eq_false (by omega : ¬ e.st = 1)]
      refine iteF (rd_is T 2 rfl hE.1 ok.st ?_)
      rw [decide_eq_true c]
      refine iteT (rd_tN T .good rfl hE.1 ⟨_, _, rfl, rfl, _, rfl, ?_⟩)
      refine ite2 (fun h => ?_) fun h => ?_
      · have h : (0 : Int) < e.good := of_decide_eq_true h
        refine rd_app (te := tBM0 K "list" rPop (tFld K (tVar 0) "spare")) (e1 := e.setR .spare e.spare.dropLast) (v := e.spare.getLastD 0) T .turned rfl hE (fun R q => rd_pop T .spare rfl hE (ok.sp c h) q) ok.szT fun H5 h5 s5 => ?_
        refine rd_sub T .good 1 rfl h5 fun H6 h6 s6 => ?_
        refine rd_add T .last 1 rfl h6 fun H7 h7 s7 => ?_
        refine k H7 L ?_ ((s5.trans s6).trans s7)
        unfold moveE
        rw [if_neg (by omega), if_pos c, if_pos h]
        exact h7
      · have h : ¬ (0 : Int) < e.good := of_decide_eq_false (by simpa using h)
        refine rd_is T 2 rfl hE.1 ok.st ?_
        rw [decide_eq_true c]
        refine iteT (rd_done (p := p) rfl hE fun H1 L1 h1 s1 => ?_)
        refine k H1 L1 ?_ s1
        unfold moveE
        rw [if_neg (by omega), if_pos c, if_neg h]
        exact h1
theorem scVCheck : FnScope ["self", "ahead"] ["self"] (defScope sVCheck) := ⟨rfl, rfl, rfl, by decide +kernel, rfl, by decide +kernel, by decide +kernel⟩
theorem ok_vcheck {f fO fM : Addr} {fd fdO fdM : FuncData} (F : Fun K "check" "Evenline.check" sVCheck f fd) (T : VTxt K mg C CT CM)
    (FO : Fun K "done" "Evenline.done" sVDone fO fdO) (bO : Binds K fdO ["self"] []) (mO : Meth K C "done" fO)
    (FM : Fun K "move" "Evenline.move" sVMove fM fdM) (bM : Binds K fdM ["self"] []) (mM : Meth K C "move" fM) : FnOk P w K mg base CX0 3 f fd ["self"] (spCheck C) := by
  have GO : FnOk P w K mg base CX0 1 fO fdO ["self"] (spDone C) := ok_vdone FO T
  have GM : FnOk P w K mg base CX0 2 fM fdM ["self"] (spMove C) := ok_vmove FM T FO bO mO
  refine F.ok scVCheck (fun vs H Q E h => ?_) (fun cdv A outer s H vs Q E hr h => ?_)
  · obtain ⟨p, L, e, rfl, _⟩ := h
    rfl
  · obtain ⟨p, L, e, rfl, hE, ck, hst, k⟩ := h
    have hr1 : Room 1 _ := hr.mono (by decide)
    refine ⟨_, C8.pss_cut (ps_set (i := 1) scVCheck.nd rfl (Or.inl rfl) (pe_op op_add (pe_op op_add (pe_fld (pv 0) rfl) pe_int) (pe_ifExp (pt_cmpR op_ne (pe_fld (pv 0) rfl) pe_str (nomark _)) (pe_callB call_len_seq (by rfl) T.B.len PySem.boot_len (pa_cons (pe_fld (pv 0) rfl) pa_nil)) pe_int)))
      (C8.pss_cut (ps_if (PW.pt (pw_and (pt_cmpR op_eq (pe_fld (pv 0) rfl) pe_str (nomark _)) (pw_and1 (pt_cmpR op_gt (pe_callB call_len_seq (by rfl) T.B.len PySem.boot_len (pa_cons (pe_fld (pv 0) rfl) pa_nil)) (pv 1) (nomark _)))))
        (pss_cons (ps_asg (pe_tup (pa_cons (pe_fld (pv 0) rfl) (pa_cons (pe_lst pa_nil) pa_nil))) (pg_tup rfl (pgs_cons (pg_fld (pv 0)) (pgs_cons (pg_fld (pv 0)) pgs_nil))))
        (pss_cons (ps_asg (pe_tup (pa_cons (pe_callB call_len_seq (by rfl) T.B.len PySem.boot_len (pa_cons (pe_fld (pv 0) rfl) pa_nil)) (pa_cons pe_int pa_nil))) (pg_tup rfl (pgs_cons (pg_fld (pv 0)) (pgs_cons (pg_fld (pv 0)) pgs_nil))))
        (pss_cons (ps_asg (pe_tup (pa_cons (pe_lst pa_nil) (pa_cons (pe_lst pa_nil) pa_nil))) (pg_tup rfl (pgs_cons (pg_fld (pv 0)) (pgs_cons (pg_fld (pv 0)) pgs_nil))))
        (pss_cons (ps_fld (pv 0) (pe_fld (pv 0) rfl) rfl)
        (pss_one (ps_fld (pv 0) pe_str rfl)))))) pss_nil)
      (pss_cons (ps_expr (pe_meth0 (pv 0) T.cl mM GM hr bM .nil pass0))
      (pss_cons (ps_expr (pe_meth0 (pv 0) T.cl mM GM hr bM .nil pass0))
      (pss_one (ps_if (PW.pt (pw_and (pt_cmpR op_eq (pe_fld (pv 0) rfl) pe_str (nomark _)) (pw_and1 (pt_cmpR op_eq (pe_fld (pv 0) rfl) pe_int (nomark _)))))
        (pss_one (ps_expr (pe_meth0 (pv 0) T.cl mO GO hr1 bO .nil pass0))) pss_nil))))), ?_⟩
    obtain ⟨dx, hp⟩ := hE.1.ins
    refine ⟨fun σ' H' => ∃ ah : Int, σ' = [some (.ref p), some (.int ah)] ∧ H' = H ∧ (e.st = 0 → ah = e.top + 1), ?_, ?_⟩
    · refine ⟨_, rfl, p, C, dx, _, _, rfl, hp, T.cl, T.nN .top, eF_num _ _ .top, _, _, rfl, rfl, rd_isnt T 0 rfl hE.1 hst ?_⟩
      by_cases c : e.st = 0
      · rw [decide_eq_true c]
        exact iteF ⟨_, _, rfl, rfl, _, rfl, rfl, fun _ => Int.add_zero _⟩
      · rw [decide_eq_false c]
        refine iteT (rd_len T .waiting rfl hE.1 ⟨_, _, rfl, rfl, _, rfl, rfl, fun z => absurd z c⟩)
    rintro σ1 H1 ⟨ah, rfl, rfl, hah⟩
    refine ⟨fun σ' H' => ∃ (L1 : LF → Addr), σ' = [some (.ref p), some (.int ah)] ∧ EvAt C H' p L1 (startE e) ∧ Step H1 (own p L) H' (own p L1), ?_, ?_⟩
    · refine rd_is T 0 rfl hE.1 hst ?_
      by_cases c : e.st = 0
      rotate_left
      · rw [decide_eq_false c]
        have es : startE e = e := start_no c
        exact iteF (iteF ⟨L, rfl, by rw [es]; exact hE, Step.refl _ _⟩)
      rw [decide_eq_true c]
      have hah := hah c
      refine iteT (rd_len (Q := fun y H1 => tVar 1 _ H1 fun y2 H2 => rI0 (fun i j => .bl (decide (j < i))) y y2 H2 _) T .back rfl hE.1 ⟨_, rfl, _, _, rfl, rfl, _, rfl, ite2 (fun h => ?_) fun h => ?_⟩)
      rotate_left
      · have h : ¬ ah < ((e.back.length : Nat) : Int) := of_decide_eq_false (by simpa using h)
        have es : startE e = e := if_neg (fun z => by omega)
        exact ⟨L, rfl, by rw [es]; exact hE, Step.refl _ _⟩
      have h : ah < ((e.back.length : Nat) : Int) := of_decide_eq_true h
      -- turning about begins
      refine ⟨_, rfl, p, C, dx, _, _, rfl, hp, T.cl, T.nR .back, eF_row _ _ .back, (by show 0 ≤ sizeLine; decide), fun a1 n1 => ⟨(by show 2 ≤ sizeLine; decide), fun t1 nt1 => ?_⟩⟩
      have s1 := (Same.new (o := .lst []) n1).trans (Same.new (o := .tup [.ref (L .back), .ref a1]) nt1)
      have h2 := hE.1.same s1
      have g1 : upd (upd H1 a1 (.lst [])) t1 (.tup [.ref (L .back), .ref a1]) a1 = some (.lst (([] : List Int).map V.int)) := Same.new nt1 _ _ upd_same
      have pa1 : p ≠ a1 := ne_of_none hp n1
      refine ⟨t1, _, rfl, SqT.of upd_same, rfl, _, _, rfl, rd_gL T .waiting rfl h2 (h2.row .back) fun H3 h3 c3 => ⟨_, _, rfl, rd_gL (xs := []) T .back rfl h3 (c3 _ _ g1 pa1.symm) fun H4 h4 c4 => ⟨rfl, ?_⟩⟩⟩
      obtain ⟨dx4, p4⟩ := h4.ins
      refine ⟨_, rfl, p, C, dx4, _, _, rfl, p4, T.cl, T.nR .waiting, eF_row _ _ .waiting, _, _, rfl, .inl (SqL.of (h4.row .waiting)), ?_⟩
      rw [List.length_map]
      refine ⟨(by show 2 ≤ sizeLine; decide), fun t2 nt2 => ?_⟩
      have s5 := Same.new (o := .tup [.int ((e.back.length : Nat) : Int), .int 0]) nt2
      have h5 := h4.same s5
      refine ⟨t2, _, rfl, SqT.of upd_same, rfl, _, _, rfl, rd_gN T .left _ rfl h5 fun H6 h6 c6 => ⟨_, _, rfl, rd_gN T .good _ rfl h6 fun H7 h7 c7 => ⟨rfl, ?_⟩⟩⟩
      refine ⟨(by show 0 ≤ sizeLine; decide), fun a2 n2 => ⟨(by show 0 ≤ sizeLine; decide), fun a3 n3 => ⟨(by show 2 ≤ sizeLine; decide), fun t3 nt3 => ?_⟩⟩⟩
      have s8 : Same H7 (upd H7 a2 (.lst [])) := Same.new n2
      have s9 : Same (upd H7 a2 (.lst [])) (upd (upd H7 a2 (.lst [])) a3 (.lst [])) := Same.new n3
      have s10 := Same.new (o := .tup [.ref a2, .ref a3]) nt3
      have g2 := s10 _ _ (s9 _ _ (upd_same (H := H7) (a := a2) (o := .lst [])))
      have g3 := s10 _ _ (upd_same (H := upd H7 a2 (.lst [])) (a := a3) (o := .lst []))
      have h10 := ((h7.same s8).same s9).same s10
      obtain ⟨dx10, p10⟩ := h10.ins
      have pa3 : p ≠ a3 := ne_of p10 g3 (by intro q; cases q)
      refine ⟨t3, _, rfl, SqT.of upd_same, rfl, _, _, rfl, rd_gL (xs := []) T .turned rfl h10 g2 fun H11 h11 c11 => ⟨_, _, rfl, rd_gL (xs := []) T .spare rfl h11 (c11 _ _ g3 pa3.symm) fun H12 h12 c12 => ⟨rfl, ?_⟩⟩⟩
      refine rd_setN0 (te := tFld K (tVar 0) "top") T .reading e.top rfl h12 (fun R q => rd_num T .top rfl h12 q) fun H13 h13 c13 => ?_
      refine rd_setS0 T 1 rfl h13 fun H14 h14 c14 => ?_
      have tr : ∀ q o, H1 q = some o → q ≠ p → q ≠ a1 ∧ q ≠ a2 ∧ q ≠ a3 ∧ H14 q = some o := fun q o eq n => by
        have q1 : q ≠ a1 := ne_of_none eq n1
        have e7 := c7 _ _ (c6 _ _ (s5 _ _ (c4 _ _ (c3 _ _ (s1 _ _ eq) n) n)) n) n
        have q2 : q ≠ a2 := ne_of_none e7 n2
        have q3 : q ≠ a3 := ne_of_none (s8 _ _ e7) n3
        exact ⟨q1, q2, q3, c14 _ _ (c13 _ _ (c12 _ _ (c11 _ _ (s10 _ _ (s9 _ _ (s8 _ _ e7))) n) n) n) n⟩
      have r1 : a1 ≠ a2 ∧ a1 ≠ a3 := by
        have e7 := c7 _ _ (c6 _ _ (s5 _ _ (c4 _ _ (c3 _ _ g1 pa1.symm) pa1.symm)) pa1.symm) pa1.symm
        exact ⟨ne_of_none e7 n2, ne_of_none (s8 _ _ e7) n3⟩
      have rB := tr _ _ (hE.1.row .back) (hE.1.ne .back).symm
      have rF := tr _ _ (hE.1.row .front) (hE.1.ne .front).symm
      have nFB : L .front ≠ L .back := fun z => by cases hE.2 _ _ z
      have n23 : a2 ≠ a3 := ne_of_none (upd_same (H := H7)) n3
      have es : startE e = { e with waiting := e.back, back := [], left := (e.back.length : Int), good := 0, turned := [], spare := [], reading := e.top, st := 1 } := if_pos ⟨c, by omega⟩
      refine ⟨setL (setL (setL (setL L .waiting (L .back)) .back a1) .turned a2) .spare a3, rfl, ⟨by rw [es]; exact h14, fun x y ez => ?_⟩, fun q o eq hq => ?_⟩
      · cases x <;> cases y <;> first | rfl | exact absurd ez nFB | exact absurd ez.symm nFB | exact absurd ez rB.1 | exact absurd ez.symm rB.1 | exact absurd ez rB.2.1 | exact absurd ez.symm rB.2.1 | exact absurd ez rB.2.2.1 | exact absurd ez.symm rB.2.2.1 | exact absurd ez rF.1 | exact absurd ez.symm rF.1 | exact absurd ez rF.2.1 | exact absurd ez.symm rF.2.1 | exact absurd ez rF.2.2.1 | exact absurd ez.symm rF.2.2.1 | exact absurd ez r1.1 | exact absurd ez.symm r1.1 | exact absurd ez r1.2 | exact absurd ez.symm r1.2 | exact absurd ez n23 | exact absurd ez.symm n23
      · have qp : q ≠ p := fun z => hq (mem_own.mpr (.inl z))
        have r := tr q o eq qp
        refine ⟨r.2.2.2, fun z => ?_⟩
        rcases mem_own.mp z with z | ⟨x, z⟩
        · exact qp z
        · cases x with
          | front => exact hq (mem_own.mpr (.inr ⟨.front, z⟩))
          | back => exact r.1 z
          | waiting => exact hq (mem_own.mpr (.inr ⟨.back, z⟩))
          | turned => exact r.2.1 z
          | spare => exact r.2.2.1 z
    rintro σ2 H2 ⟨L1, rfl, h1, st1⟩
    refine rd_move (p := p) rfl h1 ck.ok1 fun H3 L3 h3 st3 => ?_
    refine rd_move (p := p) rfl h3 ck.ok2 fun H4 L4 h4 st4 => ?_
    have st14 := (st1.trans st3).trans st4
    have hs4 : (moveE (moveE (startE e))).st ≤ 2 := by
      have := ck.ok2.st
      generalize moveE (startE e) = u at this ⊢
      unfold moveE
      split
      · split
        · exact this
        · exact Nat.le_refl 2
      · split
        · split
          · exact this
          · exact Nat.zero_le 2
        · exact this
    refine rd_is T 2 rfl h4.1 hs4 ?_
    by_cases c : (moveE (moveE (startE e))).st = 2
    · rw [decide_eq_true c]
      refine iteT (rd_tN T .good rfl h4.1 ⟨rfl, _, rfl, ite2 (fun h => ?_) fun h => ?_⟩)
      · have h : (moveE (moveE (startE e))).good = 0 := V.int.inj (of_decide_eq_true h)
        refine rd_done (p := p) rfl h4 fun H5 L5 h5 st5 => ?_
        refine k H5 L5 ?_ (st14.trans st5)
        rw [check_done ⟨c, h⟩]
        exact h5
      · have h : ¬ (moveE (moveE (startE e))).good = 0 := fun z => h (decide_eq_true (congrArg V.int z))
        refine k H4 L4 ?_ st14
        rw [check_stop (fun z => h z.2)]
        exact h4
    · rw [decide_eq_false c]
      refine iteF (iteF (k H4 L4 ?_ st14))
      rw [check_stop (fun z => c z.1)]
      exact h4
end
end Hf
/-! ## the law's deeds -/
namespace Hf
open PySem PySem.Spec PyProof.Rows L2
/-! ### how large -/
theorem bits_pow {n : Int} : n.natAbs < 2 ^ Builtin.Int.intBits n := by
  unfold Builtin.Int.intBits
  split
  · rename_i h
    have : n = 0 := by simpa using h
    subst this
    decide
  · exact Nat.lt_log2_self
theorem bd_mono {n : Int} {a b : Nat} (h : n.natAbs < 2 ^ a) (l : a ≤ b) : n.natAbs < 2 ^ b := Nat.lt_of_lt_of_le h (Nat.pow_le_pow_right (by decide) l)
theorem bd_add {x y : Int} {a : Nat} (hx : x.natAbs < 2 ^ a) (hy : y.natAbs < 2 ^ a) : (x + y).natAbs < 2 ^ (a + 1) := by
  have h := Int.natAbs_add_le x y
  rw [Nat.pow_succ]
  omega
def spNum : Sp := fun vs H Q _ => ∃ cell at_ whole : Int, vs = [.int cell, .int at_, .int whole] ∧ Builtin.Int.intBits cell ≤ 1048576 ∧ 0 ≤ at_ ∧ at_ < 1000 ∧ ∀ n : Int, Q (.int n) H
abbrev sNum : Stmt := top 14
abbrev sDeeds : Stmt := top 15
structure DTxt (mg : Str → Option Value) : Prop where
  abs : mg "abs" = none
  sum : mg "sum" = none
  enum : mg "enumerate" = none
  int : mg "int" = none
structure Deed where
  kind : Int
  fr : Bool
  thing : Int
def Deed.ok (d : Deed) : Prop := d.kind = 0 ∨ d.kind = 1
def dV (d : Deed) : List V := [.int d.kind, .str (endS d.fr), .int d.thing]
def DeedsAt (H : Hp) (l : Addr) (rs : List Addr) (ds : List Deed) : Prop := H l = some (.lst (rs.map V.ref)) ∧ rs.length = ds.length ∧ ∀ (i : Nat) (r : Addr), rs[i]? = some r → ∃ d, ds[i]? = some d ∧ H r = some (.tup (dV d))
theorem DeedsAt.same {H H' : Hp} {l : Addr} {rs : List Addr} {ds : List Deed} (h : DeedsAt H l rs ds) (s : Same H H') : DeedsAt H' l rs ds :=
  ⟨s _ _ h.1, h.2.1, fun i r e => let ⟨d, e1, e2⟩ := h.2.2 i r e; ⟨d, e1, s _ _ e2⟩⟩
/-- as long as neither the list nor the deeds are the object's own -/
theorem DeedsAt.step {H H' : Hp} {A A' : List Addr} {l : Addr} {rs : List Addr} {ds : List Deed} (h : DeedsAt H l rs ds) (s : Step H A H' A') (hl : l ∉ A) (hr : ∀ r ∈ rs, r ∉ A) : DeedsAt H' l rs ds :=
  ⟨(s _ _ h.1 hl).1, h.2.1, fun i r e => let ⟨d, e1, e2⟩ := h.2.2 i r e; ⟨d, e1, (s _ _ e2 (hr r (List.mem_of_getElem? e))).1⟩⟩
def spDeeds (K : PySem.W.Frag) : Sp := fun vs H Q _ => ∃ (a : Addr) (ns : List Int) (by_ : Int), vs = [.ref a, .int by_] ∧ SqL K H a (ns.map V.int) ∧ ns.length ≤ 63 ∧ (∀ n ∈ ns, Builtin.Int.intBits n ≤ 1048576) ∧ 0 ≤ by_ ∧ by_ ≤ 10 ∧
  ∀ (H' : Hp) (l : Addr) (rs : List Addr) (ds : List Deed), Same H H' → DeedsAt H' l rs ds → H l = none → (∀ r ∈ rs, H r = none) → (∀ d ∈ ds, d.ok) → ds.length ≤ 128 → Q (.ref l) H'
section
variable {P : Program} {w : World} {K : PySem.W.Frag} {mg : Str → Option Value} {base : Heap}
theorem scNum : FnScope ["_law_cell", "_law_at", "_law_whole", "_law_blend", "_law_more"] ["_law_cell", "_law_at", "_law_whole"] (defScope sNum) := ⟨rfl, rfl, rfl, by decide +kernel, rfl, by decide +kernel, by decide +kernel⟩
theorem ok_num {f : Addr} {fd : FuncData} (F : Fun K "_law_number" "_law_number" sNum f fd) : FnOk P w K mg base CX0 1 f fd ["_law_cell", "_law_at", "_law_whole"] spNum := by
  refine F.ok scNum (fun vs H Q E h => ?_) (fun cdv A outer s H vs Q E hr h => ?_)
  · obtain ⟨c, a, w, rfl, _⟩ := h
    rfl
  · obtain ⟨c, a, w, rfl, hb, h0, h1, k⟩ := h
    refine ⟨_, pss_cons (ps_if (pt_cmpR op_ge (pv 0) (pe_op op_pow pe_int pe_int) (nomark _)) (pss_one (ps_ret (pe_op op_fdiv (pv 0) (pe_op op_add pe_int (pe_op op_mod (pv 1) pe_int))))) pss_nil)
      (pss_cons (ps_set (i := 3) scNum.nd rfl (Or.inl rfl) (pe_op op_mod (pe_op op_add (pe_op op_mul (pe_op op_add (pv 0) (pe_op op_mul pe_int (pv 1))) pe_int) (pv 2)) pe_int))
      (pss_cons (ps_set (i := 4) scNum.nd rfl (Or.inl rfl) (pe_op op_mul (pv 3) (pe_op op_add (pe_op op_add (pv 0) (pe_op op_mul pe_int (pv 1))) pe_int)))
      (pss_one (ps_ret (pe_op op_fdiv (pe_op op_mul (pe_op op_mulX (pv 4) (pe_op op_add (pe_op op_add (pv 3) (pv 0)) pe_int)) (pe_op op_add (pe_op op_mul (pv 3) (pv 3)) pe_int)) (pe_op op_add pe_int (pv 1))))))), ?_⟩
    refine ⟨_, rfl, _, _, rfl, rfl, ⟨by decide, by decide, by decide⟩, _, _, rfl, rfl, _, rfl, ite2 (fun _ => ?_) fun _ => ?_⟩
    · have h7 := Int.emod_nonneg a (show (7 : Int) ≠ 0 by decide)
      have h8 := Int.emod_lt_of_pos a (show (0 : Int) < 7 by decide)
      exact ⟨_, rfl, _, rfl, _, _, rfl, rfl, (by show (0 : Int) < 7; decide), _, _, rfl, rfl, _, _, rfl, rfl, ⟨by omega, by omega⟩, k _⟩
    · refine ⟨_, rfl, _, rfl, _, _, rfl, rfl, .inl ⟨by decide, by decide⟩, _, _, rfl, rfl, _, _, rfl, rfl, .inr ⟨by decide, by decide⟩, _, rfl, _, _, rfl, rfl, _, _, rfl, rfl, (by show (0 : Int) < 2147483647; decide), ?_⟩
      have hm0 := Int.emod_nonneg ((c + 977 * a) * 48271 + w) (show (2147483647 : Int) ≠ 0 by decide)
      have hm1 := Int.emod_lt_of_pos ((c + 977 * a) * 48271 + w) (show (0 : Int) < 2147483647 by decide)
      generalize hg : ((c + 977 * a) * 48271 + w) % 2147483647 = bl at hm0 hm1
      refine ⟨_, rfl, _, rfl, _, rfl, _, _, rfl, rfl, .inl ⟨by decide, by decide⟩, _, _, rfl, rfl, _, _, rfl, rfl, _, _, rfl, rfl, .inl ⟨by rw [hg]; omega, by rw [hg]; omega⟩, ?_⟩
      have b0 : c.natAbs < 2 ^ (Builtin.Int.intBits c + 40) := bd_mono bits_pow (by omega)
      have sm : ∀ x : Int, x.natAbs < 2 ^ 40 → x.natAbs < 2 ^ (Builtin.Int.intBits c + 40) := fun x hx => bd_mono hx (by omega)
      have e40 : (2 : Nat) ^ 40 = 1099511627776 := by decide
      have b1 : (c + 31 * a + 7).natAbs < 2 ^ (Builtin.Int.intBits c + 40 + 1) := by
        rw [Int.add_assoc]
        exact bd_add b0 (sm _ (by rw [e40]; omega))
      have b2 : (bl * (c + 31 * a + 7)).natAbs < 2 ^ (40 + (Builtin.Int.intBits c + 40 + 1)) := wide_lt (by rw [e40]; omega) b1
      have b3 : (bl + c + 5).natAbs < 2 ^ (Builtin.Int.intBits c + 40 + 1) := by
        rw [show bl + c + 5 = c + (bl + 5) by omega]
        exact bd_add b0 (sm _ (by rw [e40]; omega))
      have hbb : bl * bl < 2 ^ 64 - 11 := by
        have : bl * bl ≤ 2147483647 * 2147483647 := Int.mul_le_mul (by omega) (by omega) hm0 (by decide)
        omega
      have hb0 : 0 ≤ bl * bl := Int.mul_nonneg hm0 hm0
      refine ⟨_, rfl, _, rfl, _, rfl, _, _, rfl, rfl, _, _, rfl, rfl, _, _, rfl, rfl, ?_, _, rfl, _, rfl, _, _, rfl, rfl, .inl ⟨by rw [hg]; omega, by rw [hg]; omega⟩, _, _, rfl, rfl, _, _, rfl, rfl, .inr ⟨by rw [hg]; omega, by rw [hg]; omega⟩, _, rfl, _, _, rfl, rfl, _, _, rfl, rfl, ⟨by omega, by omega⟩, k _⟩
      rw [hg]
      exact mulx_ok b2 b3 (by omega)
/-! ### _law_deeds -/
/-- script[:63] if script != [] else [5] -/
def t_base (K : PySem.W.Frag) : TE := tIf (tTest (tOp (rNeI K) (tVar 0) (tLst tNil))) (tSl (rSlL K) (tVar 0) tNoPart (tPart (tC (.int 63)))) (tLst (tCons (tC (.int 5)) tNil))
theorem cut63 {ns : List Int} (h : ns.length ≤ 63) : cutV (ns.map V.int) none (some (63 : Int)) = ns.map V.int := by
  have e := cut_to (ns.map V.int) 63
  rw [List.take_of_length_le (by rw [List.length_map]; exact h)] at e
  exact e
theorem rd_base {σ : L2.St} {H : Hp} {a : Addr} {ns : List Int} {Q : VK} (h0 : σ[0]? = some (some (.ref a))) (hS : SqL K H a (ns.map V.int)) (hl : ns.length ≤ 63) (hb : ∀ n ∈ ns, Builtin.Int.intBits n ≤ 1048576)
    (k : ∀ (H1 : Hp) (u : Addr) (bs : List Int), Same H H1 → H1 u = some (.lst (bs.map V.int)) → bs.length ≤ 63 → (∀ n ∈ bs, Builtin.Int.intBits n ≤ 1048576) → Q (.ref u) H1) : t_base K σ H Q := by
  refine ⟨_, h0, (by show 0 ≤ sizeLine; decide), fun e ne => ?_⟩
  have s1 := Same.new (o := .lst []) ne
  refine ⟨a, e, ns, [], rfl, rfl, s1.seq hS, SqL.of upd_same, _, rfl, ?_⟩
  by_cases c : ns = []
  · rw [decide_eq_true c]
    refine iteF ⟨(by show 1 ≤ sizeLine; decide), fun u nu => ?_⟩
    exact k _ u [5] (s1.trans (Same.new nu)) upd_same (by decide) (fun n hn => by simp at hn; subst hn; decide)
  · rw [decide_eq_false c]
    refine iteT ⟨_, h0, _, rfl, a, _, rfl, s1.seq hS, fun u nu => ?_⟩
    exact k _ u ns (s1.trans (Same.new nu)) (by rw [upd_same, cut63 hl]) hl hb
theorem scDeeds : FnScope ["_law_script", "_law_by", "_law_cells", "_law_whole", "_law_found", "_law_at", "_law_cell", "_law_number_here", "_law_kind", "_law_end"] ["_law_script", "_law_by"] (defScope sDeeds) := ⟨rfl, rfl, rfl, by decide +kernel, rfl, by decide +kernel, by decide +kernel⟩
theorem item_of {ns : List Int} {i : Nat} {y : V} (hi : (ns.map V.int)[i]? = some y) : ∃ z, ns[i]? = some z ∧ y = V.int z := by
  rw [List.getElem?_map] at hi
  cases e : ns[i]? with
  | none =>
    rw [e] at hi
    cases hi
  | some z =>
    rw [e] at hi
    exact ⟨z, rfl, (Option.some.inj hi).symm⟩
theorem item_ref {rs : List Addr} {i : Nat} {y : V} (hi : (rs.map V.ref)[i]? = some y) : ∃ z, rs[i]? = some z ∧ y = V.ref z := by
  rw [List.getElem?_map] at hi
  cases e : rs[i]? with
  | none =>
    rw [e] at hi
    cases hi
  | some z =>
    rw [e] at hi
    exact ⟨z, rfl, (Option.some.inj hi).symm⟩
theorem kind_at (nh wh : Int) (b c : Bool) : ∃ kd : Int, atI [V.int (nh % 2), V.int (if b then 1 else 0), V.int (nh % 4 / 2), V.int (if c then 1 else 0)] (wh % 4) = some (V.int kd) ∧ (kd = 0 ∨ kd = 1) := by
  have h : wh % 4 = 0 ∨ wh % 4 = 1 ∨ wh % 4 = 2 ∨ wh % 4 = 3 := by omega
  rcases h with h | h | h | h <;> rw [h]
  · exact ⟨nh % 2, rfl, by omega⟩
  · exact ⟨_, rfl, by cases b <;> simp⟩
  · exact ⟨nh % 4 / 2, rfl, by omega⟩
  · exact ⟨_, rfl, by cases c <;> simp⟩
theorem end_at (x : Int) : ∃ fr : Bool, atI [V.str "front", V.str "back"] (x % 2) = some (V.str (endS fr)) := by
  have h : x % 2 = 0 ∨ x % 2 = 1 := by omega
  rcases h with h | h <;> rw [h]
  · exact ⟨true, rfl⟩
  · exact ⟨false, rfl⟩
/-- number // 5 % 2 if whole // 4 % 3 > 0 else whole // 12 % 2 -/
def t_side : TE := tIf (tTest (tOp (rI0 fun i j => .bl (decide (j < i))) (tOp (rI (fun _ j => 0 < j) fun i j => .int (i % j)) (tOp (rI CDiv fun i j => .int (i / j)) (tVar 3) (tC (.int 4))) (tC (.int 3))) (tC (.int 0))))
  (tOp (rI (fun _ j => 0 < j) fun i j => .int (i % j)) (tOp (rI CDiv fun i j => .int (i / j)) (tVar 7) (tC (.int 5))) (tC (.int 2)))
  (tOp (rI (fun _ j => 0 < j) fun i j => .int (i % j)) (tOp (rI CDiv fun i j => .int (i / j)) (tVar 3) (tC (.int 12))) (tC (.int 2)))
theorem rd_side {σ : L2.St} {H : Hp} {wh nh : Int} {Q : VK} (h3 : σ[3]? = some (some (.int wh))) (h7 : σ[7]? = some (some (.int nh))) (k : ∀ x : Int, Q (.int (x % 2)) H) : t_side σ H Q := by
  refine ⟨_, h3, _, _, rfl, rfl, ⟨by decide, by decide⟩, _, _, rfl, rfl, (by show (0 : Int) < 3; decide), _, _, rfl, rfl, _, rfl, ite2 (fun _ => ?_) fun _ => ?_⟩
  · exact ⟨_, h7, _, _, rfl, rfl, ⟨by decide, by decide⟩, _, _, rfl, rfl, (by show (0 : Int) < 2; decide), k _⟩
  · exact ⟨_, h3, _, _, rfl, rfl, ⟨by decide, by decide⟩, _, _, rfl, rfl, (by show (0 : Int) < 2; decide), k _⟩
theorem mem_cells {bs : List Int} {z : Int} (h : z ∈ bs ++ bs ++ [8, 3]) (hb : ∀ n ∈ bs, Builtin.Int.intBits n ≤ 1048576) : Builtin.Int.intBits z ≤ 1048576 := by
  simp at h
  rcases h with h | h | h
  · exact hb z h
  · subst h
    decide
  · subst h
    decide
theorem ok_deeds {f fN : Addr} {fd fdN : FuncData} (F : Fun K "_law_deeds" "_law_deeds" sDeeds f fd) (D : DTxt mg) (FN : Fun K "_law_number" "_law_number" sNum fN fdN) (bN : Binds K fdN ["_law_cell", "_law_at", "_law_whole"] []) (gN : mg "_law_number" = some (.ref fN)) :
    FnOk P w K mg base CX0 2 f fd ["_law_script", "_law_by"] (spDeeds K) := by
  have GN : FnOk P w K mg base CX0 1 fN fdN ["_law_cell", "_law_at", "_law_whole"] spNum := ok_num FN
  refine F.ok scDeeds (fun vs H Q E h => ?_) (fun cdv A outer s H vs Q E hr h => ?_)
  · obtain ⟨a, ns, b, rfl, _⟩ := h
    rfl
  · obtain ⟨a, ns, by_, rfl, hS, hlen, hbits, hby0, hby1, k⟩ := h
    refine ⟨_, pss_cons (ps_set (i := 2) scDeeds.nd rfl (Or.inl rfl) (pe_op op_cat (pe_op op_rep (pe_ifExp (pt_cmpR (op_neI hr.units) (pv 0) (pe_lst pa_nil) (nomark _)) (pe_slice sl_list (pv 0) po_none (po_some pe_int)) (pe_lst (pa_cons pe_int pa_nil))) pe_int) (pe_lst (pa_cons pe_int (pa_cons pe_int pa_nil)))))
      (pss_cons (ps_set (i := 3) scDeeds.nd rfl (Or.inl rfl) (pe_op op_add (pe_callB call_abs (by rfl) D.abs (by decide +kernel) (pa_cons (pe_callB (cr_sum rfl) (by rfl) D.sum (by decide +kernel) (pa_cons (pe_slice sl_list (pv 0) po_none (po_some pe_int)) pa_nil)) pa_nil)) (pv 1)))
      (pss_cons (ps_set (i := 4) scDeeds.nd rfl (Or.inl rfl) (pe_lst pa_nil))
      (pss_cons (ps_for PassesOwn.never rfl (pi_enum (by rfl) D.enum (pa_cons (pv 2) pa_nil)) (pg_tup rfl (pgs_cons (pg_name (i := 5) scDeeds.nd rfl (Or.inl rfl)) (pgs_cons (pg_name (i := 6) scDeeds.nd rfl (Or.inl rfl)) pgs_nil)))
        (pss_cons (ps_set (i := 7) scDeeds.nd rfl (Or.inl rfl) (pe_op op_fdiv (pe_call GN hr rfl gN FN.kp bN .nil pass0 (pa_cons (pv 6) (pa_cons (pe_op op_add (pv 5) (pv 1)) (pa_cons (pv 3) pa_nil)))) pe_int))
        (pss_cons (ps_set (i := 8) scDeeds.nd rfl (Or.inl rfl) (pe_ix ix_tup (pe_tup (pa_cons (pe_op op_mod (pv 7) pe_int) (pa_cons (pe_callTy call_int1 (by rfl) D.int (by decide +kernel) (pa_cons (pe_cmpR op_gt (pe_op op_mod (pv 5) pe_int) pe_int (nomark _)) pa_nil))
            (pa_cons (pe_op op_fdiv (pe_op op_mod (pv 7) pe_int) pe_int) (pa_cons (pe_callTy call_int1 (by rfl) D.int (by decide +kernel) (pa_cons (pe_cmpR op_eq (pe_op op_mod (pv 7) pe_int) pe_int (nomark _)) pa_nil)) pa_nil))))) (pe_op op_mod (pv 3) pe_int) (fun _ _ => rfl)))
        (pss_cons (ps_set (i := 9) scDeeds.nd rfl (Or.inl rfl) (pe_ix ix_tup (pe_tup (pa_cons pe_str (pa_cons pe_str pa_nil))) (pe_ifExp (pt_cmpR op_gt (pe_op op_mod (pe_op op_fdiv (pv 3) pe_int) pe_int) pe_int (nomark _)) (pe_op op_mod (pe_op op_fdiv (pv 7) pe_int) pe_int) (pe_op op_mod (pe_op op_fdiv (pv 3) pe_int) pe_int)) (fun _ _ => rfl)))
        (pss_one (ps_expr (pe_bm PySem.F.plainAttrs_list PySem.F.slot_list_append PySem.F.type_list_append mt_append (pv 4) (pa_cons (pe_tup (pa_cons (pv 8) (pa_cons (pv 9) (pa_cons (pe_op op_add (pe_op op_mulX (pv 6) pe_int) (pv 5)) pa_nil)))) pa_nil))))))))
      (pss_one (ps_ret (pv 4)))))), ?_⟩
    refine rd_base (a := a) rfl hS hlen hbits fun H1 u bs s1 hu hbl hbb => ?_
    refine ⟨u, 2, _, rfl, rfl, hu, by decide, by decide, ?_, fun v nv => ?_⟩
    · rw [List.length_map, sizeLine_eq]
      show bs.length * 2 ≤ _
      omega
    refine ⟨(by show 2 ≤ sizeLine; decide), fun x nx => ?_⟩
    refine ⟨v, x, _, _, rfl, rfl, Same.new nx _ _ upd_same, upd_same, ?_, fun c nc => ?_⟩
    · have e : (List.replicate (2 : Int).toNat (bs.map V.int)).flatten = bs.map V.int ++ bs.map V.int := by
        show (List.replicate 2 (bs.map V.int)).flatten = _
        simp [List.replicate]
      rw [e, sizeLine_eq]
      simp only [List.length_append, List.length_map, List.length_cons, List.length_nil]
      omega
    have s2 : ∀ o, Same H (upd _ c o) := fun o => ((s1.trans (Same.new nv)).trans (Same.new nx)).trans (Same.new nc)
    refine ⟨_, rfl, _, rfl, a, _, rfl, (s2 _).seq hS, fun y ny => ?_⟩
    have s3 : ∀ o, Same H (upd _ y o) := fun o => (s2 _).trans (Same.new ny)
    refine ⟨y, ns, rfl, SqL.of (by rw [upd_same, cut63 hlen]), _, rfl, _, rfl, _, _, rfl, rfl, ?_⟩
    obtain ⟨wh, hwh⟩ : ∃ wh : Int, wh = (if ns.sum < 0 then -ns.sum else ns.sum) + by_ := ⟨_, rfl⟩
    refine ⟨(by show 0 ≤ sizeLine; decide), fun l nl => ?_⟩
    have nl0 : H l = Option.none := (s3 _).free nl
    have e2 : (List.replicate (2 : Int).toNat (bs.map V.int)).flatten ++ [V.int 8, V.int 3] = (bs ++ bs ++ [8, 3]).map V.int := by
      show (List.replicate 2 (bs.map V.int)).flatten ++ [V.int 8, V.int 3] = _
      simp [List.replicate]
    rw [e2] at ny nl ⊢
    generalize hcs : bs ++ bs ++ [8, 3] = cs at ny nl ⊢
    have s4 : ∀ o, Same H (upd _ l o) := fun o => ((((s1.trans (Same.new nv)).trans (Same.new nx)).trans (Same.new nc)).trans (Same.new ny)).trans (Same.new nl)
    have hcl : cs.length ≤ 128 := by
      rw [← hcs]
      simp
      omega
    have hcb : ∀ z ∈ cs, Builtin.Int.intBits z ≤ 1048576 := fun z hz => by
      rw [← hcs] at hz
      exact mem_cells hz hbb
    have hc : ∀ o, (upd _ l o) c = some (.lst (cs.map V.int)) := fun o => Same.new nl _ _ (Same.new ny _ _ upd_same)
    have cl : c ≠ l := ne_of_none (Same.new ny _ _ upd_same) nl
    refine ⟨_, rfl, c, _, rfl, SqL.of (hc _), for_it (walk_enum (K := K) (a := c) (xs := cs.map V.int)) (fun i σ Hc => ∃ (v5 v6 v7 v8 v9 : Option V) (rs : List Addr) (ds : List Deed),
        σ = [some (.ref a), some (.int by_), some (.ref c), some (.int wh), some (.ref l), v5, v6, v7, v8, v9] ∧ Same H Hc ∧ Hc c = some (.lst (cs.map V.int)) ∧ DeedsAt Hc l rs ds ∧ (∀ r ∈ rs, H r = Option.none) ∧ (∀ d ∈ ds, d.ok) ∧ ds.length = i)
      ⟨none, none, none, none, none, [], [], (by rw [hwh]; rfl), s4 _, hc _, ⟨upd_same, rfl, fun i r e => by simp at e⟩, by simp, by simp, rfl⟩ (fun i σ Hc _ ⟨_, _, _, _, _, _, _, _, _, h, _⟩ => SqL.of h) ?_ ?_⟩
    · rintro i x0 σ Hc H' hi ⟨v5, v6, v7, v8, v9, rs, ds, rfl, s5, hcc, hD, hrs, hds, hdl⟩ ⟨T, i0, z0, rfl, nT, rfl, e0, ez⟩
      obtain rfl : V.int (i : Nat) = i0 := Option.some.inj e0
      obtain ⟨z, hz, rfl⟩ := item_of ez
      have hi2 : i < 128 := by
        rw [List.length_map] at hi
        omega
      have s6 : Same Hc (upd Hc T (.tup [.int (i : Nat), .int z])) := Same.new nT
      refine ⟨T, _, rfl, SqT.of upd_same, rfl, _, _, rfl, _, _, rfl, rfl, ?_⟩
      -- the number
      refine ⟨_, rfl, _, rfl, _, rfl, _, _, rfl, rfl, _, rfl, z, _, wh, rfl, hcb z (List.mem_of_getElem? hz), (by omega), (by omega), fun nm => ?_⟩
      refine ⟨_, _, rfl, rfl, ⟨by decide, by decide⟩, ?_⟩
      -- the kind
      refine ⟨_, rfl, _, _, rfl, rfl, (by show (0 : Int) < 2; decide), ?_⟩
      refine ⟨_, rfl, _, _, rfl, rfl, (by show (0 : Int) < 40; decide), _, _, rfl, rfl, .inr ⟨_, rfl, ?_⟩⟩
      refine ⟨_, rfl, _, _, rfl, rfl, (by show (0 : Int) < 4; decide), _, _, rfl, rfl, ⟨by decide, by decide⟩, ?_⟩
      refine ⟨_, rfl, _, _, rfl, rfl, (by show (0 : Int) < 3; decide), rfl, .inr ⟨_, rfl, ?_⟩⟩
      refine ⟨(by show 4 ≤ sizeLine; decide), fun t1 n1 => ?_⟩
      obtain ⟨kd, hk, hk01⟩ := kind_at (nm / 3) wh (decide (25 < ((i : Nat) : Int) % 40)) (decide (V.int (nm / 3 % 3) = V.int 0))
      refine ⟨_, rfl, _, _, rfl, rfl, (by show (0 : Int) < 4; decide), t1, _, _, _, rfl, rfl, SqT.of upd_same, hk, ?_⟩
      -- the end
      refine ⟨(by show 2 ≤ sizeLine; decide), fun t2 n2 => ?_⟩
      refine rd_side (wh := wh) (nh := nm / 3) rfl rfl fun sd => ?_
      obtain ⟨fr, hfr⟩ := end_at sd
      refine ⟨t2, _, _, _, rfl, rfl, SqT.of upd_same, hfr, ?_⟩
      -- the thing, laid into the list
      have s7 : ∀ o, Same Hc (upd _ t2 o) := fun o => (s6.trans (Same.new n1)).trans (Same.new n2)
      refine ⟨_, rfl, .inl ⟨rfl, _, SqL.of (s7 _ _ _ hD.1)⟩, _, rfl, _, rfl, _, rfl, _, _, rfl, rfl, ?_, _, rfl, _, _, rfl, rfl, (by show 3 ≤ sizeLine; decide), fun t3 n3 => ?_⟩
      · have hz2 := hcb z (List.mem_of_getElem? hz)
        show (Builtin.Int.intBits z : Int) + (Builtin.Int.intBits 7 : Int) ≤ 134217728
        have e7 : Builtin.Int.intBits 7 = 3 := by decide
        rw [e7]
        omega
      have s8 : ∀ o, Same Hc (upd _ t3 o) := fun o => (s7 _).trans (Same.new n3)
      have n3c : Hc t3 = Option.none := (s7 _).free n3
      have n3H : H t3 = Option.none := s5.free n3c
      refine ⟨l, _, _, rfl, rfl, s8 _ _ _ hD.1, ?_, ?_⟩
      · rw [List.length_map, hD.2.1, hdl, sizeLine_eq]
        omega
      refine ⟨_, _, _, _, _, rs ++ [t3], ds ++ [⟨kd, fr, z * 7 + ((i : Nat) : Int)⟩], rfl, ?_, ?_, ?_, ?_, ?_, ?_⟩
      · exact Same.upd (s5.trans (s8 _)) nl0
      · rw [upd_ne cl]
        exact s8 _ _ _ hcc
      · refine ⟨by rw [upd_same, List.map_append]; rfl, by rw [List.length_append, List.length_append, hD.2.1]; rfl, fun j r e => ?_⟩
        by_cases hj : j < rs.length
        · rw [List.getElem?_append_left hj] at e
          obtain ⟨d, e1, e3⟩ := hD.2.2 j r e
          refine ⟨d, by rw [List.getElem?_append_left (by rw [← hD.2.1]; exact hj)]; exact e1, ?_⟩
          have hrl : r ≠ l := ne_of e3 hD.1 (by intro q; cases q)
          rw [upd_ne hrl]
          exact s8 _ _ _ e3
        · have hj2 : j = rs.length := by
            have := (List.getElem?_eq_some_iff.mp e).1
            rw [List.length_append] at this
            simp at this
            omega
          subst hj2
          rw [List.getElem?_append_right (Nat.le_refl _), Nat.sub_self] at e
          obtain rfl : t3 = r := Option.some.inj e
          refine ⟨⟨kd, fr, z * 7 + ((i : Nat) : Int)⟩, ?_, ?_⟩
          · rw [List.getElem?_append_right (by rw [hD.2.1]; exact Nat.le_refl _), hD.2.1, Nat.sub_self]
            rfl
          · have h3l : t3 ≠ l := fun q => by
              rw [q, hD.1] at n3c
              cases n3c
            rw [upd_ne h3l, upd_same]
            rfl
      · intro r hr2
        rw [List.mem_append] at hr2
        rcases hr2 with hr2 | hr2
        · exact hrs r hr2
        · simp at hr2
          rw [hr2]
          exact n3H
      · intro d hd
        rw [List.mem_append] at hd
        rcases hd with hd | hd
        · exact hds d hd
        · simp at hd
          rw [hd]
          exact hk01
      · rw [List.length_append, hdl]
        rfl
    · rintro σ Hc ⟨v5, v6, v7, v8, v9, rs, ds, rfl, s5, hcc, hD, hrs, hds, hdl⟩
      rw [List.length_map] at hdl
      exact ⟨_, rfl, k Hc l rs ds s5 hD nl0 hrs hds (by omega)⟩
end
end Hf
/-! ## the defs of Halfline together -/
namespace Hf
open PySem PySem.Spec PyProof.Rows L2
/-- a method of the class at C, by its promise -/
def MethOk (P : Program) (w : World) (K : PySem.W.Frag) (mg : Str → Option Value) (base : Heap) (CX : CXT) (k : Nat) (C : Addr) (m : Str) (ps : List Str) (sp : Sp) : Prop :=
  ∃ (f : Addr) (fd : FuncData), Meth K C m f ∧ Binds K fd ps [] ∧ FnOk P w K mg base CX k f fd ps sp
def InitOk (P : Program) (w : World) (K : PySem.W.Frag) (mg : Str → Option Value) (base : Heap) (C : Addr) (sp : Sp) : Prop :=
  ∃ (f : Addr) (fd : FuncData), Mk K C f ∧ Binds K fd ["self"] [] ∧ FnOk P w K mg base CX0 1 f fd ["self"] sp
def DefOk (P : Program) (w : World) (K : PySem.W.Frag) (mg : Str → Option Value) (base : Heap) (CX : CXT) (k : Nat) (x : Str) (ps : List Str) (sp : Sp) : Prop :=
  ∃ (f : Addr) (fd : FuncData), mg x = some (.ref f) ∧ PySem.W.keepIn K (.ref f) = true ∧ Binds K fd ps [] ∧ FnOk P w K mg base CX k f fd ps sp
/-! ### lists told -/
theorem things_nil {xs ys : List Int} : xs.reverse ++ ys = [] ↔ xs = [] ∧ ys = [] := by simp
theorem put_things (fr : Bool) (xs ys : List Int) (z : Int) : (putX fr xs z).reverse ++ putX (!fr) ys z = if fr then z :: (xs.reverse ++ ys) else xs.reverse ++ ys ++ [z] := by
  cases fr <;> simp [putX]
theorem take_front {xs ys : List Int} (h : xs ≠ [] ∨ ys ≠ []) : xs.reverse ++ ys = takeZ true xs ys :: ((takeX true xs ys).reverse ++ takeY true xs ys) := takeM_things h
theorem take_back {xs ys : List Int} (h : xs ≠ [] ∨ ys ≠ []) : xs.reverse ++ ys = (takeX false xs ys).reverse ++ takeY false xs ys ++ [takeZ false xs ys] := by
  have e := congrArg List.reverse (takeM_things (mine := ys) (theirs := xs) h.symm)
  simp at e
  show xs.reverse ++ ys = (takeM ys xs).2.2.1.reverse ++ (takeM ys xs).2.1 ++ [(takeM ys xs).1]
  rw [e]
  simp
theorem take_len {fr : Bool} {xs ys : List Int} (h : xs ≠ [] ∨ ys ≠ []) : (takeX fr xs ys).length + (takeY fr xs ys).length + 1 = xs.length + ys.length := by
  cases fr with
  | true =>
    have e := congrArg List.length (take_front h)
    simp at e
    omega
  | false =>
    have e := congrArg List.length (take_back h)
    simp at e
    omega
/-- the two rows changed by a deed -/
theorem ne_things {xs ys : List Int} (h : xs.reverse ++ ys ≠ []) : xs ≠ [] ∨ ys ≠ [] := by
  by_cases c : xs = []
  · right
    intro d
    exact h (by rw [c, d]; rfl)
  · exact .inl c
theorem cut_one (xs : List V) : cutV xs (some (1 : Int)) none = xs.drop 1 := cut_from xs 1
theorem cut_but (xs : List V) : cutV xs none (some (-1 : Int)) = xs.dropLast := by
  unfold cutV
  have e : HT.sIx xs.length xs.length (some (-1 : Int)) = xs.length - 1 := by
    unfold HT.sIx
    simp
    omega
  rw [e]
  show (xs.drop 0).take (xs.length - 1 - 0) = xs.dropLast
  rw [List.drop_zero, Nat.sub_zero, List.dropLast_eq_take]
theorem atI_head {x : V} {xs : List V} : atI (x :: xs) (0 : Int) = some x := atI_nat (j := 0) rfl
theorem atI_lastI (xs : List Int) (v : Int) : atI ((xs ++ [v]).map V.int) (-1) = some (V.int v) := by
  rw [List.map_append]
  exact atI_last _ _
theorem kit_ref {K : PySem.W.Frag} {t : Value} {C : Addr} {b : Bool} (hd : PySem.W.hasDictIn K C = true) (ty : PySem.W.typeIn K (.ref C) = some (.type "type")) (self : PySem.W.subIn K t t = some true) (h : PySem.W.subIn K t (.ref C) = some b) : PySem.W.kitOne K t (.ref C) = some b := by
  obtain ⟨cd, hc, _⟩ := PySem.W.any_some hd
  have e2 : ((PySem.W.clsIn K C).isSome && PySem.W.typeIn K (.ref C) == some (.type "type")) = true := by rw [hc, ty] <;> rfl
  unfold PySem.W.kitOne
  by_cases e : (t == Value.ref C) = true
  · have e3 : t = Value.ref C := by simpa using e
    subst e3
    rw [self] at h
    rw [if_pos e]
    exact h
  · rw [if_neg e]
    show (if ((PySem.W.clsIn K C).isSome && PySem.W.typeIn K (.ref C) == some (.type "type")) = true then PySem.W.subIn K t (.ref C) else none) = some b
    rw [if_pos e2]
    exact h
/-- what is known of an error's class, asked by isinstance and by except -/
structure EIs (K : PySem.W.Frag) (CL CT CE CM : Addr) : Prop where
  cT : ExcC K CT
  cE : ExcC K CE
  cM : ExcC K CM
  lT : PySem.W.exmOne K (.ref CT) (.ref CL) = some true
  lE : PySem.W.exmOne K (.ref CE) (.ref CL) = some true
  lM : PySem.W.exmOne K (.ref CM) (.ref CL) = some true
  mT : PySem.W.kitOne K (.ref CM) (.ref CT) = some false
  mE : PySem.W.kitOne K (.ref CM) (.ref CE) = some false
  mM : PySem.W.kitOne K (.ref CM) (.ref CM) = some true
  tT : PySem.W.kitOne K (.ref CT) (.ref CT) = some true
  tE : PySem.W.kitOne K (.ref CT) (.ref CE) = some false
  tM : PySem.W.kitOne K (.ref CT) (.ref CM) = some false
  eT : PySem.W.kitOne K (.ref CE) (.ref CT) = some false
  eE : PySem.W.kitOne K (.ref CE) (.ref CE) = some true
  eM : PySem.W.kitOne K (.ref CE) (.ref CM) = some false
/-! ### the methods called: the reading of a call -/
section
variable {K : PySem.W.Frag} {C CT CE CM : Addr} {H : Hp} {p : Addr} {A : List Addr} {xs ys : List Int} {n : Int}
theorem HalfAt.obj {m : Str} (h : HalfAt C H p A xs ys n) (h1 : (m == "front") = false := by decide +kernel) (h2 : (m == "back") = false := by decide +kernel) (h3 : (m == "steps") = false := by decide +kernel) :
    ∃ dx fs, H p = some (.ins C dx fs) ∧ fs.lookup m = none := by
  obtain ⟨dx, f, b, rfl, e1, _⟩ := h
  exact ⟨dx, _, e1, hF_no _ _ _ h1 h2 h3⟩
theorem HalfAt.fresh (h : HalfAt C H p A xs ys n) {m : Addr} (hm : H m = none) : m ∉ A := fun q => by
  obtain ⟨o, e⟩ := h.trk m q
  rw [hm] at e
  cases e
theorem rd_things {j : Nat} {σ : L2.St} {Q : VK} (h0 : σ[j]? = some (some (.ref p))) (hA : HalfAt C H p A xs ys n) (hl : xs.length + ys.length < 1000000)
    (k : ∀ (H' : Hp) (l : Addr), Same H H' → H l = none → H' l = some (.lst ((xs.reverse ++ ys).map V.int)) → Q (.ref l) H') : tMeth C "things" (spThingsH C) [] E0 (tVar j) tNil σ H Q := by
  obtain ⟨dx, fs, e1, e2⟩ := hA.obj (m := "things")
  exact ⟨_, h0, p, dx, fs, rfl, e1, e2, p, A, xs, ys, n, rfl, hA, hl, k⟩
theorem rd_put {j : Nat} {σ : L2.St} {Q : VK} {t : TA} {fr : Bool} {z : Int} (h0 : σ[j]? = some (some (.ref p))) (hA : HalfAt C H p A xs ys n) (hl : xs.length + ys.length < 1000000)
    (ht : ∀ R : List V → Hp → Prop, R [.str (endS fr), .int z] H → t σ H R)
    (k : ∀ (H' : Hp) (A' : List Addr), HalfAt C H' p A' (putX fr xs z) (putX (!fr) ys z) (n + 1) → Step H A H' A' → Q .non H') : tMeth C "put" (spPutH K C CT CE) [] E0 (tVar j) t σ H Q := by
  obtain ⟨dx, fs, e1, e2⟩ := hA.obj (m := "put")
  exact ⟨_, h0, p, dx, fs, rfl, e1, e2, ht _ ⟨p, A, xs, ys, n, hA, .inl ⟨fr, z, rfl, hl, k⟩⟩⟩
theorem rd_take {j : Nat} {σ : L2.St} {Q : VK} {t : TA} {fr : Bool} (h0 : σ[j]? = some (some (.ref p))) (hA : HalfAt C H p A xs ys n) (hl : xs.length + ys.length < 1000000) (hne : xs ≠ [] ∨ ys ≠ [])
    (ht : ∀ R : List V → Hp → Prop, R [.str (endS fr)] H → t σ H R)
    (k : ∀ (H' : Hp) (A' : List Addr), HalfAt C H' p A' (takeX fr xs ys) (takeY fr xs ys) (n + takeN fr xs ys) → Step H A H' A' → Q (.int (takeZ fr xs ys)) H') : tMeth C "take" (spTakeH K C CE CM) [] E0 (tVar j) t σ H Q := by
  obtain ⟨dx, fs, e1, e2⟩ := hA.obj (m := "take")
  exact ⟨_, h0, p, dx, fs, rfl, e1, e2, ht _ ⟨p, A, xs, ys, n, hA, hl, .inr (.inl ⟨fr, rfl, hne, k⟩)⟩⟩
theorem rd_steps {j : Nat} {σ : L2.St} {Q : VK} (h0 : σ[j]? = some (some (.ref p))) (hA : HalfAt C H p A xs ys n) (k : Q (.int n) H) : tMeth C "steps_so_far" (spStepsH C) [] E0 (tVar j) tNil σ H Q := by
  obtain ⟨dx, fs, e1, e2⟩ := hA.obj (m := "steps_so_far")
  exact ⟨_, h0, p, dx, fs, rfl, e1, e2, p, A, xs, ys, n, rfl, hA, k⟩
theorem rd_halves {j : Nat} {σ : L2.St} {Q : VK} (h0 : σ[j]? = some (some (.ref p))) (hA : HalfAt C H p A xs ys n)
    (k : ∀ (H' : Hp) (t : Addr), Same H H' → H t = none → H' t = some (.tup [.int (xs.length : Int), .int (ys.length : Int)]) → Q (.ref t) H') : tMeth C "halves" (spHalvesH C) [] E0 (tVar j) tNil σ H Q := by
  obtain ⟨dx, fs, e1, e2⟩ := hA.obj (m := "halves")
  exact ⟨_, h0, p, dx, fs, rfl, e1, e2, p, A, xs, ys, n, rfl, hA, k⟩
theorem rd_purse {j : Nat} {σ : L2.St} {Q : VK} (h0 : σ[j]? = some (some (.ref p))) (hA : HalfAt C H p A xs ys n)
    (k : Q (.int (3 * (if (xs.length : Int) - (ys.length : Int) < 0 then -((xs.length : Int) - (ys.length : Int)) else (xs.length : Int) - (ys.length : Int)))) H) : tMeth C "purse" (spPurseH C) [] E0 (tVar j) tNil σ H Q := by
  obtain ⟨dx, fs, e1, e2⟩ := hA.obj (m := "purse")
  exact ⟨_, h0, p, dx, fs, rfl, e1, e2, p, A, xs, ys, n, rfl, hA, k⟩
theorem rd_turn {j : Nat} {σ : L2.St} {Q : VK} (h0 : σ[j]? = some (some (.ref p))) (hA : HalfAt C H p A xs ys n)
    (k : ∀ (H' : Hp) (A' : List Addr), HalfAt C H' p A' ys xs n → Step H A H' A' → Q .non H') : tMeth C "turn" (spTurnH C) [] E0 (tVar j) tNil σ H Q := by
  obtain ⟨dx, fs, e1, e2⟩ := hA.obj (m := "turn")
  exact ⟨_, h0, p, dx, fs, rfl, e1, e2, p, A, xs, ys, n, rfl, hA, k⟩
end
/-- a new Halfline: what stood stays, and is none of its own -/
theorem made_step {C x dx : Addr} {H H1 : Hp} {A : List Addr} (nx : H x = none) (nd : H dx = none)
    (kp : ∀ b o, (upd (upd H dx (.own x)) x (.ins C dx [])) b = some o → b ≠ x → H1 b = some o ∧ b ∉ A) : Step H [] H1 A := fun q o e _ =>
  kp q o (by rw [upd_ne (ne_of_none e nx), upd_ne (ne_of_none e nd)]; exact e) (ne_of_none e nx)
theorem Step.toSame {H H' : Hp} {A : List Addr} (h : Step H [] H' A) : Same H H' := fun q o e => (h q o e (by simp)).1
theorem small_size {n : Nat} (h : n < 1000000) : n ≤ sizeLine := by
  rw [sizeLine_eq]
  omega
end Hf
/-! ## Evenline: put, take, first, things, moved_last -/
namespace Hf
open PySem PySem.Spec PyProof.Rows L2
theorem Good.st2 {e : EV} (h : Good e) : e.st ≤ 2 := by
  cases h with
  | idl a h _ _ _ => rw [h.st]; decide
  | rev n r a h _ _ => rw [h.st]; decide
  | app n j a h _ _ => rw [h.st]; decide
theorem Good.last0 {e : EV} (h : Good e) (v : Int) : Good { e with last := v } := by
  cases h with
  | idl a h hb hT hS => exact .idl a ⟨h.st, h.top, h.len⟩ hb hT hS
  | rev n r a h hr hb => exact .rev n r a ⟨h.st, h.top, h.reading, h.left, h.good, h.ra, h.an, h.len, h.wl, h.spare, h.turned⟩ hr hb
  | app n j a h hj hb => exact .app n j a ⟨h.st, h.top, h.good, h.ja, h.an, h.len, h.wl, h.spare, h.turned⟩ hj hb
section
variable {P : Program} {w : World} {K : PySem.W.Frag} {mg : Str → Option Value} {base : Heap} {C CT CM : Addr}
theorem scVPut : FnScope ["self", "thing"] ["self", "thing"] (defScope sVPut) := ⟨rfl, rfl, rfl, by decide +kernel, rfl, by decide +kernel, by decide +kernel⟩
theorem ok_vput {f fT fC : Addr} {fd fdT fdC : FuncData} (F : Fun K "put" "Evenline.put" sVPut f fd) (T : VTxt K mg C CT CM)
    (FT : Fun K "asked_thing" "asked_thing" sThing fT fdT) (bT : Binds K fdT ["thing"] []) (gT : mg "asked_thing" = some (.ref fT))
    (GC : FnOk P w K mg base CX0 3 fC fdC ["self"] (spCheck C)) (bC : Binds K fdC ["self"] []) (mC : Meth K C "check" fC) :
    FnOk P w K mg base (L2.CX P w) 4 f fd ["self", "thing"] (spPutE K C CT) := by
  have GT : FnOk P w K mg base (L2.CX P w) 1 fT fdT ["thing"] (spThing K CT) := ok_thing FT T.B T.T
  refine F.okX scVPut (fun vs H Q E h => ?_) (fun cdv A outer s H vs Q E hr h => ?_)
  · obtain ⟨p, A, ts, l, hA, ⟨z, rfl, _⟩ | ⟨t, rfl, _⟩⟩ := h <;> rfl
  · have hr1 : Room 1 _ := hr.mono (by decide)
    refine ⟨_, pss_cons (ps_expr (pe_callS GT hr1 rfl gT FT.kp bT (fun σ => passAt (takes_of rfl rfl rfl rfl) σ) (pa_cons (pv 1) pa_nil)))
      (pss_cons (ps_fld (pv 0) pe_int rfl)
      (pss_cons (ps_expr (pe_bm PySem.F.plainAttrs_list PySem.F.slot_list_append PySem.F.type_list_append mt_append (pe_fld (pv 0) rfl) (pa_cons (pv 1) pa_nil)))
      (pss_one (ps_expr (pe_meth0 (pv 0) T.cl mC GC hr bC .nil pass0))))), ?_⟩
    obtain ⟨p, A, ts, l, hA, ⟨z, rfl, hlen, k⟩ | ⟨t, rfl, ht, k⟩⟩ := h
    · obtain ⟨L, e, rfl, hE, hG, hts, hl⟩ := hA
      subst hts
      refine ⟨_, rfl, .inl ⟨z, rfl, ?_⟩⟩
      refine rd_zero (p := p) T .last 0 rfl hE fun H1 h1 s1 => ?_
      have hbk : e.back.length < 1000000 := by
        have := hG.len.1
        omega
      refine rd_app (te := tVar 1) (e1 := e.setN .last 0) (v := z) (p := p) T .back rfl h1 (fun R q => ⟨_, rfl, q H1 h1 (Step.refl _ _)⟩) hbk fun H2 h2 s2 => ?_
      have ck := hG.put z hlen
      refine rd_check (p := p) rfl h2 ck hG.st2 fun H3 L3 h3 s3 => ?_
      exact k H3 (own p L3) _ ⟨L3, _, rfl, h3, ck.good, by rw [ck.same, put_thingsE], rfl⟩ ck.lo (by have := ck.hi; exact this) ((s1.trans s2).trans s3)
    · exact ⟨_, rfl, .inr ⟨t, rfl, ht, k⟩⟩
theorem scVTake : FnScope ["self", "found"] ["self"] (defScope sVTake) := ⟨rfl, rfl, rfl, by decide +kernel, rfl, by decide +kernel, by decide +kernel⟩
theorem ok_vtake {f fC : Addr} {fd fdC : FuncData} (F : Fun K "take" "Evenline.take" sVTake f fd) (T : VTxt K mg C CT CM)
    (GC : FnOk P w K mg base CX0 3 fC fdC ["self"] (spCheck C)) (bC : Binds K fdC ["self"] []) (mC : Meth K C "check" fC) :
    FnOk P w K mg base (L2.CX P w) 4 f fd ["self"] (spTakeE C CM) := by
  refine F.okX scVTake (fun vs H Q E h => ?_) (fun cdv A outer s H vs Q E hr h => ?_)
  · obtain ⟨p, A, ts, l, rfl, _⟩ := h
    rfl
  · refine ⟨_, pss_cons (ps_fld (pv 0) pe_int rfl)
      (pss_cons (ps_if (pt_cmpR op_lt (pe_fld (pv 0) rfl) pe_int (nomark _))
        (pss_one (ps_raise rfl (takes_of rfl rfl rfl rfl) (pmk_own PySem.F.excBase_ValueError T.M.x T.M.g T.M.k (raises_own T.M.b T.M.t) (by exact rfl)))) pss_nil)
      (pss_cons (ps_set (i := 1) scVTake.nd rfl (Or.inl rfl) (pe_ix ix_list (pe_fld (pv 0) rfl) (pe_fld (pv 0) rfl) (fun _ _ => rfl)))
      (pss_cons (ps_fld (pv 0) (pe_op op_sub (pe_fld (pv 0) rfl) pe_int) rfl)
      (C8.pss_cut (ps_if (pt_cmpR op_ne (pe_fld (pv 0) rfl) pe_str (nomark _)) (pss_one (ps_fld (pv 0) (pe_op op_sub (pe_fld (pv 0) rfl) pe_int) rfl)) pss_nil)
      (pss_cons (ps_expr (pe_meth0 (pv 0) T.cl mC GC hr bC .nil pass0)) (pss_one (ps_ret (pv 1)))))))), ?_⟩
    obtain ⟨p, A, ts, l, rfl, ⟨L, e, rfl, hE, hG, hts, hl⟩, hlen, h⟩ := h
    subst hts
    refine rd_zero (p := p) T .last 0 rfl hE fun H1 h1 s1 => ?_
    refine rd_tN T .top rfl h1.1 ⟨_, _, rfl, rfl, _, rfl, ite2 (fun c => ?_) fun c => ?_⟩
    · have c : e.top < 0 := of_decide_eq_true c
      have hn := hG.front.mp c
      rcases h with ⟨_, k⟩ | ⟨z, r, ez, _⟩
      · exact k H1 ⟨L, _, rfl, h1, hG.last0 0, hn, rfl⟩ s1
      · rw [hn] at ez
        cases ez
    · have c : ¬ e.top < 0 := fun z => c (decide_eq_true z)
      have hne : thingsE e ≠ [] := fun z => c (hG.front.mpr z)
      rcases h with ⟨hz, _⟩ | ⟨z, r, ez, k⟩
      · exact absurd hz hne
      have h0 : (0 : Int) ≤ e.top := by omega
      have hfl := hG.len.2.1
      have et := take_thingsE hG h0 (if e.st = 0 then e.good else e.good - 1)
      rw [ez] at et
      injection et with ez1 ez2
      refine rd_at (p := p) T .front .top e.top.toNat rfl h1.1 (by show e.top = _; omega) (by show e.top.toNat < e.front.length; omega) ?_
      refine rd_sub (p := p) T .top 1 rfl h1 fun H2 h2 s2 => ?_
      refine ⟨fun σ' H' => σ' = [some (.ref p), some (.int z)] ∧ EvAt C H' p L { e with last := 0, top := e.top - 1, good := if e.st = 0 then e.good else e.good - 1 } ∧ Step H (own p L) H' (own p L), ?_, ?_⟩
      · refine rd_isnt (p := p) T 0 rfl h2.1 hG.st2 ?_
        by_cases c0 : e.st = 0
        · rw [show decide (((e.setN .last 0).setN .top ((e.setN .last 0).num .top - 1)).st = 0) = true from decide_eq_true c0]
          refine iteF ⟨by rw [ez1]; rfl, ?_, s1.trans s2⟩
          rw [if_pos c0]
          exact h2
        · rw [show decide (((e.setN .last 0).setN .top ((e.setN .last 0).num .top - 1)).st = 0) = false from decide_eq_false c0]
          refine iteT (rd_sub (p := p) T .good 1 rfl h2 fun H3 h3 s3 => ⟨by rw [ez1]; rfl, ?_, (s1.trans s2).trans s3⟩)
          rw [if_neg c0]
          exact h3
      rintro σ3 H3 ⟨rfl, h3, s3⟩
      have ck := hG.take h0 hlen
      refine rd_check (p := p) rfl h3 ck hG.st2 fun H4 L4 h4 s4 => ?_
      refine ⟨_, rfl, k H4 (own p L4) _ ⟨L4, _, rfl, h4, ck.good, ck.same.trans ez2.symm, rfl⟩ ck.lo ck.hi (s3.trans s4)⟩
end
end Hf
/-! ## Evenline: things -/
namespace Hf
open PySem PySem.Spec PyProof.Rows L2
section
variable {P : Program} {w : World} {K : PySem.W.Frag} {mg : Str → Option Value} {base : Heap} {C CT CM : Addr}
theorem scVThings : FnScope ["self", "ahead"] ["self"] (defScope sVThings) := ⟨rfl, rfl, rfl, by decide +kernel, rfl, by decide +kernel, by decide +kernel⟩
theorem ok_vthings {f : Addr} {fd : FuncData} (F : Fun K "things" "Evenline.things" sVThings f fd) (T : VTxt K mg C CT CM) : FnOk P w K mg base CX0 1 f fd ["self"] (spThingsE C) := by
  refine F.ok scVThings (fun vs H Q E h => ?_) (fun cdv A outer s H vs Q E hr h => ?_)
  · obtain ⟨p, A, ts, l, rfl, _⟩ := h
    rfl
  · obtain ⟨p, A, ts, l, rfl, ⟨L, e, rfl, hE, hG, hts, hl⟩, hlen, k⟩ := h
    subst hts
    refine ⟨_, pss_cons (ps_set (i := 1) scVThings.nd rfl (Or.inl rfl) (pe_revL (pe_slice sl_list (pe_fld (pv 0) rfl) po_none (po_some (pe_op op_add (pe_fld (pv 0) rfl) pe_int)))))
      (pss_one (ps_ret (pe_op op_cat (pe_op op_cat (pv 1) (pe_ifExp (pt_cmpR op_ne (pe_fld (pv 0) rfl) pe_str (nomark _)) (pe_fld (pv 0) rfl) (pe_lst pa_nil))) (pe_fld (pv 0) rfl)))), ?_⟩
    obtain ⟨dx, hp⟩ := hE.1.ins
    have hlen1 := hG.len
    refine ⟨_, rfl, p, C, dx, _, _, rfl, hp, T.cl, T.nR .front, eF_row _ _ .front, _, rfl, p, C, dx, _, _, rfl, hp, T.cl, T.nN .top, eF_num _ _ .top, _, _, rfl, rfl, _, rfl, L .front, _, rfl, SqL.of (hE.1.row .front), fun u nu => ?_⟩
    refine ⟨u, _, rfl, SqL.of upd_same, fun v nv => ?_⟩
    have ecut : cutV ((e.row .front).map V.int) none (some (e.top + 1)) = (e.front.take (e.top + 1).toNat).map V.int := by
      have := cut_to ((e.row .front).map V.int) (e.top + 1).toNat
      rw [show (((e.top + 1).toNat : Nat) : Int) = e.top + 1 by omega, ← List.map_take] at this
      exact this
    have s1 := fun o' => (Same.new (o := .lst (cutV ((e.row .front).map V.int) none (some (e.top + 1)))) nu).trans (Same.new (o := o') nv)
    have hv : ∀ o, upd (upd H u o) v (.lst (cutV ((e.row .front).map V.int) none (some (e.top + 1))).reverse) v = some (.lst ((e.front.take (e.top + 1).toNat).reverse.map V.int)) := fun o => by
      rw [upd_same, ecut, List.map_reverse]
    have hE1 := fun o' => hE.same (s1 o')
    have tl : (e.front.take (e.top + 1).toNat).length = (e.top + 1).toNat := by
      rw [List.length_take]
      omega
    refine ⟨_, rfl, rd_isnt (p := p) T 0 rfl (hE1 _).1 hG.st2 ?_⟩
    -- the last sum
    have fin : ∀ (H1 : Hp) (a : Addr) (ws : List Int), Same H H1 → H1 a = some (.lst (((e.front.take (e.top + 1).toNat).reverse ++ ws).map V.int)) → ws = (if e.st = 0 then [] else e.waiting) →
        tFld K (tVar 0) "back" [some (.ref p), some (.ref v)] H1 fun y H2 => rCat (.ref a) y H2 Q := by
      intro H1 a ws s2 ha ew
      have hE2 := hE.same s2
      obtain ⟨dx2, hp2⟩ := hE2.1.ins
      refine rd_row (p := p) T .back rfl hE2.1 ⟨a, L .back, _, _, rfl, rfl, ha, hE2.1.row .back, ?_, fun q nq => ?_⟩
      · refine small_size ?_
        rw [List.length_map, List.length_map, List.length_append, List.length_reverse, tl, ew, show (e.row .back).length = e.back.length from rfl]
        have := hlen1.1
        split at this <;> rename_i c <;> simp [c] <;> omega
      · refine k _ q (s2.trans (Same.new nq)) (s2.free nq) ?_
        rw [upd_same, ← List.map_append]
        unfold thingsE
        rw [ew]
    by_cases c : e.st = 0
    · rw [decide_eq_true c]
      refine iteF ⟨(by show 0 ≤ sizeLine; decide), fun w nw => ?_⟩
      refine ⟨v, w, _, _, rfl, rfl, Same.new nw _ _ (hv _), upd_same, ?_, fun q nq => ?_⟩
      · refine small_size ?_
        rw [List.length_map, List.length_reverse, tl]
        have := hlen1.1
        simp
        omega
      · refine fin _ q [] (((s1 _).trans (Same.new nw)).trans (Same.new nq)) ?_ (by rw [if_pos c])
        rw [upd_same]
        simp
    · rw [decide_eq_false c]
      refine iteT (rd_row (p := p) T .waiting rfl (hE1 _).1 ⟨v, L .waiting, _, _, rfl, rfl, hv _, (hE1 _).1.row .waiting, ?_, fun q nq => ?_⟩)
      · refine small_size ?_
        rw [List.length_map, List.length_map, List.length_reverse, tl]
        have := hlen1.1
        rw [if_neg c] at this
        show _ + e.waiting.length < _
        omega
      · refine fin _ q e.waiting ((s1 _).trans (Same.new nq)) ?_ (by rw [if_neg c])
        rw [upd_same, ← List.map_append]
end
end Hf
namespace Hf
open PySem PySem.Spec PyProof.Rows L2
/-! ### the methods called: the reading of a call -/
section
variable {K : PySem.W.Frag} {C CT CM : Addr} {H : Hp} {p : Addr} {A : List Addr} {ts : List Int} {l : Int}
theorem EvenAt.obj {m : Str} (h : EvenAt C H p A ts l) (hm : (["front", "top", "back", "waiting", "left", "turned", "spare", "reading", "good", "state", "last"] : List Str).all (fun f => !(m == f)) = true := by decide +kernel) :
    ∃ dx fs, H p = some (.ins C dx fs) ∧ fs.lookup m = none := by
  obtain ⟨L, e, rfl, hE, _⟩ := h
  obtain ⟨dx, hp⟩ := hE.1.ins
  exact ⟨dx, _, hp, eF_no _ _ hm⟩
theorem rv_put {j : Nat} {σ : L2.St} {Q : VK} {t : TA} {z : Int} (h0 : σ[j]? = some (some (.ref p))) (hA : EvenAt C H p A ts l) (hl : ts.length < 90000)
    (ht : ∀ R : List V → Hp → Prop, R [.int z] H → t σ H R)
    (k : ∀ (H' : Hp) (A' : List Addr) (l' : Int), EvenAt C H' p A' (ts ++ [z]) l' → 0 ≤ l' → l' ≤ 4 → Step H A H' A' → Q .non H') : tMeth C "put" (spPutE K C CT) [] E0 (tVar j) t σ H Q := by
  obtain ⟨dx, fs, e1, e2⟩ := hA.obj (m := "put")
  exact ⟨_, h0, p, dx, fs, rfl, e1, e2, ht _ ⟨p, A, ts, l, hA, .inl ⟨z, rfl, hl, k⟩⟩⟩
theorem rv_take {j : Nat} {σ : L2.St} {Q : VK} {z : Int} {r : List Int} (h0 : σ[j]? = some (some (.ref p))) (hA : EvenAt C H p A (z :: r) l) (hl : (z :: r).length < 90000)
    (k : ∀ (H' : Hp) (A' : List Addr) (l' : Int), EvenAt C H' p A' r l' → 0 ≤ l' → l' ≤ 4 → Step H A H' A' → Q (.int z) H') : tMeth C "take" (spTakeE C CM) [] E0 (tVar j) tNil σ H Q := by
  obtain ⟨dx, fs, e1, e2⟩ := hA.obj (m := "take")
  exact ⟨_, h0, p, dx, fs, rfl, e1, e2, p, A, _, l, rfl, hA, hl, .inr ⟨z, r, rfl, k⟩⟩
theorem rv_first {j : Nat} {σ : L2.St} {Q : VK} {z : Int} {r : List Int} (h0 : σ[j]? = some (some (.ref p))) (hA : EvenAt C H p A (z :: r) l) (k : Q (.int z) H) : tMeth C "first" (spFirstE C CM) [] E0 (tVar j) tNil σ H Q := by
  obtain ⟨dx, fs, e1, e2⟩ := hA.obj (m := "first")
  exact ⟨_, h0, p, dx, fs, rfl, e1, e2, p, A, _, l, rfl, hA, .inr ⟨z, r, rfl, k⟩⟩
theorem rv_things {j : Nat} {σ : L2.St} {Q : VK} (h0 : σ[j]? = some (some (.ref p))) (hA : EvenAt C H p A ts l) (hl : ts.length < 90000)
    (k : ∀ (H' : Hp) (m : Addr), Same H H' → H m = none → H' m = some (.lst (ts.map V.int)) → Q (.ref m) H') : tMeth C "things" (spThingsE C) [] E0 (tVar j) tNil σ H Q := by
  obtain ⟨dx, fs, e1, e2⟩ := hA.obj (m := "things")
  exact ⟨_, h0, p, dx, fs, rfl, e1, e2, p, A, _, l, rfl, hA, hl, k⟩
theorem rv_moved {j : Nat} {σ : L2.St} {Q : VK} (h0 : σ[j]? = some (some (.ref p))) (hA : EvenAt C H p A ts l) (k : Q (.int l) H) : tMeth C "moved_last" (spMovedE C) [] E0 (tVar j) tNil σ H Q := by
  obtain ⟨dx, fs, e1, e2⟩ := hA.obj (m := "moved_last")
  exact ⟨_, h0, p, dx, fs, rfl, e1, e2, p, A, _, l, rfl, hA, k⟩
end
end Hf
/-! ## two objects side by side -/
namespace Hf
open PySem PySem.Spec PyProof.Rows L2
def Apart (A B : List Addr) : Prop := ∀ x, x ∈ A → x ∉ B
theorem Apart.symm {A B : List Addr} (h : Apart A B) : Apart B A := fun x hb ha => h x ha hb
/-- a deed at the one (A) leaves what is the other's (B) alone -/
theorem Step.apart {H H' : Hp} {A A' B : List Addr} (st : Step H A H' A') (tr : ∀ q, q ∈ B → ∃ o, H q = some o) (ap : Apart B A) : Apart B A' := fun x hx => by
  obtain ⟨o, e⟩ := tr x hx
  exact (st x o e (ap x hx)).2
theorem Step.rest {H H' : Hp} {A A' B : List Addr} (st : Step H A H' A') (ap : Apart B A) : ∀ q o, q ∈ B → H q = some o → H' q = some o := fun q o hq e => (st q o e (ap q hq)).1
theorem Step.left {H H' : Hp} {A A' B : List Addr} (st : Step H A H' A') : Step H (A ++ B) H' (A' ++ B) := fun q o e hq => by
  rw [List.mem_append] at hq
  have h := st q o e fun z => hq (.inl z)
  refine ⟨h.1, ?_⟩
  rw [List.mem_append]
  exact fun z => z.elim h.2 fun z => hq (.inr z)
theorem Step.right {H H' : Hp} {A A' B : List Addr} (st : Step H A H' A') : Step H (B ++ A) H' (B ++ A') := fun q o e hq => by
  rw [List.mem_append] at hq
  have h := st q o e fun z => hq (.inr z)
  refine ⟨h.1, ?_⟩
  rw [List.mem_append]
  exact fun z => z.elim (fun z => hq (.inl z)) h.2
theorem Step.both {H H' : Hp} {A B A' B' : List Addr} (h : Step H A H' A') (g : Step H [] H' B') (hB : B = []) : Step H (A ++ B) H' (A' ++ B') := fun q o e hq => by
  subst hB
  rw [List.append_nil] at hq
  have h1 := h q o e hq
  have h2 := g q o e (by simp)
  exact ⟨h1.1, by rw [List.mem_append]; exact fun z => z.elim h1.2 h2.2⟩
end Hf
/-! ## methods called at what an expression tells -/
namespace Hf
open PySem PySem.Spec PyProof.Rows L2
section
variable {K : PySem.W.Frag} {C CT CE CM : Addr} {H : Hp} {p : Addr} {A : List Addr} {xs ys : List Int} {n : Int} {σ : L2.St} {Q : VK} {te : TE}
theorem rg_things (ht : ∀ R : V → Hp → Prop, R (.ref p) H → te σ H R) (hA : HalfAt C H p A xs ys n) (hl : xs.length + ys.length < 1000000)
    (k : ∀ (H' : Hp) (l : Addr), Same H H' → H l = none → H' l = some (.lst ((xs.reverse ++ ys).map V.int)) → Q (.ref l) H') : tMeth C "things" (spThingsH C) [] E0 te tNil σ H Q := by
  obtain ⟨dx, fs, e1, e2⟩ := hA.obj (m := "things")
  exact ht _ ⟨p, dx, fs, rfl, e1, e2, p, A, xs, ys, n, rfl, hA, hl, k⟩
theorem rg_put {t : TA} {fr : Bool} {z : Int} (ht : ∀ R : V → Hp → Prop, R (.ref p) H → te σ H R) (hA : HalfAt C H p A xs ys n) (hl : xs.length + ys.length < 1000000)
    (ha : ∀ R : List V → Hp → Prop, R [.str (endS fr), .int z] H → t σ H R)
    (k : ∀ (H' : Hp) (A' : List Addr), HalfAt C H' p A' (putX fr xs z) (putX (!fr) ys z) (n + 1) → Step H A H' A' → Q .non H') : tMeth C "put" (spPutH K C CT CE) [] E0 te t σ H Q := by
  obtain ⟨dx, fs, e1, e2⟩ := hA.obj (m := "put")
  exact ht _ ⟨p, dx, fs, rfl, e1, e2, ha _ ⟨p, A, xs, ys, n, hA, .inl ⟨fr, z, rfl, hl, k⟩⟩⟩
theorem rg_take {t : TA} {fr : Bool} (ht : ∀ R : V → Hp → Prop, R (.ref p) H → te σ H R) (hA : HalfAt C H p A xs ys n) (hl : xs.length + ys.length < 1000000) (hne : xs ≠ [] ∨ ys ≠ [])
    (ha : ∀ R : List V → Hp → Prop, R [.str (endS fr)] H → t σ H R)
    (k : ∀ (H' : Hp) (A' : List Addr), HalfAt C H' p A' (takeX fr xs ys) (takeY fr xs ys) (n + takeN fr xs ys) → Step H A H' A' → Q (.int (takeZ fr xs ys)) H') : tMeth C "take" (spTakeH K C CE CM) [] E0 te t σ H Q := by
  obtain ⟨dx, fs, e1, e2⟩ := hA.obj (m := "take")
  exact ht _ ⟨p, dx, fs, rfl, e1, e2, ha _ ⟨p, A, xs, ys, n, hA, hl, .inr (.inl ⟨fr, rfl, hne, k⟩)⟩⟩
end
section
variable {K : PySem.W.Frag} {C CT CM : Addr} {H : Hp} {p : Addr} {A : List Addr} {ts : List Int} {l : Int} {σ : L2.St} {Q : VK} {te : TE}
theorem rw_put {t : TA} {z : Int} (ht : ∀ R : V → Hp → Prop, R (.ref p) H → te σ H R) (hA : EvenAt C H p A ts l) (hl : ts.length < 90000)
    (ha : ∀ R : List V → Hp → Prop, R [.int z] H → t σ H R)
    (k : ∀ (H' : Hp) (A' : List Addr) (l' : Int), EvenAt C H' p A' (ts ++ [z]) l' → 0 ≤ l' → l' ≤ 4 → Step H A H' A' → Q .non H') : tMeth C "put" (spPutE K C CT) [] E0 te t σ H Q := by
  obtain ⟨dx, fs, e1, e2⟩ := hA.obj (m := "put")
  exact ht _ ⟨p, dx, fs, rfl, e1, e2, ha _ ⟨p, A, ts, l, hA, .inl ⟨z, rfl, hl, k⟩⟩⟩
theorem rw_take {z : Int} {r : List Int} (ht : ∀ R : V → Hp → Prop, R (.ref p) H → te σ H R) (hA : EvenAt C H p A (z :: r) l) (hl : (z :: r).length < 90000)
    (k : ∀ (H' : Hp) (A' : List Addr) (l' : Int), EvenAt C H' p A' r l' → 0 ≤ l' → l' ≤ 4 → Step H A H' A' → Q (.int z) H') : tMeth C "take" (spTakeE C CM) [] E0 te tNil σ H Q := by
  obtain ⟨dx, fs, e1, e2⟩ := hA.obj (m := "take")
  exact ht _ ⟨p, dx, fs, rfl, e1, e2, p, A, _, l, rfl, hA, hl, .inr ⟨z, r, rfl, k⟩⟩
theorem rw_things (ht : ∀ R : V → Hp → Prop, R (.ref p) H → te σ H R) (hA : EvenAt C H p A ts l) (hl : ts.length < 90000)
    (k : ∀ (H' : Hp) (m : Addr), Same H H' → H m = none → H' m = some (.lst (ts.map V.int)) → Q (.ref m) H') : tMeth C "things" (spThingsE C) [] E0 te tNil σ H Q := by
  obtain ⟨dx, fs, e1, e2⟩ := hA.obj (m := "things")
  exact ht _ ⟨p, dx, fs, rfl, e1, e2, p, A, _, l, rfl, hA, hl, k⟩
end
end Hf
/-! ## the law k06 -/
namespace Hf
open PySem PySem.Spec PyProof.Rows L2
abbrev sLaw : Stmt := top 16
structure LTxt (mg : Str → Option Value) : Prop where
  zip : mg "zip" = none
def spLaw (K : PySem.W.Frag) : Sp := fun vs H Q _ => ∃ (a : Addr) (ns : List Int), vs = [.ref a] ∧ SqL K H a (ns.map V.int) ∧ ns.length ≤ 63 ∧ (∀ n ∈ ns, Builtin.Int.intBits n ≤ 1048576) ∧ ∀ H', Q (.bl true) H'
/-- an evenline and a halfline with the same things -/
def PairAt (CV C : Addr) (H : Hp) (pe ph : Addr) (O : List Addr) (ts : List Int) : Prop :=
  ∃ (A B : List Addr) (l : Int) (xs ys : List Int) (n : Int), O = A ++ B ∧ EvenAt CV H pe A ts l ∧ HalfAt C H ph B xs ys n ∧ ts = xs.reverse ++ ys ∧ Apart A B
section
variable {CV C : Addr} {H H' : Hp} {pe ph : Addr} {O : List Addr} {ts : List Int}
theorem PairAt.same (h : PairAt CV C H pe ph O ts) (s : Same H H') : PairAt CV C H' pe ph O ts := by
  obtain ⟨A, B, l, xs, ys, n, e, h1, h2, h3⟩ := h
  exact ⟨A, B, l, xs, ys, n, e, h1.same s, h2.same s, h3⟩
theorem PairAt.keep (h : PairAt CV C H pe ph O ts) (s : ∀ q o, q ∈ O → H q = some o → H' q = some o) : PairAt CV C H' pe ph O ts := by
  obtain ⟨A, B, l, xs, ys, n, rfl, h1, h2, h3⟩ := h
  exact ⟨A, B, l, xs, ys, n, rfl, h1.keep fun q o hq => s q o (List.mem_append_left _ hq), h2.keep fun q o hq => s q o (List.mem_append_right _ hq), h3⟩
theorem PairAt.trk (h : PairAt CV C H pe ph O ts) : ∀ q, q ∈ O → ∃ o, H q = some o := by
  obtain ⟨A, B, l, xs, ys, n, rfl, h1, h2, h3⟩ := h
  intro q hq
  exact (List.mem_append.mp hq).elim (h1.trk q) (h2.trk q)
theorem PairAt.fresh (h : PairAt CV C H pe ph O ts) {m : Addr} (hm : H m = none) : m ∉ O := fun q => by
  obtain ⟨o, e⟩ := h.trk m q
  rw [hm] at e
  cases e
end
/-- the two pairs -/
def Both (CV C : Addr) (H : Hp) (e0 e1 h0 h1 : Addr) (O0 O1 : List Addr) (t0 t1 : List Int) : Prop := PairAt CV C H e0 h0 O0 t0 ∧ PairAt CV C H e1 h1 O1 t1 ∧ Apart O0 O1
theorem Both.same {CV C : Addr} {H H' : Hp} {e0 e1 h0 h1 : Addr} {O0 O1 : List Addr} {t0 t1 : List Int} (h : Both CV C H e0 e1 h0 h1 O0 O1 t0 t1) (s : Same H H') : Both CV C H' e0 e1 h0 h1 O0 O1 t0 t1 := ⟨h.1.same s, h.2.1.same s, h.2.2⟩
section
variable {P : Program} {w : World} {K : PySem.W.Frag} {mg : Str → Option Value} {base : Heap} {CV C CT CE CM aE : Addr}
/-- lines[which].put(thing); halves[which].put('back', thing), or both taken -/
def t_deed (K : PySem.W.Frag) (CV C CT CE CM : Addr) : TS := tIfS (tTest (tOp rEq (tVar 5) (tC (.int 0))))
  (tSeq (tDrop (tMeth CV "put" (spPutE K CV CT) [] E0 (tOp (rIxL K) (tVar 2) (tVar 8)) (tCons (tVar 7) tNil))) (tDrop (tMeth C "put" (spPutH K C CT CE) [] E0 (tOp (rIxL K) (tVar 3) (tVar 8)) (tCons (tC (.str "back")) (tCons (tVar 7) tNil)))))
  (tIfS (tTest (tOp (rNeI K) (tMeth C "things" (spThingsH C) [] E0 (tOp (rIxL K) (tVar 3) (tVar 8)) tNil) (tLst tNil)))
    (tIfS (tTest (tOp rNe (tMeth CV "take" (spTakeE CV CM) [] E0 (tOp (rIxL K) (tVar 2) (tVar 8)) tNil) (tMeth C "take" (spTakeH K C CE CM) [] E0 (tOp (rIxL K) (tVar 3) (tVar 8)) (tCons (tC (.str "front")) tNil)))) (tRet (tC (.bl false))) tNext) tNext)
theorem rd_deed {D : Ends} {H : Hp} {σ : L2.St} {pe ph ll hh : Addr} {O : List Addr} {ts : List Int} {kd z w : Int} {es hs : List L2.V} (h2 : σ[2]? = some (some (.ref ll))) (h3 : σ[3]? = some (some (.ref hh))) (h5 : σ[5]? = some (some (.int kd))) (h7 : σ[7]? = some (some (.int z))) (h8 : σ[8]? = some (some (.int w)))
    (hp : PairAt CV C H pe ph O ts) (hll : H ll = some (.lst es)) (hhh : H hh = some (.lst hs)) (hnl : ll ∉ O) (hnh : hh ∉ O) (ee : atI es w = some (.ref pe)) (eh : atI hs w = some (.ref ph)) (hl : ts.length < 80000)
    (k : ∀ (H' : Hp) (O' : List Addr) (ts' : List Int), PairAt CV C H' pe ph O' ts' → Step H O H' O' → ts'.length ≤ ts.length + 1 → D.nx σ H') : t_deed K CV C CT CE CM D σ H := by
  obtain ⟨A, B, l, xs, ys, n, rfl, hE, hH, et, ap⟩ := hp
  have nlA : ll ∉ A := fun q => hnl (List.mem_append_left _ q)
  have nhA : hh ∉ A := fun q => hnh (List.mem_append_left _ q)
  have nhB : hh ∉ B := fun q => hnh (List.mem_append_right _ q)
  have hlx : xs.length + ys.length = ts.length := by
    rw [et]
    simp
  have rE : ∀ (H1 : Hp), H1 ll = some (.lst es) → ∀ R : L2.V → Hp → Prop, R (.ref pe) H1 → tOp (rIxL K) (tVar 2) (tVar 8) σ H1 R := fun H1 g R q => ⟨_, h2, _, h8, ll, _, _, _, rfl, rfl, SqL.of g, ee, q⟩
  have rH : ∀ (H1 : Hp), H1 hh = some (.lst hs) → ∀ R : L2.V → Hp → Prop, R (.ref ph) H1 → tOp (rIxL K) (tVar 3) (tVar 8) σ H1 R := fun H1 g R q => ⟨_, h3, _, h8, hh, _, _, _, rfl, rfl, SqL.of g, eh, q⟩
  refine ⟨_, h5, rfl, _, rfl, ?_⟩
  refine ite2 (fun _ => ?_) fun _ => ?_
  · refine rw_put (te := tOp (rIxL K) (tVar 2) (tVar 8)) (z := z) (rE H hll) hE (by omega) (fun R q => ⟨_, h7, q⟩) fun H1 A1 l1 hE1 _ _ st1 => ?_
    have hH1 := hH.keep (st1.rest ap.symm)
    have ap1 : Apart B A1 := st1.apart hH.trk ap.symm
    refine rg_put (te := tOp (rIxL K) (tVar 3) (tVar 8)) (fr := false) (z := z) (rH H1 (st1 _ _ hhh nhA).1) hH1 (by omega) (fun R q => ⟨_, h7, q⟩) fun H2 B2 hH2 st2 => ?_
    refine k H2 (A1 ++ B2) (ts ++ [z]) ⟨A1, B2, l1, _, _, _, rfl, hE1.keep (st2.rest ap1.symm), hH2, ?_, st2.apart hE1.trk ap1.symm⟩ (st1.left.trans st2.right) (by simp)
    rw [put_things, ← et]
    rfl
  · refine rg_things (te := tOp (rIxL K) (tVar 3) (tVar 8)) (rH H hhh) hH (by omega) fun H1 l1 s1 nl1 hl1 => ?_
    refine ⟨(by show 0 ≤ sizeLine; decide), fun e ne => ?_⟩
    have s2 : ∀ o, Same H (upd H1 e o) := fun o => s1.trans (Same.new ne)
    refine ⟨l1, e, _, [], rfl, rfl, SqL.of (Same.new ne _ _ hl1), SqL.of upd_same, _, rfl, ?_⟩
    by_cases hm0 : xs.reverse ++ ys = []
    · rw [decide_eq_true hm0]
      exact iteF (k _ (A ++ B) ts ⟨A, B, l, xs, ys, n, rfl, hE.same (s2 _), hH.same (s2 _), et, ap⟩ (Step.ofSame (s2 _)) (by omega))
    · rw [decide_eq_false hm0]
      have hne := ne_things hm0
      have et2 := take_front hne
      rw [← et] at et2
      have hE2 := fun o => hE.same (s2 o)
      have hl2 : (takeZ true xs ys :: ((takeX true xs ys).reverse ++ takeY true xs ys)).length < 90000 := by
        rw [← et2]
        omega
      rw [et2] at hE2
      refine iteT (rw_take (te := tOp (rIxL K) (tVar 2) (tVar 8)) (rE _ (s2 _ _ _ hll)) (hE2 _) hl2 fun H3 A3 l3 hE3 _ _ st3 => ?_)
      have hH3 := (hH.same (s2 _)).keep (st3.rest ap.symm)
      have ap3 : Apart B A3 := st3.apart (hH.same (s2 _)).trk ap.symm
      refine rg_take (te := tOp (rIxL K) (tVar 3) (tVar 8)) (fr := true) (rH H3 (st3 _ _ (s2 _ _ _ hhh) nhA).1) hH3 (by omega) hne (fun R q => q) fun H4 B4 hH4 st4 => ?_
      refine ⟨rfl, false, by simp, iteF ?_⟩
      refine k H4 (A3 ++ B4) _ ⟨A3, B4, l3, _, _, _, rfl, hE3.keep (st4.rest ap3.symm), hH4, rfl, st4.apart hE3.trk ap3.symm⟩ (((Step.ofSame (s2 _)).trans st3.left).trans st4.right) ?_
      have := congrArg List.length et2
      simp at this ⊢
      omega
theorem scLaw : FnScope ["_law_script", "_law_by", "_law_lines", "_law_halves", "_law_at", "_law_kind", "_law_end", "_law_thing", "_law_which", "_law_one", "_law_other", "_law_line"] ["_law_script"] (defScope sLaw) := ⟨rfl, rfl, rfl, by decide +kernel, rfl, by decide +kernel, by decide +kernel⟩
theorem ok_law {f : Addr} {fd : FuncData} (F : Fun K "law" "law" sLaw f fd) (T : HTxt K mg C CT CE CM aE) (TV : VTxt K mg CV CT CM) (D : DTxt mg) (L : LTxt mg)
    (GI : InitOk P w K mg base C (spInitH C))
    (GP : MethOk P w K mg base (L2.CX P w) 2 C "put" ["self", "end", "thing"] (spPutH K C CT CE))
    (GT : MethOk P w K mg base (L2.CX P w) 2 C "take" ["self", "end"] (spTakeH K C CE CM))
    (GS : MethOk P w K mg base CX0 1 C "things" ["self"] (spThingsH C))
    (EI : InitOk P w K mg base CV (spInitE CV))
    (EP : MethOk P w K mg base (L2.CX P w) 4 CV "put" ["self", "thing"] (spPutE K CV CT))
    (ET : MethOk P w K mg base (L2.CX P w) 4 CV "take" ["self"] (spTakeE CV CM))
    (ES : MethOk P w K mg base CX0 1 CV "things" ["self"] (spThingsE CV))
    (GD : DefOk P w K mg base CX0 2 "_law_deeds" ["_law_script", "_law_by"] (spDeeds K)) : FnOk P w K mg base CX0 5 f fd ["_law_script"] (spLaw K) := by
  obtain ⟨fI, fdI, MI, bI, GI⟩ := GI
  obtain ⟨fP, fdP, mP, bP, GP⟩ := GP
  obtain ⟨fT, fdT, mT, bT, GT⟩ := GT
  obtain ⟨fS, fdS, mS, bS, GS⟩ := GS
  obtain ⟨fEI, fdEI, MEI, bEI, GEI⟩ := EI
  obtain ⟨fEP, fdEP, mEP, bEP, GEP⟩ := EP
  obtain ⟨fET, fdET, mET, bET, GET⟩ := ET
  obtain ⟨fES, fdES, mES, bES, GES⟩ := ES
  obtain ⟨fD, fdD, gD, kD, bD, GD⟩ := GD
  refine F.ok scLaw (fun vs H Q E h => ?_) (fun cdv A outer s H vs Q E hr h => ?_)
  · obtain ⟨a, ns, rfl, _⟩ := h
    rfl
  · obtain ⟨a, ns, rfl, hS, hlen, hbits, k⟩ := h
    have hr1 : Room 1 _ := hr.mono (by decide)
    have hr2 : Room 2 _ := hr.mono (by decide)
    refine ⟨_, pss_cons (ps_for PassesOwn.never rfl (pi_list (pe_lst (pa_cons pe_int (pa_cons pe_int pa_nil)))) (pg_name (i := 1) scLaw.nd rfl (Or.inl rfl))
        (pss_cons (ps_par (i := 2) (j := 3) rfl scLaw.nd rfl rfl (by decide) rfl rfl (pa_cons (pe_lst (pa_cons (pe_make0 MEI GEI hr2 rfl TV.gC bEI .nil pass0) (pa_cons (pe_make0 MEI GEI hr2 rfl TV.gC bEI .nil pass0) pa_nil)))
            (pa_cons (pe_lst (pa_cons (pe_make0 MI GI hr2 rfl T.gC bI .nil pass0) (pa_cons (pe_make0 MI GI hr2 rfl T.gC bI .nil pass0) pa_nil))) pa_nil)) (by rfl))
        (pss_cons (ps_for PassesOwn.never rfl (pi_enum (by rfl) D.enum (pa_cons (pe_call GD hr2 rfl gD kD bD .nil pass0 (pa_cons (pv 0) (pa_cons (pv 1) pa_nil))) pa_nil))
            (pg_tup rfl (pgs_cons (pg_name (i := 4) scLaw.nd rfl (Or.inl rfl)) (pgs_cons (pg_tup rfl (pgs_cons (pg_name (i := 5) scLaw.nd rfl (Or.inl rfl)) (pgs_cons (pg_name (i := 6) scLaw.nd rfl (Or.inl rfl)) (pgs_cons (pg_name (i := 7) scLaw.nd rfl (Or.inl rfl)) pgs_nil)))) pgs_nil)))
          (C8.pss_cut (ps_set (i := 8) scLaw.nd rfl (Or.inl rfl) (pe_op op_mod (pe_op op_mod (pv 4) pe_int) pe_int))
          (C8.pss_cut (ps_if (pt_cmpR op_eq (pv 5) pe_int (nomark _))
              (pss_cons (ps_expr (pe_meth (pe_ix ix_list (pv 2) (pv 8) (fun _ _ => rfl)) TV.cl mEP GEP hr bEP .nil passL (pa_cons (pv 7) pa_nil)))
              (pss_one (ps_expr (pe_meth (pe_ix ix_list (pv 3) (pv 8) (fun _ _ => rfl)) T.cl mP GP hr2 bP .nil passL (pa_cons pe_str (pa_cons (pv 7) pa_nil))))))
              (pss_one (ps_if (pt_cmpR (op_neI hr.units) (pe_meth0 (pe_ix ix_list (pv 3) (pv 8) (fun _ _ => rfl)) T.cl mS GS hr1 bS .nil pass0) (pe_lst pa_nil) (nomark _))
                (pss_one (ps_if (pt_cmpR op_ne (pe_meth0 (pe_ix ix_list (pv 2) (pv 8) (fun _ _ => rfl)) TV.cl mET GET hr bET .nil passL) (pe_meth (pe_ix ix_list (pv 3) (pv 8) (fun _ _ => rfl)) T.cl mT GT hr2 bT .nil passL (pa_cons pe_str pa_nil)) (nomark _))
                  (pss_one (ps_ret pe_bl)) pss_nil)) pss_nil)))
          (pss_one (ps_for PassesOwn.never rfl (pi_zip (by rfl) L.zip (pa_cons (pv 2) (pa_cons (pv 3) pa_nil))) (pg_tup rfl (pgs_cons (pg_name (i := 9) scLaw.nd rfl (Or.inl rfl)) (pgs_cons (pg_name (i := 10) scLaw.nd rfl (Or.inl rfl)) pgs_nil)))
            (pss_one (ps_if (pt_cmpR (op_neI hr.units) (pe_meth0 (pv 9) TV.cl mES GES hr1 bES .nil pass0) (pe_meth0 (pv 10) T.cl mS GS hr1 bS .nil pass0) (nomark _)) (pss_one (ps_ret pe_bl)) pss_nil)))))))
        (pss_one (ps_if (pt_cmpR (op_neI hr.units) (pe_op op_cat (pe_meth0 (pe_ix ix_list (pv 2) pe_int (fun _ _ => rfl)) TV.cl mES GES hr1 bES .nil pass0) (pe_meth0 (pe_ix ix_list (pv 2) pe_int (fun _ _ => rfl)) TV.cl mES GES hr1 bES .nil pass0))
            (pe_op op_cat (pe_meth0 (pe_ix ix_list (pv 3) pe_int (fun _ _ => rfl)) T.cl mS GS hr1 bS .nil pass0) (pe_meth0 (pe_ix ix_list (pv 3) pe_int (fun _ _ => rfl)) T.cl mS GS hr1 bS .nil pass0)) (nomark _)) (pss_one (ps_ret pe_bl)) pss_nil)))))
      (pss_cons (ps_par (i := 11) (j := 10) rfl scLaw.nd rfl rfl (by decide) rfl rfl (pa_cons (pe_make0 MI GI hr2 rfl T.gC bI .nil pass0) (pa_cons (pe_make0 MI GI hr2 rfl T.gC bI .nil pass0) pa_nil)) (by rfl))
      (pss_cons (ps_expr (pe_meth (pv 11) T.cl mP GP hr2 bP .nil passL (pa_cons pe_str (pa_cons pe_int pa_nil))))
      (pss_one (ps_ret (pe_and (pe_cmpR (op_eqI hr.units) (pe_meth0 (pv 10) T.cl mS GS hr1 bS .nil pass0) (pe_lst pa_nil) (nomark _))
        (pe_one (pe_cmpR (op_eqI hr.units) (pe_meth0 (pv 11) T.cl mS GS hr1 bS .nil pass0) (pe_lst (pa_cons pe_int pa_nil)) (nomark _)))))))), ?_⟩
    refine ⟨(by show 2 ≤ sizeLine; decide), fun g ng => ?_⟩
    refine ⟨g, rfl, ⟨_, SqL.of upd_same⟩, for_list (K := K) (a := g) (xs := [.int 0, .int 1]) (fun i σ Hc => ∃ (v1 v2 v3 v4 v5 v6 v7 v8 v9 v10 v11 : Option L2.V), σ = [some (.ref a), v1, v2, v3, v4, v5, v6, v7, v8, v9, v10, v11] ∧ Same (upd H g (.lst [.int 0, .int 1])) Hc)
      ⟨none, none, none, none, none, none, none, none, none, none, none, rfl, Same.refl _⟩ (fun i σ Hc _ ⟨_, _, _, _, _, _, _, _, _, _, _, _, sg⟩ => SqL.of (sg _ _ upd_same)) ?_ ?_⟩
    · rintro i x σ Hc hi ⟨v1, v2, v3, v4, v5, v6, v7, v8, v9, v10, v11, rfl, sg⟩
      obtain ⟨b, rfl, hb0, hb1⟩ : ∃ b : Int, x = .int b ∧ 0 ≤ b ∧ b ≤ 10 := by
        match i, hi with
        | 0, hi => exact ⟨0, (Option.some.inj hi).symm, by decide, by decide⟩
        | 1, hi => exact ⟨1, (Option.some.inj hi).symm, by decide, by decide⟩
        | i + 2, hi => simp at hi
      have hSc : SqL K Hc a (ns.map V.int) := ((Same.new ng).trans sg).seq hS
      -- the four lines
      intro e0 dx0 n0 nd0 ne0
      refine ⟨e0, dx0, rfl, upd_same, fun H1 A0 hE0 kp0 => ⟨rfl, ?_⟩⟩
      have st0 : Step Hc [] H1 A0 := made_step n0 nd0 kp0
      intro e1 dx1 n1 nd1 ne1
      refine ⟨e1, dx1, rfl, upd_same, fun H2 A1 hE1 kp1 => ⟨rfl, ?_⟩⟩
      have st1 : Step H1 [] H2 A1 := made_step n1 nd1 kp1
      refine ⟨(by show 2 ≤ sizeLine; decide), fun ll nll => ?_⟩
      have s3 := Same.new (o := .lst [.ref e0, .ref e1]) nll
      have gll : upd H2 ll (.lst [.ref e0, .ref e1]) ll = some (.lst [.ref e0, .ref e1]) := upd_same
      generalize upd H2 ll (.lst [.ref e0, .ref e1]) = H3 at s3 gll ⊢
      intro h0 dx2 n2 nd2 ne2
      refine ⟨h0, dx2, rfl, upd_same, fun H4 B0 hH0 kp2 => ⟨rfl, ?_⟩⟩
      have st2 : Step H3 [] H4 B0 := made_step n2 nd2 kp2
      intro h1 dx3 n3 nd3 ne3
      refine ⟨h1, dx3, rfl, upd_same, fun H5 B1 hH1 kp3 => ⟨rfl, ?_⟩⟩
      have st3 : Step H4 [] H5 B1 := made_step n3 nd3 kp3
      refine ⟨(by show 2 ≤ sizeLine; decide), fun hh nhh => ⟨_, _, rfl, ?_⟩⟩
      have s6 := Same.new (o := .lst [.ref h0, .ref h1]) nhh
      have ghh : upd H5 hh (.lst [.ref h0, .ref h1]) hh = some (.lst [.ref h0, .ref h1]) := upd_same
      generalize upd H5 hh (.lst [.ref h0, .ref h1]) = H6 at s6 ghh ⊢
      have sH : Same Hc H6 := ((((st0.toSame.trans st1.toSame).trans s3).trans st2.toSame).trans st3.toSame).trans s6
      have tr : ∀ {Hx : Hp} {X : List Addr}, (∀ q, q ∈ X → ∃ o, Hx q = some o) → ∀ {Hy : Hp} {Y : List Addr}, Step Hx [] Hy Y → Apart X Y := fun t _ _ st x hx => by
        obtain ⟨o, e⟩ := t x hx
        exact (st x o e (by simp)).2
      have a01 : Apart A0 A1 := tr hE0.trk st1
      have hE0' := hE0.same st1.toSame
      have aA0 : Apart A0 B0 := tr (hE0'.same s3).trk st2
      have aA1 : Apart A1 B0 := tr (hE1.same s3).trk st2
      have bA0 : Apart A0 B1 := tr ((hE0'.same s3).same st2.toSame).trk st3
      have bA1 : Apart A1 B1 := tr ((hE1.same s3).same st2.toSame).trk st3
      have bB : Apart B0 B1 := tr hH0.trk st3
      have hll0 : ll ∉ (A0 ++ B0) ++ (A1 ++ B1) := by
        have r1 := hE0'.fresh nll
        have r2 := hE1.fresh nll
        have r3 := (st2 _ _ gll (by simp)).2
        have r4 := (st3 _ _ (st2.toSame _ _ gll) (by simp)).2
        simp [List.mem_append, r1, r2, r3, r4]
      have hhh0 : hh ∉ (A0 ++ B0) ++ (A1 ++ B1) := by
        have r1 := (((hE0'.same s3).same st2.toSame).same st3.toSame).fresh nhh
        have r2 := (((hE1.same s3).same st2.toSame).same st3.toSame).fresh nhh
        have r3 := (hH0.same st3.toSame).fresh nhh
        have r4 := hH1.fresh nhh
        simp [List.mem_append, r1, r2, r3, r4]
      have bo6 : Both CV C H6 e0 e1 h0 h1 (A0 ++ B0) (A1 ++ B1) [] [] := by
        refine ⟨⟨A0, B0, 0, [], [], 0, rfl, (((hE0'.same s3).same st2.toSame).same st3.toSame).same s6, (hH0.same st3.toSame).same s6, rfl, aA0⟩, ⟨A1, B1, 0, [], [], 0, rfl, (((hE1.same s3).same st2.toSame).same st3.toSame).same s6, hH1.same s6, rfl, bA1⟩, fun x hx => ?_⟩
        rw [List.mem_append] at hx ⊢
        intro hy
        rcases hx with hx | hx
        · exact hy.elim (a01 x hx) (bA0 x hx)
        · exact hy.elim (fun z => aA1 x z hx) (bB x hx)
      -- the deeds
      refine ⟨_, rfl, _, rfl, a, ns, b, rfl, sH.seq hSc, hlen, hbits, hb0, hb1, fun H7 l rs ds s7 hD nl nrs hok hdl => ?_⟩
      have bo7 := bo6.same s7
      have fr7 : ∀ m, H6 m = Option.none → m ∉ (A0 ++ B0) ++ (A1 ++ B1) := fun m hm => by
        rw [List.mem_append]
        exact fun z => z.elim (bo6.1.fresh hm) (bo6.2.1.fresh hm)
      have hl7 := fr7 l nl
      have hrs7 : ∀ r ∈ rs, r ∉ (A0 ++ B0) ++ (A1 ++ B1) := fun r hr => fr7 r (nrs r hr)
      have stc : Step Hc [] H7 ((A0 ++ B0) ++ (A1 ++ B1)) := fun q o e _ => by
        have r0 := st0 q o e (by simp)
        have r1 := st1 q o r0.1 (by simp)
        have r2 := st2 q o (s3 _ _ r1.1) (by simp)
        have r3 := st3 q o r2.1 (by simp)
        exact ⟨s7 _ _ (s6 _ _ r3.1), by simp [List.mem_append, r0.2, r1.2, r2.2, r3.2]⟩
      have gll7 := s7 _ _ (s6 _ _ (st3.toSame _ _ (st2.toSame _ _ gll)))
      have ghh7 := s7 _ _ ghh
      generalize A0 ++ B0 = O0 at *
      generalize A1 ++ B1 = O1 at *
      refine ⟨l, _, rfl, SqL.of hD.1, for_it (walk_enum (K := K) (a := l) (xs := rs.map V.ref)) (fun i σ Hd => ∃ (P0 P1 : List Addr) (t0 t1 : List Int) (v4 v5 v6 v7 v8 v9 v10 : Option L2.V),
          σ = [some (.ref a), some (.int b), some (.ref ll), some (.ref hh), v4, v5, v6, v7, v8, v9, v10, v11] ∧ Both CV C Hd e0 e1 h0 h1 P0 P1 t0 t1 ∧ Step H7 (O0 ++ O1) Hd (P0 ++ P1) ∧ t0.length ≤ i ∧ t1.length ≤ i)
        ⟨O0, O1, [], [], v4, v5, v6, v7, v8, v9, v10, rfl, bo7, Step.refl _ _, Nat.le_refl _, Nat.le_refl _⟩ (fun i σ Hd _ ⟨_, _, _, _, _, _, _, _, _, _, _, _, _, st, _⟩ => SqL.of (st _ _ hD.1 hl7).1) ?_ ?_⟩
      · rintro i x0 σ Hd H' hi ⟨P0, P1, t0, t1, w4, w5, w6, w7, w8, w9, w10, rfl, bo, st, ht0, ht1⟩ ⟨Tp, i0, y0, rfl, nT, rfl, e0', ey⟩
        obtain rfl : V.int (i : Nat) = i0 := Option.some.inj e0'
        obtain ⟨r, hr, rfl⟩ := item_ref ey
        obtain ⟨d, hd, hr7⟩ := hD.2.2 i r hr
        have hrd := (st _ _ hr7 (hrs7 r (List.mem_of_getElem? hr))).1
        have hi128 : i < 128 := by
          have := (List.getElem?_eq_some_iff.mp hd).1
          omega
        obtain ⟨kd, fr, z⟩ := d
        have sT : ∀ o, Same Hd (upd Hd Tp o) := fun o => Same.new nT
        refine ⟨Tp, _, rfl, SqT.of upd_same, rfl, _, _, rfl, _, _, rfl, r, _, rfl, SqT.of (sT _ _ _ hrd), rfl, _, _, rfl, _, _, rfl, _, _, rfl, rfl, rfl, ?_⟩
        have bo' := bo.same (sT (.tup [.int (i : Nat), .ref r]))
        have st' := st.same (sT (.tup [.int (i : Nat), .ref r]))
        generalize upd Hd Tp (.tup [.int (i : Nat), .ref r]) = Hd' at *
        refine ⟨fun σ' H' => ∃ w : Int, (w = 0 ∨ w = 1) ∧ H' = Hd' ∧ σ' = [some (.ref a), some (.int b), some (.ref ll), some (.ref hh), some (.int (i : Nat)), some (.int kd), some (.str (endS fr)), some (.int z), some (.int w), w9, w10, v11], ?_, ?_⟩
        · refine ⟨_, rfl, _, _, rfl, rfl, (by show (0 : Int) < 3; decide), _, _, rfl, rfl, (by show (0 : Int) < 2; decide), _, ?_, rfl, rfl⟩
          have h2 := Int.emod_nonneg (((i : Nat) : Int) % 3) (show (2 : Int) ≠ 0 by decide)
          have h3 := Int.emod_lt_of_pos (((i : Nat) : Int) % 3) (show (0 : Int) < 2 by decide)
          omega
        rintro σ1 H1' ⟨w, hw, rfl, rfl⟩
        have gll1 := (st' _ _ gll7 hll0)
        have ghh1 := (st' _ _ ghh7 hhh0)
        have nl0 : ll ∉ P0 ∧ ll ∉ P1 := by
          have := gll1.2
          rw [List.mem_append] at this
          exact ⟨fun z => this (.inl z), fun z => this (.inr z)⟩
        have nh0 : hh ∉ P0 ∧ hh ∉ P1 := by
          have := ghh1.2
          rw [List.mem_append] at this
          exact ⟨fun z => this (.inl z), fun z => this (.inr z)⟩
        -- the deed
        refine ⟨fun σ' H' => ∃ (Q0 Q1 : List Addr) (t0 t1 : List Int), σ' = [some (.ref a), some (.int b), some (.ref ll), some (.ref hh), some (.int (i : Nat)), some (.int kd), some (.str (endS fr)), some (.int z), some (.int w), w9, w10, v11] ∧ Both CV C H' e0 e1 h0 h1 Q0 Q1 t0 t1 ∧ Step H1' (P0 ++ P1) H' (Q0 ++ Q1) ∧ t0.length ≤ i + 1 ∧ t1.length ≤ i + 1, ?_, ?_⟩
        · rcases hw with rfl | rfl
          · refine rd_deed (w := 0) rfl rfl rfl rfl rfl bo'.1 gll1.1 ghh1.1 nl0.1 nh0.1 (atI_nat (j := 0) rfl) (atI_nat (j := 0) rfl) (by omega) fun H2 O2 ts2 hp2 st2 hl2 => ?_
            exact ⟨O2, P1, ts2, t1, rfl, ⟨hp2, bo'.2.1.keep (st2.rest bo'.2.2.symm), (st2.apart bo'.2.1.trk bo'.2.2.symm).symm⟩, st2.left, by omega, by omega⟩
          · refine rd_deed (w := 1) rfl rfl rfl rfl rfl bo'.2.1 gll1.1 ghh1.1 nl0.2 nh0.2 (atI_nat (j := 1) rfl) (atI_nat (j := 1) rfl) (by omega) fun H2 O2 ts2 hp2 st2 hl2 => ?_
            exact ⟨P0, O2, t0, ts2, rfl, ⟨bo'.1.keep (st2.rest bo'.2.2), hp2, st2.apart bo'.1.trk bo'.2.2⟩, st2.right, by omega, by omega⟩
        rintro σ2 H2' ⟨Q0, Q1, t0, t1, rfl, bo2, st2, ht0, ht1⟩
        have gll2 := (st2 _ _ gll1.1 gll1.2).1
        have ghh2 := (st2 _ _ ghh1.1 ghh1.2).1
        -- both tell the same
        refine ⟨_, rfl, _, rfl, ll, hh, _, _, rfl, SqL.of gll2, SqL.of ghh2, for_it (walk_zip (K := K) (a := ll) (b := hh) (xs := [.ref e0, .ref e1]) (ys := [.ref h0, .ref h1]) (n := 2) rfl) (fun j σ He => ∃ (v9 v10 : Option L2.V),
            σ = [some (.ref a), some (.int b), some (.ref ll), some (.ref hh), some (.int (i : Nat)), some (.int kd), some (.str (endS fr)), some (.int z), some (.int w), v9, v10, v11] ∧ Same H2' He)
          ⟨w9, w10, rfl, Same.refl _⟩ (fun j σ He _ ⟨_, _, _, s⟩ => ⟨SqL.of (s _ _ gll2), SqL.of (s _ _ ghh2)⟩) ?_ ?_⟩
        · rintro j x1 σ He H'' hj ⟨u9, u10, rfl, s3⟩ ⟨Tq, i1, y1, rfl, nTq, rfl, ez, ey1⟩
          have sq : ∀ o, Same H2' (upd He Tq o) := fun o => s3.trans (Same.new nTq)
          obtain ⟨pe, ph, O, ts, rfl, rfl, hp, hl⟩ : ∃ (pe ph : Addr) (O : List Addr) (ts : List Int), i1 = .ref pe ∧ y1 = .ref ph ∧ PairAt CV C H2' pe ph O ts ∧ ts.length ≤ i + 1 := by
            match j, hj, ez, ey1 with
            | 0, _, ez, ey1 => exact ⟨e0, h0, Q0, t0, (Option.some.inj ez).symm, (Option.some.inj ey1).symm, bo2.1, ht0⟩
            | 1, _, ez, ey1 => exact ⟨e1, h1, Q1, t1, (Option.some.inj ez).symm, (Option.some.inj ey1).symm, bo2.2.1, ht1⟩
          obtain ⟨A, B, l, xs, ys, n, rfl, hE, hH, et, ap⟩ := hp
          have hlx : xs.length + ys.length = ts.length := by
            rw [et]
            simp
          refine ⟨Tq, _, rfl, SqT.of upd_same, rfl, _, _, rfl, _, _, rfl, rfl, ?_⟩
          refine rv_things (p := pe) rfl (hE.same (sq _)) (by omega) fun H3 l3 s4 nl3 hl3 => ?_
          refine rd_things (p := ph) rfl ((hH.same (sq _)).same s4) (by omega) fun H5 l5 s5 nl5 hl5 => ?_
          refine ⟨l3, l5, ts, xs.reverse ++ ys, rfl, rfl, SqL.of (s5 _ _ hl3), SqL.of hl5, false, by rw [et]; simp, iteF ?_⟩
          exact ⟨_, _, rfl, ((sq _).trans s4).trans s5⟩
        · rintro σ He ⟨u9, u10, rfl, s3⟩
          exact ⟨Q0, Q1, t0, t1, _, _, _, _, _, _, _, rfl, bo2.same s3, (st'.trans st2).same s3, ht0, ht1⟩
      · rintro σ He ⟨P0, P1, t0, t1, w4, w5, w6, w7, w8, w9, w10, rfl, bo, st, ht0, ht1⟩
        have hds : rs.length ≤ 128 := by
          rw [hD.2.1]
          omega
        rw [List.length_map] at ht0 ht1
        have gll8 := (st _ _ gll7 hll0).1
        have ghh8 := (st _ _ ghh7 hhh0).1
        obtain ⟨⟨A, B, lm, xs, ys, n, rfl, hE, hH, et, ap⟩, ⟨A', B', lm', xs', ys', n', rfl, hE', hH', et', ap'⟩, apO⟩ := bo
        have hlx : xs.length + ys.length = t0.length := by
          rw [et]
          simp
        have hlx' : xs'.length + ys'.length = t1.length := by
          rw [et']
          simp
        refine rw_things (te := tOp (rIxL K) (tVar 2) (tC (.int 0))) (p := e0) (fun R q => ⟨_, rfl, ll, _, _, _, rfl, rfl, SqL.of gll8, atI_nat (j := 0) rfl, q⟩) hE (by omega) fun H1 l1 s1 nl1 hl1 => ?_
        refine rw_things (te := tOp (rIxL K) (tVar 2) (tC (.int 1))) (p := e1) (fun R q => ⟨_, rfl, ll, _, _, _, rfl, rfl, SqL.of (s1 _ _ gll8), atI_nat (j := 1) rfl, q⟩) (hE'.same s1) (by omega) fun H2 l2 s2 nl2 hl2 => ?_
        refine ⟨l1, l2, _, _, rfl, rfl, s2 _ _ hl1, hl2, (by refine small_size ?_; rw [List.length_map, List.length_map]; omega), fun q1 nq1 => ?_⟩
        have s3 := Same.new (o := .lst (t0.map V.int ++ t1.map V.int)) nq1
        have gq1 : upd H2 q1 (.lst (t0.map V.int ++ t1.map V.int)) q1 = some (.lst ((t0 ++ t1).map V.int)) := by rw [upd_same, List.map_append]
        generalize upd H2 q1 (.lst (t0.map V.int ++ t1.map V.int)) = H3 at s3 gq1 ⊢
        have s13 := (s1.trans s2).trans s3
        refine rg_things (te := tOp (rIxL K) (tVar 3) (tC (.int 0))) (p := h0) (fun R q => ⟨_, rfl, hh, _, _, _, rfl, rfl, SqL.of (s13 _ _ ghh8), atI_nat (j := 0) rfl, q⟩) (hH.same s13) (by omega) fun H4 l4 s4 nl4 hl4 => ?_
        refine rg_things (te := tOp (rIxL K) (tVar 3) (tC (.int 1))) (p := h1) (fun R q => ⟨_, rfl, hh, _, _, _, rfl, rfl, SqL.of (s4 _ _ (s13 _ _ ghh8)), atI_nat (j := 1) rfl, q⟩) ((hH'.same s13).same s4) (by omega) fun H5 l5 s5 nl5 hl5 => ?_
        refine ⟨l4, l5, _, _, rfl, rfl, s5 _ _ hl4, hl5, (by refine small_size ?_; simp; omega), fun q2 nq2 => ?_⟩
        have s6' : ∀ o, Same H5 (upd H5 q2 o) := fun o => Same.new nq2
        refine ⟨q1, q2, t0 ++ t1, (xs.reverse ++ ys) ++ (xs'.reverse ++ ys'), rfl, rfl, SqL.of (s6' _ _ _ (s5 _ _ (s4 _ _ gq1))), SqL.of (by rw [upd_same, ← List.map_append]), false, by rw [et, et']; simp, iteF ?_⟩
        refine ⟨_, _, _, _, _, _, _, _, _, _, _, rfl, sg.trans ?_⟩
        exact ((stc.trans st).toSame.trans s13).trans ((s4.trans s5).trans (s6' _))
    · rintro σ Hc ⟨v1, v2, v3, v4, v5, v6, v7, v8, v9, v10, v11, rfl, sg⟩
      intro p dx np ndx ne
      refine ⟨p, dx, rfl, upd_same, fun H1 B1 hB1 kp => ⟨rfl, ?_⟩⟩
      intro q dy nq ndy ney
      refine ⟨q, dy, rfl, upd_same, fun H2 B2 hB2 kp2 => ⟨rfl, _, _, rfl, ?_⟩⟩
      have st2 : Step H1 [] H2 B2 := made_step nq ndy kp2
      have hB1' := hB1.same st2.toSame
      have ap : Apart B1 B2 := fun x hx => by
        obtain ⟨o, e⟩ := hB1.trk x hx
        exact (st2 x o e (by simp)).2
      refine rd_put (p := p) (fr := true) (z := 1) rfl hB1' (by decide) (fun R q => q) fun H3 B3 hB3 st3 => ?_
      have hB2' := hB2.keep (st3.rest ap.symm)
      refine rd_things (p := q) rfl hB2' (by decide) fun H4 l4 s4 nl4 hl4 => ?_
      refine ⟨(by show 0 ≤ sizeLine; decide), fun u nu => ?_⟩
      have s5 : ∀ o, Same H4 (upd H4 u o) := fun o => Same.new nu
      refine ⟨l4, u, [], [], rfl, rfl, SqL.of (s5 _ _ _ hl4), SqL.of upd_same, true, rfl, iteT ?_⟩
      refine rd_things (p := p) rfl ((hB3.same s4).same (s5 _)) (by decide) fun H6 l6 s6 nl6 hl6 => ?_
      refine ⟨(by show 1 ≤ sizeLine; decide), fun u2 nu2 => ?_⟩
      have s7 : ∀ o, Same H6 (upd H6 u2 o) := fun o => Same.new nu2
      refine ⟨l6, u2, [1], [1], rfl, rfl, SqL.of (s7 _ _ _ hl6), SqL.of upd_same, ?_⟩
      exact k _
end
end Hf
/-! ## the end -/
namespace Hf
open PySem PySem.Spec PyProof.Rows L2
theorem all_mk {P : Program} {w : World} {K : PySem.W.Frag} {h : Heap} {mg : Str → Option Value} {fa C V CT CE CM f_h_init f_h_put f_h_lay_over f_h_take f_h_things f_v_init f_v_move f_v_done f_v_check f_v_put f_v_take f_v_things f_d_asked_thing f_d_asked_end f_d_law_number f_d_law_deeds f_d_law aE : Addr}
    {odE : Option Addr} {tE1 tE2 : Tok} {nE : Nat} {slE : Array (Option Value)}
    {oc_h_init kV_h_init dc_h_init pm_h_init cd_h_init ct_h_init : Value} {od_h_init an_h_init : Option Addr} {sl_h_init : Array (Option Value)}
    {oc_h_put kV_h_put dc_h_put pm_h_put cd_h_put ct_h_put : Value} {od_h_put an_h_put : Option Addr} {sl_h_put : Array (Option Value)}
    {oc_h_lay_over kV_h_lay_over dc_h_lay_over pm_h_lay_over cd_h_lay_over ct_h_lay_over : Value} {od_h_lay_over an_h_lay_over : Option Addr} {sl_h_lay_over : Array (Option Value)}
    {oc_h_take kV_h_take dc_h_take pm_h_take cd_h_take ct_h_take : Value} {od_h_take an_h_take : Option Addr} {sl_h_take : Array (Option Value)}
    {oc_h_things kV_h_things dc_h_things pm_h_things cd_h_things ct_h_things : Value} {od_h_things an_h_things : Option Addr} {sl_h_things : Array (Option Value)}
    {oc_v_init kV_v_init dc_v_init pm_v_init cd_v_init ct_v_init : Value} {od_v_init an_v_init : Option Addr} {sl_v_init : Array (Option Value)}
    {oc_v_move kV_v_move dc_v_move pm_v_move cd_v_move ct_v_move : Value} {od_v_move an_v_move : Option Addr} {sl_v_move : Array (Option Value)}
    {oc_v_done kV_v_done dc_v_done pm_v_done cd_v_done ct_v_done : Value} {od_v_done an_v_done : Option Addr} {sl_v_done : Array (Option Value)}
    {oc_v_check kV_v_check dc_v_check pm_v_check cd_v_check ct_v_check : Value} {od_v_check an_v_check : Option Addr} {sl_v_check : Array (Option Value)}
    {oc_v_put kV_v_put dc_v_put pm_v_put cd_v_put ct_v_put : Value} {od_v_put an_v_put : Option Addr} {sl_v_put : Array (Option Value)}
    {oc_v_take kV_v_take dc_v_take pm_v_take cd_v_take ct_v_take : Value} {od_v_take an_v_take : Option Addr} {sl_v_take : Array (Option Value)}
    {oc_v_things kV_v_things dc_v_things pm_v_things cd_v_things ct_v_things : Value} {od_v_things an_v_things : Option Addr} {sl_v_things : Array (Option Value)}
    {oc_d_asked_thing kV_d_asked_thing dc_d_asked_thing pm_d_asked_thing cd_d_asked_thing ct_d_asked_thing : Value} {od_d_asked_thing an_d_asked_thing : Option Addr} {sl_d_asked_thing : Array (Option Value)}
    {oc_d_asked_end kV_d_asked_end dc_d_asked_end pm_d_asked_end cd_d_asked_end ct_d_asked_end : Value} {od_d_asked_end an_d_asked_end : Option Addr} {sl_d_asked_end : Array (Option Value)}
    {oc_d_law_number kV_d_law_number dc_d_law_number pm_d_law_number cd_d_law_number ct_d_law_number : Value} {od_d_law_number an_d_law_number : Option Addr} {sl_d_law_number : Array (Option Value)}
    {oc_d_law_deeds kV_d_law_deeds dc_d_law_deeds pm_d_law_deeds cd_d_law_deeds ct_d_law_deeds : Value} {od_d_law_deeds an_d_law_deeds : Option Addr} {sl_d_law_deeds : Array (Option Value)}
    {oc_d_law kV_d_law dc_d_law pm_d_law cd_d_law ct_d_law : Value} {od_d_law an_d_law : Option Addr} {sl_d_law : Array (Option Value)}
    (X : K.In h) (G : h.Ns mainGlobals mg) (hfa : mg "law" = some (.ref fa))
    (aC : PySem.W.nsIn K mainGlobals "Halfline" = some (some (.ref C)))
    (aV : PySem.W.nsIn K mainGlobals "Evenline" = some (some (.ref V)))
    (aCT : PySem.W.nsIn K mainGlobals "BadThing" = some (some (.ref CT)))
    (aCE : PySem.W.nsIn K mainGlobals "BadEnd" = some (some (.ref CE)))
    (aCM : PySem.W.nsIn K mainGlobals "Empty" = some (some (.ref CM)))
    (aENDS : PySem.W.nsIn K mainGlobals "ENDS" = some (some (.ref aE)))
    (lENDS : K.lookup aE = some ⟨.type "tuple", odE, .seq #[.str "front" tE1, .str "back" tE2] nE, slE⟩)
    (a_h_init : PySem.W.findIn K (.ref C) "__init__" = some (some (.ref f_h_init)))
    (i_h_init : PySem.W.isFn K (.ref f_h_init) = true)
    (l_h_init : K.lookup f_h_init = some ⟨oc_h_init, od_h_init, .func (PySem.W.fnOf "__init__" "Halfline.__init__" (defArgs sHI) (defBody sHI) (defScope sHI) .none kV_h_init dc_h_init pm_h_init an_h_init cd_h_init ct_h_init), sl_h_init⟩)
    (c_h_init : PySem.W.codeIn K cd_h_init "Halfline.__init__" = true)
    (k_h_init : PySem.W.keepIn K (.ref f_h_init) = true)
    (a_h_put : PySem.W.findIn K (.ref C) "put" = some (some (.ref f_h_put)))
    (i_h_put : PySem.W.isFn K (.ref f_h_put) = true)
    (l_h_put : K.lookup f_h_put = some ⟨oc_h_put, od_h_put, .func (PySem.W.fnOf "put" "Halfline.put" (defArgs sHPut) (defBody sHPut) (defScope sHPut) .none kV_h_put dc_h_put pm_h_put an_h_put cd_h_put ct_h_put), sl_h_put⟩)
    (c_h_put : PySem.W.codeIn K cd_h_put "Halfline.put" = true)
    (k_h_put : PySem.W.keepIn K (.ref f_h_put) = true)
    (a_h_lay_over : PySem.W.findIn K (.ref C) "lay_over" = some (some (.ref f_h_lay_over)))
    (i_h_lay_over : PySem.W.isFn K (.ref f_h_lay_over) = true)
    (l_h_lay_over : K.lookup f_h_lay_over = some ⟨oc_h_lay_over, od_h_lay_over, .func (PySem.W.fnOf "lay_over" "Halfline.lay_over" (defArgs sHLay) (defBody sHLay) (defScope sHLay) .none kV_h_lay_over dc_h_lay_over pm_h_lay_over an_h_lay_over cd_h_lay_over ct_h_lay_over), sl_h_lay_over⟩)
    (c_h_lay_over : PySem.W.codeIn K cd_h_lay_over "Halfline.lay_over" = true)
    (k_h_lay_over : PySem.W.keepIn K (.ref f_h_lay_over) = true)
    (a_h_take : PySem.W.findIn K (.ref C) "take" = some (some (.ref f_h_take)))
    (i_h_take : PySem.W.isFn K (.ref f_h_take) = true)
    (l_h_take : K.lookup f_h_take = some ⟨oc_h_take, od_h_take, .func (PySem.W.fnOf "take" "Halfline.take" (defArgs sHTake) (defBody sHTake) (defScope sHTake) .none kV_h_take dc_h_take pm_h_take an_h_take cd_h_take ct_h_take), sl_h_take⟩)
    (c_h_take : PySem.W.codeIn K cd_h_take "Halfline.take" = true)
    (k_h_take : PySem.W.keepIn K (.ref f_h_take) = true)
    (a_h_things : PySem.W.findIn K (.ref C) "things" = some (some (.ref f_h_things)))
    (i_h_things : PySem.W.isFn K (.ref f_h_things) = true)
    (l_h_things : K.lookup f_h_things = some ⟨oc_h_things, od_h_things, .func (PySem.W.fnOf "things" "Halfline.things" (defArgs sHThings) (defBody sHThings) (defScope sHThings) .none kV_h_things dc_h_things pm_h_things an_h_things cd_h_things ct_h_things), sl_h_things⟩)
    (c_h_things : PySem.W.codeIn K cd_h_things "Halfline.things" = true)
    (k_h_things : PySem.W.keepIn K (.ref f_h_things) = true)
    (a_v_init : PySem.W.findIn K (.ref V) "__init__" = some (some (.ref f_v_init)))
    (i_v_init : PySem.W.isFn K (.ref f_v_init) = true)
    (l_v_init : K.lookup f_v_init = some ⟨oc_v_init, od_v_init, .func (PySem.W.fnOf "__init__" "Evenline.__init__" (defArgs sVI) (defBody sVI) (defScope sVI) .none kV_v_init dc_v_init pm_v_init an_v_init cd_v_init ct_v_init), sl_v_init⟩)
    (c_v_init : PySem.W.codeIn K cd_v_init "Evenline.__init__" = true)
    (k_v_init : PySem.W.keepIn K (.ref f_v_init) = true)
    (a_v_move : PySem.W.findIn K (.ref V) "move" = some (some (.ref f_v_move)))
    (i_v_move : PySem.W.isFn K (.ref f_v_move) = true)
    (l_v_move : K.lookup f_v_move = some ⟨oc_v_move, od_v_move, .func (PySem.W.fnOf "move" "Evenline.move" (defArgs sVMove) (defBody sVMove) (defScope sVMove) .none kV_v_move dc_v_move pm_v_move an_v_move cd_v_move ct_v_move), sl_v_move⟩)
    (c_v_move : PySem.W.codeIn K cd_v_move "Evenline.move" = true)
    (k_v_move : PySem.W.keepIn K (.ref f_v_move) = true)
    (a_v_done : PySem.W.findIn K (.ref V) "done" = some (some (.ref f_v_done)))
    (i_v_done : PySem.W.isFn K (.ref f_v_done) = true)
    (l_v_done : K.lookup f_v_done = some ⟨oc_v_done, od_v_done, .func (PySem.W.fnOf "done" "Evenline.done" (defArgs sVDone) (defBody sVDone) (defScope sVDone) .none kV_v_done dc_v_done pm_v_done an_v_done cd_v_done ct_v_done), sl_v_done⟩)
    (c_v_done : PySem.W.codeIn K cd_v_done "Evenline.done" = true)
    (k_v_done : PySem.W.keepIn K (.ref f_v_done) = true)
    (a_v_check : PySem.W.findIn K (.ref V) "check" = some (some (.ref f_v_check)))
    (i_v_check : PySem.W.isFn K (.ref f_v_check) = true)
    (l_v_check : K.lookup f_v_check = some ⟨oc_v_check, od_v_check, .func (PySem.W.fnOf "check" "Evenline.check" (defArgs sVCheck) (defBody sVCheck) (defScope sVCheck) .none kV_v_check dc_v_check pm_v_check an_v_check cd_v_check ct_v_check), sl_v_check⟩)
    (c_v_check : PySem.W.codeIn K cd_v_check "Evenline.check" = true)
    (k_v_check : PySem.W.keepIn K (.ref f_v_check) = true)
    (a_v_put : PySem.W.findIn K (.ref V) "put" = some (some (.ref f_v_put)))
    (i_v_put : PySem.W.isFn K (.ref f_v_put) = true)
    (l_v_put : K.lookup f_v_put = some ⟨oc_v_put, od_v_put, .func (PySem.W.fnOf "put" "Evenline.put" (defArgs sVPut) (defBody sVPut) (defScope sVPut) .none kV_v_put dc_v_put pm_v_put an_v_put cd_v_put ct_v_put), sl_v_put⟩)
    (c_v_put : PySem.W.codeIn K cd_v_put "Evenline.put" = true)
    (k_v_put : PySem.W.keepIn K (.ref f_v_put) = true)
    (a_v_take : PySem.W.findIn K (.ref V) "take" = some (some (.ref f_v_take)))
    (i_v_take : PySem.W.isFn K (.ref f_v_take) = true)
    (l_v_take : K.lookup f_v_take = some ⟨oc_v_take, od_v_take, .func (PySem.W.fnOf "take" "Evenline.take" (defArgs sVTake) (defBody sVTake) (defScope sVTake) .none kV_v_take dc_v_take pm_v_take an_v_take cd_v_take ct_v_take), sl_v_take⟩)
    (c_v_take : PySem.W.codeIn K cd_v_take "Evenline.take" = true)
    (k_v_take : PySem.W.keepIn K (.ref f_v_take) = true)
    (a_v_things : PySem.W.findIn K (.ref V) "things" = some (some (.ref f_v_things)))
    (i_v_things : PySem.W.isFn K (.ref f_v_things) = true)
    (l_v_things : K.lookup f_v_things = some ⟨oc_v_things, od_v_things, .func (PySem.W.fnOf "things" "Evenline.things" (defArgs sVThings) (defBody sVThings) (defScope sVThings) .none kV_v_things dc_v_things pm_v_things an_v_things cd_v_things ct_v_things), sl_v_things⟩)
    (c_v_things : PySem.W.codeIn K cd_v_things "Evenline.things" = true)
    (k_v_things : PySem.W.keepIn K (.ref f_v_things) = true)
    (a_d_asked_thing : PySem.W.nsIn K mainGlobals "asked_thing" = some (some (.ref f_d_asked_thing)))
    (l_d_asked_thing : K.lookup f_d_asked_thing = some ⟨oc_d_asked_thing, od_d_asked_thing, .func (PySem.W.fnOf "asked_thing" "asked_thing" (defArgs sThing) (defBody sThing) (defScope sThing) .none kV_d_asked_thing dc_d_asked_thing pm_d_asked_thing an_d_asked_thing cd_d_asked_thing ct_d_asked_thing), sl_d_asked_thing⟩)
    (c_d_asked_thing : PySem.W.codeIn K cd_d_asked_thing "asked_thing" = true)
    (k_d_asked_thing : PySem.W.keepIn K (.ref f_d_asked_thing) = true)
    (a_d_asked_end : PySem.W.nsIn K mainGlobals "asked_end" = some (some (.ref f_d_asked_end)))
    (l_d_asked_end : K.lookup f_d_asked_end = some ⟨oc_d_asked_end, od_d_asked_end, .func (PySem.W.fnOf "asked_end" "asked_end" (defArgs sEnd) (defBody sEnd) (defScope sEnd) .none kV_d_asked_end dc_d_asked_end pm_d_asked_end an_d_asked_end cd_d_asked_end ct_d_asked_end), sl_d_asked_end⟩)
    (c_d_asked_end : PySem.W.codeIn K cd_d_asked_end "asked_end" = true)
    (k_d_asked_end : PySem.W.keepIn K (.ref f_d_asked_end) = true)
    (a_d_law_number : PySem.W.nsIn K mainGlobals "_law_number" = some (some (.ref f_d_law_number)))
    (l_d_law_number : K.lookup f_d_law_number = some ⟨oc_d_law_number, od_d_law_number, .func (PySem.W.fnOf "_law_number" "_law_number" (defArgs sNum) (defBody sNum) (defScope sNum) .none kV_d_law_number dc_d_law_number pm_d_law_number an_d_law_number cd_d_law_number ct_d_law_number), sl_d_law_number⟩)
    (c_d_law_number : PySem.W.codeIn K cd_d_law_number "_law_number" = true)
    (k_d_law_number : PySem.W.keepIn K (.ref f_d_law_number) = true)
    (a_d_law_deeds : PySem.W.nsIn K mainGlobals "_law_deeds" = some (some (.ref f_d_law_deeds)))
    (l_d_law_deeds : K.lookup f_d_law_deeds = some ⟨oc_d_law_deeds, od_d_law_deeds, .func (PySem.W.fnOf "_law_deeds" "_law_deeds" (defArgs sDeeds) (defBody sDeeds) (defScope sDeeds) .none kV_d_law_deeds dc_d_law_deeds pm_d_law_deeds an_d_law_deeds cd_d_law_deeds ct_d_law_deeds), sl_d_law_deeds⟩)
    (c_d_law_deeds : PySem.W.codeIn K cd_d_law_deeds "_law_deeds" = true)
    (k_d_law_deeds : PySem.W.keepIn K (.ref f_d_law_deeds) = true)
    (a_d_law : PySem.W.nsIn K mainGlobals "law" = some (some (.ref f_d_law)))
    (l_d_law : K.lookup f_d_law = some ⟨oc_d_law, od_d_law, .func (PySem.W.fnOf "law" "law" (defArgs sLaw) (defBody sLaw) (defScope sLaw) .none kV_d_law dc_d_law pm_d_law an_d_law cd_d_law ct_d_law), sl_d_law⟩)
    (c_d_law : PySem.W.codeIn K cd_d_law "law" = true)
    (k_d_law : PySem.W.keepIn K (.ref f_d_law) = true)
    (pgC : PySem.W.plainGet K C Str.empty = true)
    (hdC : PySem.W.hasDictIn K C = true)
    (poC : PySem.W.plainOver K C = true)
    (saC : PySem.W.findIn K (.ref C) "__setattr__" = some (some (.builtin "object.__setattr__")))
    (mkC : PySem.W.makesIn K C = true)
    (kcC : PySem.W.keepIn K (.ref C) = true)
    (nC_front : PySem.W.findIn K (.ref C) "front" = some none)
    (nC_back : PySem.W.findIn K (.ref C) "back" = some none)
    (nC_steps : PySem.W.findIn K (.ref C) "steps" = some none)
    (pgV : PySem.W.plainGet K V Str.empty = true)
    (hdV : PySem.W.hasDictIn K V = true)
    (poV : PySem.W.plainOver K V = true)
    (saV : PySem.W.findIn K (.ref V) "__setattr__" = some (some (.builtin "object.__setattr__")))
    (mkV : PySem.W.makesIn K V = true)
    (kcV : PySem.W.keepIn K (.ref V) = true)
    (nV_front : PySem.W.findIn K (.ref V) "front" = some none)
    (nV_top : PySem.W.findIn K (.ref V) "top" = some none)
    (nV_back : PySem.W.findIn K (.ref V) "back" = some none)
    (nV_waiting : PySem.W.findIn K (.ref V) "waiting" = some none)
    (nV_left : PySem.W.findIn K (.ref V) "left" = some none)
    (nV_turned : PySem.W.findIn K (.ref V) "turned" = some none)
    (nV_spare : PySem.W.findIn K (.ref V) "spare" = some none)
    (nV_reading : PySem.W.findIn K (.ref V) "reading" = some none)
    (nV_good : PySem.W.findIn K (.ref V) "good" = some none)
    (nV_state : PySem.W.findIn K (.ref V) "state" = some none)
    (nV_last : PySem.W.findIn K (.ref V) "last" = some none)
    (xCT : PySem.W.excIn K CT bmV "ValueError.__new__" = true)
    (kCT : PySem.W.keepIn K (.ref CT) = true)
    (bCT : PySem.W.subIn K (.ref CT) (.type "BaseException") = some true)
    (tCT : PySem.W.typeIn K (.ref CT) = some (.type "type"))
    (xCE : PySem.W.excIn K CE bmV "ValueError.__new__" = true)
    (kCE : PySem.W.keepIn K (.ref CE) = true)
    (bCE : PySem.W.subIn K (.ref CE) (.type "BaseException") = some true)
    (tCE : PySem.W.typeIn K (.ref CE) = some (.type "type"))
    (xCM : PySem.W.excIn K CM bmV "ValueError.__new__" = true)
    (kCM : PySem.W.keepIn K (.ref CM) = true)
    (bCM : PySem.W.subIn K (.ref CM) (.type "BaseException") = some true)
    (tCM : PySem.W.typeIn K (.ref CM) = some (.type "type"))
    (z_isinstance : PySem.W.nsIn K mainGlobals "isinstance" = some none)
    (z_int : PySem.W.nsIn K mainGlobals "int" = some none)
    (z_bool : PySem.W.nsIn K mainGlobals "bool" = some none)
    (z_str : PySem.W.nsIn K mainGlobals "str" = some none)
    (z_len : PySem.W.nsIn K mainGlobals "len" = some none)
    (z_abs : PySem.W.nsIn K mainGlobals "abs" = some none)
    (z_sum : PySem.W.nsIn K mainGlobals "sum" = some none)
    (z_enumerate : PySem.W.nsIn K mainGlobals "enumerate" = some none)
    (z_zip : PySem.W.nsIn K mainGlobals "zip" = some none)
    : ∃ fd : FuncData, (∀ (s : Shared) (v : Value), BindsTo s fd ⟨[v], []⟩ [("_law_script", v)]) ∧ ∀ base : Heap, K.In base → base.Ns mainGlobals mg → FnOk P w K mg base CX0 5 fa fd ["_law_script"] (spLaw K) := by
  have e := hfa.symm.trans (PySem.W.mg_of X G a_d_law)
  cases e
  have m_isinstance := PySem.W.mg_none_of X G z_isinstance
  have m_int := PySem.W.mg_none_of X G z_int
  have m_bool := PySem.W.mg_none_of X G z_bool
  have m_str := PySem.W.mg_none_of X G z_str
  have m_len := PySem.W.mg_none_of X G z_len
  have m_abs := PySem.W.mg_none_of X G z_abs
  have m_sum := PySem.W.mg_none_of X G z_sum
  have m_enumerate := PySem.W.mg_none_of X G z_enumerate
  have m_zip := PySem.W.mg_none_of X G z_zip
  have gC := PySem.W.mg_of X G aC
  have clC : Cls K C := ⟨pgC, hdC, poC, saC⟩
  have gV := PySem.W.mg_of X G aV
  have clV : Cls K V := ⟨pgV, hdV, poV, saV⟩
  have gCT := PySem.W.mg_of X G aCT
  have TCT : ETxt K mg "BadThing" CT := ⟨gCT, xCT, kCT, bCT, tCT⟩
  have gCE := PySem.W.mg_of X G aCE
  have TCE : ETxt K mg "BadEnd" CE := ⟨gCE, xCE, kCE, bCE, tCE⟩
  have gCM := PySem.W.mg_of X G aCM
  have TCM : ETxt K mg "Empty" CM := ⟨gCM, xCM, kCM, bCM, tCM⟩
  have gENDS := PySem.W.mg_of X G aENDS
  have tENDS : ∀ H, SqT K H aE [.str "front", .str "back"] := fun H => .inr ⟨_, _, _, lENDS, rfl, rfl, (by show 2 ≤ sizeLine; decide), .cons ⟨_, rfl⟩ (.cons ⟨_, rfl⟩ .nil)⟩
  have F_h_init := fun_mk (st := sHI) l_h_init c_h_init k_h_init
  have b_h_init := F_h_init.binds (ps := ["self"]) fun _ _ _ _ _ _ us hl => match us, hl with | [_], _ => rfl
  have m_h_init : Meth K C "__init__" f_h_init := ⟨a_h_init, i_h_init, k_h_init⟩
  have M_h_init : Mk K C f_h_init := ⟨mkC, a_h_init, i_h_init, kcC⟩
  have F_h_put := fun_mk (st := sHPut) l_h_put c_h_put k_h_put
  have b_h_put := F_h_put.binds (ps := ["self", "end", "thing"]) fun _ _ _ _ _ _ us hl => match us, hl with | [_, _, _], _ => rfl
  have m_h_put : Meth K C "put" f_h_put := ⟨a_h_put, i_h_put, k_h_put⟩
  have F_h_lay_over := fun_mk (st := sHLay) l_h_lay_over c_h_lay_over k_h_lay_over
  have b_h_lay_over := F_h_lay_over.binds (ps := ["self", "full"]) fun _ _ _ _ _ _ us hl => match us, hl with | [_, _], _ => rfl
  have m_h_lay_over : Meth K C "lay_over" f_h_lay_over := ⟨a_h_lay_over, i_h_lay_over, k_h_lay_over⟩
  have F_h_take := fun_mk (st := sHTake) l_h_take c_h_take k_h_take
  have b_h_take := F_h_take.binds (ps := ["self", "end"]) fun _ _ _ _ _ _ us hl => match us, hl with | [_, _], _ => rfl
  have m_h_take : Meth K C "take" f_h_take := ⟨a_h_take, i_h_take, k_h_take⟩
  have F_h_things := fun_mk (st := sHThings) l_h_things c_h_things k_h_things
  have b_h_things := F_h_things.binds (ps := ["self"]) fun _ _ _ _ _ _ us hl => match us, hl with | [_], _ => rfl
  have m_h_things : Meth K C "things" f_h_things := ⟨a_h_things, i_h_things, k_h_things⟩
  have F_v_init := fun_mk (st := sVI) l_v_init c_v_init k_v_init
  have b_v_init := F_v_init.binds (ps := ["self"]) fun _ _ _ _ _ _ us hl => match us, hl with | [_], _ => rfl
  have m_v_init : Meth K V "__init__" f_v_init := ⟨a_v_init, i_v_init, k_v_init⟩
  have M_v_init : Mk K V f_v_init := ⟨mkV, a_v_init, i_v_init, kcV⟩
  have F_v_move := fun_mk (st := sVMove) l_v_move c_v_move k_v_move
  have b_v_move := F_v_move.binds (ps := ["self"]) fun _ _ _ _ _ _ us hl => match us, hl with | [_], _ => rfl
  have m_v_move : Meth K V "move" f_v_move := ⟨a_v_move, i_v_move, k_v_move⟩
  have F_v_done := fun_mk (st := sVDone) l_v_done c_v_done k_v_done
  have b_v_done := F_v_done.binds (ps := ["self"]) fun _ _ _ _ _ _ us hl => match us, hl with | [_], _ => rfl
  have m_v_done : Meth K V "done" f_v_done := ⟨a_v_done, i_v_done, k_v_done⟩
  have F_v_check := fun_mk (st := sVCheck) l_v_check c_v_check k_v_check
  have b_v_check := F_v_check.binds (ps := ["self"]) fun _ _ _ _ _ _ us hl => match us, hl with | [_], _ => rfl
  have m_v_check : Meth K V "check" f_v_check := ⟨a_v_check, i_v_check, k_v_check⟩
  have F_v_put := fun_mk (st := sVPut) l_v_put c_v_put k_v_put
  have b_v_put := F_v_put.binds (ps := ["self", "thing"]) fun _ _ _ _ _ _ us hl => match us, hl with | [_, _], _ => rfl
  have m_v_put : Meth K V "put" f_v_put := ⟨a_v_put, i_v_put, k_v_put⟩
  have F_v_take := fun_mk (st := sVTake) l_v_take c_v_take k_v_take
  have b_v_take := F_v_take.binds (ps := ["self"]) fun _ _ _ _ _ _ us hl => match us, hl with | [_], _ => rfl
  have m_v_take : Meth K V "take" f_v_take := ⟨a_v_take, i_v_take, k_v_take⟩
  have F_v_things := fun_mk (st := sVThings) l_v_things c_v_things k_v_things
  have b_v_things := F_v_things.binds (ps := ["self"]) fun _ _ _ _ _ _ us hl => match us, hl with | [_], _ => rfl
  have m_v_things : Meth K V "things" f_v_things := ⟨a_v_things, i_v_things, k_v_things⟩
  have F_d_asked_thing := fun_mk (st := sThing) l_d_asked_thing c_d_asked_thing k_d_asked_thing
  have b_d_asked_thing := F_d_asked_thing.binds (ps := ["thing"]) fun _ _ _ _ _ _ us hl => match us, hl with | [_], _ => rfl
  have g_d_asked_thing := PySem.W.mg_of X G a_d_asked_thing
  have F_d_asked_end := fun_mk (st := sEnd) l_d_asked_end c_d_asked_end k_d_asked_end
  have b_d_asked_end := F_d_asked_end.binds (ps := ["end"]) fun _ _ _ _ _ _ us hl => match us, hl with | [_], _ => rfl
  have g_d_asked_end := PySem.W.mg_of X G a_d_asked_end
  have F_d_law_number := fun_mk (st := sNum) l_d_law_number c_d_law_number k_d_law_number
  have b_d_law_number := F_d_law_number.binds (ps := ["_law_cell", "_law_at", "_law_whole"]) fun _ _ _ _ _ _ us hl => match us, hl with | [_, _, _], _ => rfl
  have g_d_law_number := PySem.W.mg_of X G a_d_law_number
  have F_d_law_deeds := fun_mk (st := sDeeds) l_d_law_deeds c_d_law_deeds k_d_law_deeds
  have b_d_law_deeds := F_d_law_deeds.binds (ps := ["_law_script", "_law_by"]) fun _ _ _ _ _ _ us hl => match us, hl with | [_, _], _ => rfl
  have g_d_law_deeds := PySem.W.mg_of X G a_d_law_deeds
  have F_d_law := fun_mk (st := sLaw) l_d_law c_d_law k_d_law
  have b_d_law := F_d_law.binds (ps := ["_law_script"]) fun _ _ _ _ _ _ us hl => match us, hl with | [_], _ => rfl
  have g_d_law := PySem.W.mg_of X G a_d_law
  have B : BTxt mg := ⟨m_isinstance, m_int, m_bool, m_str, m_len, m_abs⟩
  have T : HTxt K mg C CT CE CM aE := ⟨clC, nC_front, nC_back, nC_steps, gC, TCT, TCE, TCM, B, gENDS, tENDS⟩
  have TV : VTxt K mg V CT CM := ⟨clV, fun x => match x with | .front => nV_front | .back => nV_back | .waiting => nV_waiting | .turned => nV_turned | .spare => nV_spare, fun x => match x with | .top => nV_top | .left => nV_left | .reading => nV_reading | .good => nV_good | .last => nV_last, nV_state, gV, TCT, TCM, B⟩
  have DT : DTxt mg := ⟨m_abs, m_sum, m_enumerate, m_int⟩
  have L : LTxt mg := ⟨m_zip⟩
  refine ⟨PySem.W.fnOf "law" "law" (defArgs sLaw) (defBody sLaw) (defScope sLaw) .none kV_d_law dc_d_law pm_d_law an_d_law cd_d_law ct_d_law, fun s v => .of_eq rfl, fun base _ _ => ?_⟩
  have GI : InitOk P w K mg base C (spInitH C) := ⟨_, _, M_h_init, b_h_init, ok_hi F_h_init T⟩
  have GP : MethOk P w K mg base (L2.CX P w) 2 C "put" ["self", "end", "thing"] (spPutH K C CT CE) := ⟨_, _, m_h_put, b_h_put, ok_hput F_h_put T F_d_asked_thing b_d_asked_thing g_d_asked_thing F_d_asked_end b_d_asked_end g_d_asked_end⟩
  have GT : MethOk P w K mg base (L2.CX P w) 2 C "take" ["self", "end"] (spTakeH K C CE CM) := ⟨_, _, m_h_take, b_h_take, ok_htake F_h_take T F_d_asked_end b_d_asked_end g_d_asked_end F_h_lay_over b_h_lay_over m_h_lay_over⟩
  have GS : MethOk P w K mg base CX0 1 C "things" ["self"] (spThingsH C) := ⟨_, _, m_h_things, b_h_things, ok_hthings F_h_things T⟩
  have GD : DefOk P w K mg base CX0 2 "_law_deeds" ["_law_script", "_law_by"] (spDeeds K) := ⟨_, _, g_d_law_deeds, k_d_law_deeds, b_d_law_deeds, ok_deeds F_d_law_deeds DT F_d_law_number b_d_law_number g_d_law_number⟩
  have EI : InitOk P w K mg base V (spInitE V) := ⟨_, _, M_v_init, b_v_init, ok_vi F_v_init TV⟩
  have EC : FnOk P w K mg base CX0 3 f_v_check _ ["self"] (spCheck V) := ok_vcheck F_v_check TV F_v_done b_v_done m_v_done F_v_move b_v_move m_v_move
  have EP : MethOk P w K mg base (L2.CX P w) 4 V "put" ["self", "thing"] (spPutE K V CT) := ⟨_, _, m_v_put, b_v_put, ok_vput F_v_put TV F_d_asked_thing b_d_asked_thing g_d_asked_thing EC b_v_check m_v_check⟩
  have ET : MethOk P w K mg base (L2.CX P w) 4 V "take" ["self"] (spTakeE V CM) := ⟨_, _, m_v_take, b_v_take, ok_vtake F_v_take TV EC b_v_check m_v_check⟩
  have ES : MethOk P w K mg base CX0 1 V "things" ["self"] (spThingsE V) := ⟨_, _, m_v_things, b_v_things, ok_vthings F_v_things TV⟩
  exact ok_law F_d_law T TV DT L GI GP GT GS EI EP ET ES GD
theorem walk {l : PySem.W.OpenLaw} {q : Program} {loose : List Str} {XP : (Str → Option Value) → Heap → Prop} {YP : World → Heap → Prop} {d : DefRec} {K : Params → PySem.W.Frag} (hn : l.most = some 63) (hdf : d.params.defaults = [])
    (hY : ∀ (w : World) (h : Heap), YP w h → (K w.params).In h)
    (F : ∀ (w : World) (mg : Str → Option Value) (fa : Addr) (h : Heap), (K w.params).In h → h.Ns mainGlobals mg → mg d.name = some (.ref fa) →
      ∃ fd : FuncData, (∀ (s : Shared) (u : Value), BindsTo s fd ⟨[u], []⟩ [("_law_script", u)]) ∧ ∀ base : Heap, (K w.params).In base → base.Ns mainGlobals mg → FnOk l.prog w (K w.params) mg base CX0 5 fa fd ["_law_script"] (spLaw (K w.params))) :
    PySem.W.WalkO q loose XP YP l.row.toRowW d [] (fun f vs => PySem.call f vs) :=
  L2.walk_ofB (n := 63) (k := 5) (x := "_law_script") (CX := fun _ => CX0) (sp := fun w => spLaw (K w.params)) hn (by decide) hdf ⟨rfl, by decide, by decide⟩ hY F (fun _ _ a ns hl hb _ hS => ⟨a, ns, rfl, hS, hl, hb, fun _ => rfl⟩) fun _ _ _ _ _ z => z
end Hf
open PySem PySem.W PyProof.Rows
set_option maxRecDepth 100000 in
set_option maxHeartbeats 0 in
theorem PySem.Challenge.cw_halfline_k06_whole_both_holds : PySem.Challenge.rw_halfline_k06_whole_both.Holds := by
  w_on; o_law; k_head; (case hw => w_witness2)
  k_fill
  refine Hf.walk (l := PySem.Challenge.rw_halfline_k06_whole_both) rfl rfl (fun w h Y => PySem.W.kIn_of Y) ?F
  case F =>
    intro w mg fa h KX G hmg
    refine' Hf.all_mk KX G hmg ?aC ?aV ?aCT ?aCE ?aCM ?aENDS ?lENDS ?a_h_init ?i_h_init ?l_h_init ?c_h_init ?k_h_init ?a_h_put ?i_h_put ?l_h_put ?c_h_put ?k_h_put ?a_h_lay_over ?i_h_lay_over ?l_h_lay_over ?c_h_lay_over ?k_h_lay_over ?a_h_take ?i_h_take ?l_h_take ?c_h_take ?k_h_take ?a_h_things ?i_h_things ?l_h_things ?c_h_things ?k_h_things ?a_v_init ?i_v_init ?l_v_init ?c_v_init ?k_v_init ?a_v_move ?i_v_move ?l_v_move ?c_v_move ?k_v_move ?a_v_done ?i_v_done ?l_v_done ?c_v_done ?k_v_done ?a_v_check ?i_v_check ?l_v_check ?c_v_check ?k_v_check ?a_v_put ?i_v_put ?l_v_put ?c_v_put ?k_v_put ?a_v_take ?i_v_take ?l_v_take ?c_v_take ?k_v_take ?a_v_things ?i_v_things ?l_v_things ?c_v_things ?k_v_things ?a_d_asked_thing ?l_d_asked_thing ?c_d_asked_thing ?k_d_asked_thing ?a_d_asked_end ?l_d_asked_end ?c_d_asked_end ?k_d_asked_end ?a_d_law_number ?l_d_law_number ?c_d_law_number ?k_d_law_number ?a_d_law_deeds ?l_d_law_deeds ?c_d_law_deeds ?k_d_law_deeds ?a_d_law ?l_d_law ?c_d_law ?k_d_law ?pgC ?hdC ?poC ?saC ?mkC ?kcC ?nC_front ?nC_back ?nC_steps ?pgV ?hdV ?poV ?saV ?mkV ?kcV ?nV_front ?nV_top ?nV_back ?nV_waiting ?nV_left ?nV_turned ?nV_spare ?nV_reading ?nV_good ?nV_state ?nV_last ?xCT ?kCT ?bCT ?tCT ?xCE ?kCE ?bCE ?tCE ?xCM ?kCM ?bCM ?tCM ?z_isinstance ?z_int ?z_bool ?z_str ?z_len ?z_abs ?z_sum ?z_enumerate ?z_zip
    (case aC => k_is)
    (case aV => k_is)
    (case aCT => k_is)
    (case aCE => k_is)
    (case aCM => k_is)
    (case aENDS => k_is)
    (case lENDS => k_is)
    (case a_h_init => k_is)
    (case i_h_init => k_is)
    (case l_h_init => k_is)
    (case c_h_init => k_is)
    (case k_h_init => k_is)
    (case a_h_put => k_is)
    (case i_h_put => k_is)
    (case l_h_put => k_is)
    (case c_h_put => k_is)
    (case k_h_put => k_is)
    (case a_h_lay_over => k_is)
    (case i_h_lay_over => k_is)
    (case l_h_lay_over => k_is)
    (case c_h_lay_over => k_is)
    (case k_h_lay_over => k_is)
    (case a_h_take => k_is)
    (case i_h_take => k_is)
    (case l_h_take => k_is)
    (case c_h_take => k_is)
    (case k_h_take => k_is)
    (case a_h_things => k_is)
    (case i_h_things => k_is)
    (case l_h_things => k_is)
    (case c_h_things => k_is)
    (case k_h_things => k_is)
    (case a_v_init => k_is)
    (case i_v_init => k_is)
    (case l_v_init => k_is)
    (case c_v_init => k_is)
    (case k_v_init => k_is)
    (case a_v_move => k_is)
    (case i_v_move => k_is)
    (case l_v_move => k_is)
    (case c_v_move => k_is)
    (case k_v_move => k_is)
    (case a_v_done => k_is)
    (case i_v_done => k_is)
    (case l_v_done => k_is)
    (case c_v_done => k_is)
    (case k_v_done => k_is)
    (case a_v_check => k_is)
    (case i_v_check => k_is)
    (case l_v_check => k_is)
    (case c_v_check => k_is)
    (case k_v_check => k_is)
    (case a_v_put => k_is)
    (case i_v_put => k_is)
    (case l_v_put => k_is)
    (case c_v_put => k_is)
    (case k_v_put => k_is)
    (case a_v_take => k_is)
    (case i_v_take => k_is)
    (case l_v_take => k_is)
    (case c_v_take => k_is)
    (case k_v_take => k_is)
    (case a_v_things => k_is)
    (case i_v_things => k_is)
    (case l_v_things => k_is)
    (case c_v_things => k_is)
    (case k_v_things => k_is)
    (case a_d_asked_thing => k_is)
    (case l_d_asked_thing => k_is)
    (case c_d_asked_thing => k_is)
    (case k_d_asked_thing => k_is)
    (case a_d_asked_end => k_is)
    (case l_d_asked_end => k_is)
    (case c_d_asked_end => k_is)
    (case k_d_asked_end => k_is)
    (case a_d_law_number => k_is)
    (case l_d_law_number => k_is)
    (case c_d_law_number => k_is)
    (case k_d_law_number => k_is)
    (case a_d_law_deeds => k_is)
    (case l_d_law_deeds => k_is)
    (case c_d_law_deeds => k_is)
    (case k_d_law_deeds => k_is)
    (case a_d_law => k_is)
    (case l_d_law => k_is)
    (case c_d_law => k_is)
    (case k_d_law => k_is)
    (case pgC => k_is)
    (case hdC => k_is)
    (case poC => k_is)
    (case saC => k_is)
    (case mkC => k_is)
    (case kcC => k_is)
    (case nC_front => k_is)
    (case nC_back => k_is)
    (case nC_steps => k_is)
    (case pgV => k_is)
    (case hdV => k_is)
    (case poV => k_is)
    (case saV => k_is)
    (case mkV => k_is)
    (case kcV => k_is)
    (case nV_front => k_is)
    (case nV_top => k_is)
    (case nV_back => k_is)
    (case nV_waiting => k_is)
    (case nV_left => k_is)
    (case nV_turned => k_is)
    (case nV_spare => k_is)
    (case nV_reading => k_is)
    (case nV_good => k_is)
    (case nV_state => k_is)
    (case nV_last => k_is)
    (case xCT => k_exc)
    (case kCT => k_is)
    (case bCT => k_is)
    (case tCT => k_is)
    (case xCE => k_exc)
    (case kCE => k_is)
    (case bCE => k_is)
    (case tCE => k_is)
    (case xCM => k_exc)
    (case kCM => k_is)
    (case bCM => k_is)
    (case tCM => k_is)
    (case z_isinstance => k_is)
    (case z_int => k_is)
    (case z_bool => k_is)
    (case z_str => k_is)
    (case z_len => k_is)
    (case z_abs => k_is)
    (case z_sum => k_is)
    (case z_enumerate => k_is)
    (case z_zip => k_is)
#print axioms PySem.Challenge.cw_halfline_k06_whole_both_holds
