import PyProof.Rows.All
import Wide.All
import OpenK.AllK
import Wide.FinOn
import HandS.ForExc
import HandS.Comp
import HandS.Iter
import HandS.Walk
import HandS.Dict
import HandS.Style
import HandS.Flow
import HandS.IsInst
import HandS.ExcIs
import HandS.Wide
import HandS.WideBits
import HandS.EndBits
import HandS.Codes
import PySem.Challenge.RW_halfline_k03_whole_turned
set_option Elab.async false
set_option linter.all false
set_option maxRecDepth 100000
set_option maxHeartbeats 4000000
namespace Hf
open PySem PySem.Spec PyProof.Rows L2
/-! ### rules that the layer lacks -/
/-- a target o.f within a tuple of targets -/
def gFld (K : PySem.W.Frag) (to : TE) (f : Str) : TG := fun v σ H Q => to σ H fun x H1 => ∃ a C dx fs, x = .ref a ∧ H1 a = some (.ins C dx fs) ∧ Cls K C ∧ NoAttr K C f ∧ fs.length < 1000 ∧ Q σ (upd H1 a (.ins C dx (putF f v fs)))
theorem pg_fld {X : Cx} {o : Expr} {f : Str} {pos : Pos} {to : TE} (ho : PE X o to) : PG X (.Attribute o f pos) (gFld X.K to f) := by
  refine ⟨fun pins s σ H v u Q I r h => ?_⟩
  rw [PySem.assign_Attribute]
  refine wpAny_bind (wpAny_holding (thn (ho.run pins s σ H _ I h) fun ov s1 ⟨x, H1, I1, r1, a, C, dx, fs, ex, ea, c, n, l, q⟩ => ?_))
  subst ex
  obtain rfl : ov = Value.ref a := r1
  refine wpAny_bind (wpAny_standAt (wpAny_bind (wpAny_holding (setattr_ok I1 ea c n l r fun s3 I3 => ?_))))
  exact wpAny_release ⟨σ, _, I3, q⟩
/-- o.m(e, ..) where what is raised is wished for at the slots as they stand -/
def tMethS (C : Addr) (m : Str) (sp : Sp) (E : L2.St → XK) (ta : TE) (t : TA) : TE := fun σ H Q => ta σ H fun x H1 => ∃ a dx fs, x = .ref a ∧ H1 a = some (.ins C dx fs) ∧ fs.lookup m = none ∧ t σ H1 fun vs H2 => sp (x :: vs) H2 Q (E σ)
theorem pe_methS {X : Cx} {CX : CXT} {k : Nat} {f C : Addr} {fd : FuncData} {ps : List Str} {sp : Sp} {E : L2.St → XK} {m : Str} {pos apos : Pos} {e o : Expr} {es : List Expr} {ta : TE} {t : TA} {pl : Sem Bool} (he : PE X o ta) (c : Cls X.K C) (hm : Meth X.K C m f)
    (F : FnOk X.prog X.w X.K X.mg X.base CX k f fd ps sp) (hr : Room k X.A) (hb : Binds X.K fd ps []) (hx : ∀ σ, PassesAt CX X σ (E σ)) (ha : PA X (e :: es) t)
    (hst : starEach (e :: es) X.env = (false, eval e X.env) :: starEach es X.env := by rfl) (hpl : (backTo pos (starEach es X.env)).any (·.1) = false := by rfl)
    (ht : eval (.Call (.Attribute o m apos) (e :: es) [] pos) X.env = (do
      let ov ← eval o X.env
      standAt apos.atName
      let (f, first) ← holding [ov] (getMethod ov m pl)
      callWith pos f first (backTo pos (starEach (e :: es) X.env)) (backToKw pos (keywordEach [] X.env))) := by rfl) :
    PE X (.Call (.Attribute o m apos) (e :: es) [] pos) (tMethS C m sp E ta t) := by
  refine ⟨fun pins s σ H Q I h => ?_⟩
  refine PySem.W.methodCall_KW (pl := pl) (thn (he.run pins s σ H _ I h) fun u s1 ⟨x, H1, I1, rx, a, dx, fs, ex, ea, l, q⟩ => ?_) ht
  subst ex
  obtain rfl : u = Value.ref a := rx
  refine getmeth_ok I1 ea c hm l ?_
  refine PySem.W.callWith_K (first := [.ref a]) (h₀ := X.base) I.ok.mod.kin hm.kp (thn (ha.run pos pins s1 σ H1 _ I1 q) fun us s2 ⟨vs, H2, I2, r, q2⟩ => ⟨I2.kIn, ?_⟩) hst hpl
  exact run_fnS (us := .ref a :: us) (vs := .ref a :: vs) F hr hb (hx σ) I2 (.cons rfl r) q2
/-- o.m() likewise -/
theorem pe_methS0 {X : Cx} {CX : CXT} {k : Nat} {f C : Addr} {fd : FuncData} {ps : List Str} {sp : Sp} {E : L2.St → XK} {m : Str} {pos apos : Pos} {o : Expr} {ta : TE} {pl : Sem Bool} (he : PE X o ta) (c : Cls X.K C) (hm : Meth X.K C m f)
    (F : FnOk X.prog X.w X.K X.mg X.base CX k f fd ps sp) (hr : Room k X.A) (hb : Binds X.K fd ps []) (hx : ∀ σ, PassesAt CX X σ (E σ))
    (ht : eval (.Call (.Attribute o m apos) [] [] pos) X.env = (do
      let ov ← eval o X.env
      standAt apos.atName
      let (f, first) ← holding [ov] (getMethod ov m pl)
      callWith pos f first (backTo pos (starEach [] X.env)) (backToKw pos (keywordEach [] X.env))) := by rfl) :
    PE X (.Call (.Attribute o m apos) [] [] pos) (tMethS C m sp E ta tNil) := by
  refine ⟨fun pins s σ H Q I h => ?_⟩
  refine PySem.W.methodCall_KW (pl := pl) (thn (he.run pins s σ H _ I h) fun u s1 ⟨x, H1, I1, rx, a, dx, fs, ex, ea, l, q⟩ => ?_) ht
  subst ex
  obtain rfl : u = Value.ref a := rx
  refine getmeth_ok I1 ea c hm l ?_
  exact PySem.W.callWith_K0 (first := [.ref a]) I1.kIn hm.kp (run_fnS (us := [.ref a]) (vs := [.ref a]) F hr hb (hx σ) I1 (.cons rfl .nil) q)
/-- isinstance(e, c) of the error that the suite holds, whichever it is -/
def rIsX (K : PySem.W.Frag) (cls : Value) (d : Option Addr) (a : Addr) : List V → Hp → VK → Prop := fun xs H Q => ∃ (D : Addr) (c : V) (cv : Value) (b : Bool), cls = .ref D ∧ d = none ∧ ExcC K D ∧ xs = [.ref a, c] ∧ ClsV c cv ∧ PySem.W.kitOne K (.ref D) cv = some b ∧ Q (.bl b) H
theorem call_isX {X : Cx} {a : Addr} {oe : Obj} {cls : Value} {d : Option Addr} {pn : List (Addr × Obj)} (hz : Zc cls d oe) (hf : ∃ vs, oe.data = .fields vs) : CallR (X.suite a ((a, oe) :: pn)) (.builtin "isinstance") (rIsX X.K cls d a) := by
  intro pins s σ H xs us Q I r h
  obtain ⟨D, c, cv, b, rfl, rfl, C, rfl, k, e, q⟩ := h
  exact call_isE (X := X) (pn := pn) C hz hf pins s σ H _ us Q I r ⟨c, cv, b, rfl, fun u ru => k.eq ru, e, q⟩
/-! ### heaps: what a deed at one object leaves -/
/-- all that is tracked outside of A stays, and is outside of A' -/
def Step (H : Hp) (A : List Addr) (H' : Hp) (A' : List Addr) : Prop := ∀ q o, H q = some o → q ∉ A → H' q = some o ∧ q ∉ A'
theorem Step.refl (H : Hp) (A : List Addr) : Step H A H A := fun _ _ h n => ⟨h, n⟩
theorem Step.trans {H H1 H2 : Hp} {A A1 A2 : List Addr} (a : Step H A H1 A1) (b : Step H1 A1 H2 A2) : Step H A H2 A2 := fun q o h n => b q o (a q o h n).1 (a q o h n).2
theorem Step.same {H H1 H2 : Hp} {A A1 : List Addr} (a : Step H A H1 A1) (b : Same H1 H2) : Step H A H2 A1 := fun q o h n => ⟨b q o (a q o h n).1, (a q o h n).2⟩
theorem Step.ofSame {H H1 : Hp} {A : List Addr} (b : Same H H1) : Step H A H1 A := (Step.refl H A).same b
/-- a store at an address that the first heap does not track -/
theorem Step.upd {H H1 : Hp} {A A1 : List Addr} {m : Addr} {o : HO} (a : Step H A H1 A1) (n : H m = none) : Step H A (upd H1 m o) A1 := fun q u h k => ⟨by rw [upd_ne (ne_of_none h n)]; exact (a q u h k).1, (a q u h k).2⟩
theorem Same.new {H : Hp} {p : Addr} {o : HO} (n : H p = none) : Same H (upd H p o) := fun q u h => by rw [upd_ne (ne_of_none h n)]; exact h
theorem Same.upd {H H1 : Hp} {p : Addr} {o : HO} (a : Same H H1) (n : H p = none) : Same H (upd H1 p o) := fun q u h => by rw [upd_ne (ne_of_none h n)]; exact a q u h
theorem Step.seq {K : PySem.W.Frag} {H H' : Hp} {A A' : List Addr} {a : Addr} {xs : List V} (e : Step H A H' A') (n : a ∉ A) (h : SqL K H a xs) : SqL K H' a xs := by
  rcases h with (h | ⟨o, h⟩) | h
  · exact .inl (.inl (e _ _ h n).1)
  · exact .inl (.inr ⟨o, (e _ _ h n).1⟩)
  · exact .inr h
/-! ### fields by name -/
theorem lk_here {k : Str} {v : V} {r : List (Str × V)} : List.lookup k ((k, v) :: r) = some v := by
  have e : (k == k) = true := beq_self_eq_true k
  simp only [List.lookup, e]
theorem lk_past {k g : Str} {v : V} {r : List (Str × V)} (h : (k == g) = false) : List.lookup k ((g, v) :: r) = List.lookup k r := by
  simp only [List.lookup, h]
theorem put_here {f : Str} {v x : V} {r : List (Str × V)} : putF f v ((f, x) :: r) = (f, v) :: r := if_pos rfl
theorem put_past {f g : Str} {v x : V} {r : List (Str × V)} (h : ¬ g = f) : putF f v ((g, x) :: r) = (g, x) :: putF f v r := if_neg h
theorem put_nil {f : Str} {v : V} : putF f v [] = [(f, v)] := rfl
/-! ### data compared -/
theorem canAll_ints : ∀ ns : List Int, PyData.canLayAll0 (ns.map PyData.int) = true
  | [] => rfl
  | n :: r => by
    show (PyData.canLay0 (.int n) && PyData.canLayAll0 (r.map PyData.int)) = true
    rw [canAll_ints r]
    rfl
theorem depthAll_ints : ∀ ns : List Int, PyData.depthAll (ns.map PyData.int) ≤ 1
  | [] => by decide
  | n :: r => by
    have := depthAll_ints r
    show max (PyData.depth (.int n)) (PyData.depthAll (r.map PyData.int)) ≤ 1
    have e : PyData.depth (.int n) ≤ 1 := by simp [PyData.depth]
    omega
theorem eqvAll_ints : ∀ a b : List Int, PyData.eqvAll (a.map PyData.int) (b.map PyData.int) = decide (a = b)
  | [], [] => rfl
  | [], _ :: _ => rfl
  | _ :: _, [] => rfl
  | x :: a, y :: b => by
    show ((x == y) && PyData.eqvAll (a.map PyData.int) (b.map PyData.int)) = decide (x :: a = y :: b)
    rw [eqvAll_ints a b]
    by_cases h : x = y
    · subst h
      simp
    · have : (x == y) = false := by simpa using h
      rw [this]
      simp [h]
theorem dp_ints {K : PySem.W.Frag} {H : Hp} : ∀ ns : List Int, DpAll K H (ns.map V.int) (ns.map PyData.int)
  | [] => .nil
  | n :: r => .cons (.int n) (dp_ints r)
theorem Dp.ints {K : PySem.W.Frag} {H : Hp} {a : Addr} {ns : List Int} (h : SqL K H a (ns.map V.int)) : Dp K H (.ref a) (.list (ns.map PyData.int)) := .lst h (dp_ints ns)
theorem shaped_ints (ns : List Int) : SeqAt.shaped (.list (ns.map PyData.int)) = true := by
  unfold SeqAt.shaped
  have h := depthAll_ints ns
  have e : PyData.depth (.list (ns.map PyData.int)) ≤ 64 := by
    show PyData.depthAll (ns.map PyData.int) + 1 ≤ 64
    omega
  rw [Bool.and_eq_true]
  exact ⟨canAll_ints ns, decide_eq_true e⟩
/-- xs == ys, xs != ys of lists of whole numbers -/
def rEqI (K : PySem.W.Frag) : R2 := fun x y H Q => ∃ (a b : Addr) (xs ys : List Int), x = .ref a ∧ y = .ref b ∧ SqL K H a (xs.map V.int) ∧ SqL K H b (ys.map V.int) ∧ Q (.bl (decide (xs = ys))) H
def rNeI (K : PySem.W.Frag) : R2 := fun x y H Q => ∃ (a b : Addr) (xs ys : List Int), x = .ref a ∧ y = .ref b ∧ SqL K H a (xs.map V.int) ∧ SqL K H b (ys.map V.int) ∧ Q (.bl (!decide (xs = ys))) H
theorem op_eqI {X : Cx} (hu : X.A.units + 64 < cLine) : OpR X (compareOp .Eq) (rEqI X.K) := by
  intro pins s σ H x y v u Q I rx ry h
  obtain ⟨a, b, xs, ys, rfl, rfl, h1, h2, q⟩ := h
  refine op_eqD hu pins s σ H _ _ v u Q I rx ry ⟨_, _, Dp.ints h1, Dp.ints h2, shaped_ints xs, shaped_ints ys, ?_⟩
  show Q (.bl (PyData.eqvAll (xs.map PyData.int) (ys.map PyData.int))) H
  rw [eqvAll_ints]
  exact q
theorem op_neI {X : Cx} (hu : X.A.units + 64 < cLine) : OpR X (compareOp .NotEq) (rNeI X.K) := by
  intro pins s σ H x y v u Q I rx ry h
  obtain ⟨a, b, xs, ys, rfl, rfl, h1, h2, q⟩ := h
  refine op_neD hu pins s σ H _ _ v u Q I rx ry ⟨_, _, Dp.ints h1, Dp.ints h2, shaped_ints xs, shaped_ints ys, ?_⟩
  show Q (.bl (!PyData.eqvAll (xs.map PyData.int) (ys.map PyData.int))) H
  rw [eqvAll_ints]
  exact q
theorem shaped_tup (ns : List Int) : SeqAt.shaped (.tuple (ns.map PyData.int)) = true := by
  unfold SeqAt.shaped
  have h := depthAll_ints ns
  have e : PyData.depth (.tuple (ns.map PyData.int)) ≤ 64 := by
    show PyData.depthAll (ns.map PyData.int) + 1 ≤ 64
    omega
  rw [Bool.and_eq_true]
  exact ⟨canAll_ints ns, decide_eq_true e⟩
/-- t == u, t != u of tuples of whole numbers -/
def rEqT (K : PySem.W.Frag) : R2 := fun x y H Q => ∃ (a b : Addr) (xs ys : List Int), x = .ref a ∧ y = .ref b ∧ SqT K H a (xs.map V.int) ∧ SqT K H b (ys.map V.int) ∧ Q (.bl (decide (xs = ys))) H
def rNeT (K : PySem.W.Frag) : R2 := fun x y H Q => ∃ (a b : Addr) (xs ys : List Int), x = .ref a ∧ y = .ref b ∧ SqT K H a (xs.map V.int) ∧ SqT K H b (ys.map V.int) ∧ Q (.bl (!decide (xs = ys))) H
theorem op_eqT {X : Cx} (hu : X.A.units + 64 < cLine) : OpR X (compareOp .Eq) (rEqT X.K) := by
  intro pins s σ H x y v u Q I rx ry h
  obtain ⟨a, b, xs, ys, rfl, rfl, h1, h2, q⟩ := h
  refine op_eqD hu pins s σ H _ _ v u Q I rx ry ⟨_, _, .tup h1 (dp_ints xs), .tup h2 (dp_ints ys), shaped_tup xs, shaped_tup ys, ?_⟩
  show Q (.bl (PyData.eqvAll (xs.map PyData.int) (ys.map PyData.int))) H
  rw [eqvAll_ints]
  exact q
theorem op_neT {X : Cx} (hu : X.A.units + 64 < cLine) : OpR X (compareOp .NotEq) (rNeT X.K) := by
  intro pins s σ H x y v u Q I rx ry h
  obtain ⟨a, b, xs, ys, rfl, rfl, h1, h2, q⟩ := h
  refine op_neD hu pins s σ H _ _ v u Q I rx ry ⟨_, _, .tup h1 (dp_ints xs), .tup h2 (dp_ints ys), shaped_tup xs, shaped_tup ys, ?_⟩
  show Q (.bl (!PyData.eqvAll (xs.map PyData.int) (ys.map PyData.int))) H
  rw [eqvAll_ints]
  exact q
end Hf
/-! ## Halfline: the mirror -/
namespace Hf
open PySem PySem.Spec PyProof.Rows L2
def endS (fr : Bool) : Str := if fr then "front" else "back"
/-- half of a row goes over -/
def overN (n : Nat) : Nat := (n + 1) / 2
def layM (full : List Int) : List Int := (full.take (overN full.length)).reverse
def layK (full : List Int) : List Int := full.drop (overN full.length)
def layS (full : List Int) : Int := (overN full.length : Int) + 2 * ((full.length : Int) - (overN full.length : Int))
/-- both rows and the steps behind the laying over (own row first) -/
def laid (mine theirs : List Int) : List Int × List Int × Int := if mine = [] then (layM theirs, layK theirs, layS theirs) else (mine, theirs, 0)
/-- a take: the thing, own row, other row, steps -/
def takeM (mine theirs : List Int) : Int × List Int × List Int × Int :=
  let l := laid mine theirs
  (l.1.getLastD 0, l.1.dropLast, l.2.1, l.2.2 + 1)
theorem layM_ne {full : List Int} (h : full ≠ []) : layM full ≠ [] := by
  unfold layM overN
  intro e
  have e2 : (full.take ((full.length + 1) / 2)) = [] := by simpa using e
  have hl : 0 < full.length := List.length_pos_iff.mpr h
  have e3 : (full.take ((full.length + 1) / 2)).length = 0 := by rw [e2]; rfl
  rw [List.length_take] at e3
  omega
theorem laid_ne {mine theirs : List Int} (h : mine ≠ [] ∨ theirs ≠ []) : (laid mine theirs).1 ≠ [] := by
  unfold laid
  by_cases c : mine = []
  · rw [if_pos c]
    rcases h with h | h
    · exact absurd c h
    · exact layM_ne h
  · rw [if_neg c]
    exact c
theorem laid_things (mine theirs : List Int) : (laid mine theirs).1.reverse ++ (laid mine theirs).2.1 = mine.reverse ++ theirs := by
  unfold laid
  by_cases c : mine = []
  · rw [if_pos c, c]
    show (layM theirs).reverse ++ layK theirs = [] ++ theirs
    unfold layM layK
    rw [List.reverse_reverse, List.take_append_drop]
    rfl
  · rw [if_neg c]
/-- the thing taken is the line's first, seen from the own end; the rest stays -/
theorem takeM_things {mine theirs : List Int} (h : mine ≠ [] ∨ theirs ≠ []) : mine.reverse ++ theirs = (takeM mine theirs).1 :: ((takeM mine theirs).2.1.reverse ++ (takeM mine theirs).2.2.1) := by
  rw [← laid_things]
  have hn := laid_ne h
  show (laid mine theirs).1.reverse ++ (laid mine theirs).2.1 = (laid mine theirs).1.getLastD 0 :: ((laid mine theirs).1.dropLast.reverse ++ (laid mine theirs).2.1)
  have e : (laid mine theirs).1 = (laid mine theirs).1.dropLast ++ [(laid mine theirs).1.getLast hn] := (List.dropLast_concat_getLast hn).symm
  generalize (laid mine theirs).1 = l at *
  have e2 : l.getLastD 0 = l.getLast hn := by
    cases l with
    | nil => exact absurd rfl hn
    | cons a r => rfl
  rw [e2]
  conv => lhs; rw [e]
  simp
end Hf
/-! ## Halfline: the heap and the promises -/
namespace Hf
open PySem PySem.Spec PyProof.Rows L2
def hF (f b : Addr) (n : Int) : List (Str × V) := [("front", .ref f), ("back", .ref b), ("steps", .int n)]
theorem hF_front (f b : Addr) (n : Int) : (hF f b n).lookup ("front" : Str) = some (.ref f) := lk_here
theorem hF_back (f b : Addr) (n : Int) : (hF f b n).lookup ("back" : Str) = some (.ref b) := (lk_past (by decide +kernel)).trans lk_here
theorem hF_steps (f b : Addr) (n : Int) : (hF f b n).lookup ("steps" : Str) = some (.int n) := (lk_past (by decide +kernel)).trans ((lk_past (by decide +kernel)).trans lk_here)
theorem hF_no (f b : Addr) (n : Int) {m : Str} (h1 : (m == "front") = false) (h2 : (m == "back") = false) (h3 : (m == "steps") = false) : (hF f b n).lookup m = none :=
  (lk_past h1).trans ((lk_past h2).trans ((lk_past h3).trans rfl))
theorem put_front (f b x : Addr) (n : Int) : putF "front" (.ref x) (hF f b n) = hF x b n := put_here
theorem put_back (f b x : Addr) (n : Int) : putF "back" (.ref x) (hF f b n) = hF f x n := (put_past (by decide +kernel)).trans (congrArg _ put_here)
theorem put_steps (f b : Addr) (n m : Int) : putF "steps" (.int m) (hF f b n) = hF f b m := (put_past (by decide +kernel)).trans (congrArg _ ((put_past (by decide +kernel)).trans (congrArg _ put_here)))
/-- a Halfline stands at p with the rows xs (front) and ys (back) and n steps; A: the addresses that are its own -/
def HalfAt (C : Addr) (H : Hp) (p : Addr) (A : List Addr) (xs ys : List Int) (n : Int) : Prop :=
  ∃ dx f b, A = [p, f, b] ∧ H p = some (.ins C dx (hF f b n)) ∧ H f = some (.lst (xs.map V.int)) ∧ H b = some (.lst (ys.map V.int)) ∧ f ≠ b
theorem HalfAt.same {C : Addr} {H H' : Hp} {p : Addr} {A : List Addr} {xs ys : List Int} {n : Int} (h : HalfAt C H p A xs ys n) (s : Same H H') : HalfAt C H' p A xs ys n := by
  obtain ⟨dx, f, b, e, h1, h2, h3, h4⟩ := h
  exact ⟨dx, f, b, e, s _ _ h1, s _ _ h2, s _ _ h3, h4⟩
/-- as long as its own addresses stay -/
theorem HalfAt.keep {C : Addr} {H H' : Hp} {p : Addr} {A : List Addr} {xs ys : List Int} {n : Int} (h : HalfAt C H p A xs ys n) (s : ∀ q o, q ∈ A → H q = some o → H' q = some o) : HalfAt C H' p A xs ys n := by
  obtain ⟨dx, f, b, rfl, h1, h2, h3, h4⟩ := h
  exact ⟨dx, f, b, rfl, s _ _ (by simp) h1, s _ _ (by simp) h2, s _ _ (by simp) h3, h4⟩
theorem HalfAt.trk {C : Addr} {H : Hp} {p : Addr} {A : List Addr} {xs ys : List Int} {n : Int} (h : HalfAt C H p A xs ys n) : ∀ q, q ∈ A → ∃ o, H q = some o := by
  obtain ⟨dx, f, b, rfl, h1, h2, h3, h4⟩ := h
  intro q hq
  simp at hq
  rcases hq with rfl | rfl | rfl
  · exact ⟨_, h1⟩
  · exact ⟨_, h2⟩
  · exact ⟨_, h3⟩
theorem HalfAt.upd {C : Addr} {H : Hp} {p m : Addr} {o : HO} {A : List Addr} {xs ys : List Int} {n : Int} (h : HalfAt C H p A xs ys n) (hm : m ∉ A) : HalfAt C (upd H m o) p A xs ys n :=
  h.keep fun q u hq e => by rw [upd_ne (fun z : q = m => hm (by rw [← z]; exact hq))]; exact e
/-- what isinstance says of no whole number, of no text -/
def NoThing (K : PySem.W.Frag) (H : Hp) (x : V) : Prop := ∃ n : String, TyX K H x (.type n) ∧ (kitB n "int" = some false ∨ (kitB n "int" = some true ∧ kitB n "bool" = some true))
def NoEnd (K : PySem.W.Frag) (H : Hp) (x : V) : Prop := (∃ n : String, TyX K H x (.type n) ∧ kitB n "str" = some false) ∨ (∃ z : Str, x = .str z ∧ z ≠ "front" ∧ z ≠ "back")
def spThing (K : PySem.W.Frag) (CT : Addr) : Sp := fun vs H Q E => (∃ i : Int, vs = [.int i] ∧ Q .non H) ∨ (∃ x, vs = [x] ∧ NoThing K H x ∧ E (.ref CT) none H)
def spEnd (K : PySem.W.Frag) (CE : Addr) : Sp := fun vs H Q E => (∃ fr : Bool, vs = [.str (endS fr)] ∧ Q .non H) ∨ (∃ x, vs = [x] ∧ NoEnd K H x ∧ E (.ref CE) none H)
def spInitH (C : Addr) : Sp := fun vs H Q _ => ∃ (p dx : Addr), vs = [.ref p] ∧ H p = some (.ins C dx []) ∧
  ∀ (H' : Hp) (A : List Addr), HalfAt C H' p A [] [] 0 → (∀ b o, H b = some o → b ≠ p → H' b = some o ∧ b ∉ A) → Q .non H'
/-- the rows when z is put to the front (fr) or to the back -/
def putX (fr : Bool) (xs : List Int) (z : Int) : List Int := if fr then xs ++ [z] else xs
def spPutH (K : PySem.W.Frag) (C CT CE : Addr) : Sp := fun vs H Q E => ∃ (p : Addr) (A : List Addr) (xs ys : List Int) (n : Int), HalfAt C H p A xs ys n ∧
  ((∃ (fr : Bool) (z : Int), vs = [.ref p, .str (endS fr), .int z] ∧ xs.length + ys.length < 1000000 ∧
      ∀ (H' : Hp) (A' : List Addr), HalfAt C H' p A' (putX fr xs z) (putX (!fr) ys z) (n + 1) → Step H A H' A' → Q .non H') ∨
   (∃ e t, vs = [.ref p, e, t] ∧ NoEnd K H e ∧ E (.ref CE) none H) ∨
   (∃ (fr : Bool) (t : V), vs = [.ref p, .str (endS fr), t] ∧ NoThing K H t ∧ E (.ref CT) none H))
def spLay (C : Addr) : Sp := fun vs H Q _ => ∃ (p dx f b l : Addr) (n : Int) (xs : List Int), vs = [.ref p, .ref l] ∧ H p = some (.ins C dx (hF f b n)) ∧ H l = some (.lst (xs.map V.int)) ∧ xs.length < 1000000 ∧
  ∀ (H' : Hp) (m k q : Addr), H' p = some (.ins C dx (hF f b (n + layS xs))) → H' m = some (.lst ((layM xs).map V.int)) → H' k = some (.lst ((layK xs).map V.int)) → H' q = some (.tup [.ref m, .ref k]) → m ≠ k →
    H m = none → H k = none → (∀ c o, H c = some o → c ≠ p → H' c = some o) → Q (.ref q) H'
def takeX (fr : Bool) (xs ys : List Int) : List Int := if fr then (takeM xs ys).2.1 else (takeM ys xs).2.2.1
def takeY (fr : Bool) (xs ys : List Int) : List Int := if fr then (takeM xs ys).2.2.1 else (takeM ys xs).2.1
def takeZ (fr : Bool) (xs ys : List Int) : Int := if fr then (takeM xs ys).1 else (takeM ys xs).1
def takeN (fr : Bool) (xs ys : List Int) : Int := if fr then (takeM xs ys).2.2.2 else (takeM ys xs).2.2.2
def spTakeH (K : PySem.W.Frag) (C CE CM : Addr) : Sp := fun vs H Q E => ∃ (p : Addr) (A : List Addr) (xs ys : List Int) (n : Int), HalfAt C H p A xs ys n ∧ xs.length + ys.length < 1000000 ∧
  ((∃ fr : Bool, vs = [.ref p, .str (endS fr)] ∧ xs = [] ∧ ys = [] ∧ ∀ H', Same H H' → E (.ref CM) none H') ∨
   (∃ fr : Bool, vs = [.ref p, .str (endS fr)] ∧ (xs ≠ [] ∨ ys ≠ []) ∧
      ∀ (H' : Hp) (A' : List Addr), HalfAt C H' p A' (takeX fr xs ys) (takeY fr xs ys) (n + takeN fr xs ys) → Step H A H' A' → Q (.int (takeZ fr xs ys)) H') ∨
   (∃ e, vs = [.ref p, e] ∧ NoEnd K H e ∧ E (.ref CE) none H))
def spTurnH (C : Addr) : Sp := fun vs H Q _ => ∃ (p : Addr) (A : List Addr) (xs ys : List Int) (n : Int), vs = [.ref p] ∧ HalfAt C H p A xs ys n ∧
  ∀ (H' : Hp) (A' : List Addr), HalfAt C H' p A' ys xs n → Step H A H' A' → Q .non H'
def spThingsH (C : Addr) : Sp := fun vs H Q _ => ∃ (p : Addr) (A : List Addr) (xs ys : List Int) (n : Int), vs = [.ref p] ∧ HalfAt C H p A xs ys n ∧ xs.length + ys.length < 1000000 ∧
  ∀ (H' : Hp) (l : Addr), Same H H' → H l = none → H' l = some (.lst ((xs.reverse ++ ys).map V.int)) → Q (.ref l) H'
def spStepsH (C : Addr) : Sp := fun vs H Q _ => ∃ (p : Addr) (A : List Addr) (xs ys : List Int) (n : Int), vs = [.ref p] ∧ HalfAt C H p A xs ys n ∧ Q (.int n) H
def spHalvesH (C : Addr) : Sp := fun vs H Q _ => ∃ (p : Addr) (A : List Addr) (xs ys : List Int) (n : Int), vs = [.ref p] ∧ HalfAt C H p A xs ys n ∧
  ∀ (H' : Hp) (t : Addr), Same H H' → H t = none → H' t = some (.tup [.int (xs.length : Int), .int (ys.length : Int)]) → Q (.ref t) H'
def spPurseH (C : Addr) : Sp := fun vs H Q _ => ∃ (p : Addr) (A : List Addr) (xs ys : List Int) (n : Int), vs = [.ref p] ∧ HalfAt C H p A xs ys n ∧
  Q (.int (3 * (if (xs.length : Int) - (ys.length : Int) < 0 then -((xs.length : Int) - (ys.length : Int)) else (xs.length : Int) - (ys.length : Int)))) H
abbrev bmV : List Value := [.type "ValueError", .type "Exception", .type "BaseException", .type "object"]
/-- what the top has written of an error's class -/
structure ETxt (K : PySem.W.Frag) (mg : Str → Option Value) (x : Str) (C : Addr) : Prop where
  g : mg x = some (.ref C)
  x : PySem.W.excIn K C bmV "ValueError.__new__" = true
  k : PySem.W.keepIn K (.ref C) = true
  b : PySem.W.subIn K (.ref C) (.type "BaseException") = some true
  t : PySem.W.typeIn K (.ref C) = some (.type "type")
/-- the built-ins that the text means -/
structure BTxt (mg : Str → Option Value) : Prop where
  isi : mg "isinstance" = none
  int : mg "int" = none
  bool : mg "bool" = none
  str : mg "str" = none
  len : mg "len" = none
  abs : mg "abs" = none
structure HTxt (K : PySem.W.Frag) (mg : Str → Option Value) (C CT CE CM aE : Addr) : Prop where
  cl : Cls K C
  nF : NoAttr K C "front"
  nB : NoAttr K C "back"
  nS : NoAttr K C "steps"
  gC : mg "Halfline" = some (.ref C)
  T : ETxt K mg "BadThing" CT
  E : ETxt K mg "BadEnd" CE
  M : ETxt K mg "Empty" CM
  B : BTxt mg
  ends : mg "ENDS" = some (.ref aE)
  endsT : ∀ H, SqT K H aE [.str "front", .str "back"]
end Hf
/-! ## Halfline: the bodies -/
namespace Hf
open PySem PySem.Spec PyProof.Rows L2
def top (i : Nat) : Stmt := PySem.Challenge.pw_halfline_k03_whole_turned.main.body.getD i (.Pass ⟨0, 0, 0, 0⟩)
abbrev sThing : Stmt := top 7
abbrev sEnd : Stmt := top 8
abbrev sHI : Stmt := inClass (top 9) 0
abbrev sHPut : Stmt := inClass (top 9) 1
abbrev sHLay : Stmt := inClass (top 9) 2
abbrev sHTake : Stmt := inClass (top 9) 3
abbrev sHTurn : Stmt := inClass (top 9) 4
abbrev sHThings : Stmt := inClass (top 9) 5
abbrev sHSteps : Stmt := inClass (top 9) 6
abbrev sHHalves : Stmt := inClass (top 9) 7
abbrev sHPurse : Stmt := inClass (top 9) 8
section
variable {P : Program} {w : World} {K : PySem.W.Frag} {mg : Str → Option Value} {base : Heap} {C CT CE CM aE : Addr}
theorem scThing : FnScope ["thing"] ["thing"] (defScope sThing) := ⟨rfl, rfl, rfl, by decide +kernel, rfl, by decide +kernel, by decide +kernel⟩
theorem ok_thing {f : Addr} {fd : FuncData} (F : Fun K "asked_thing" "asked_thing" sThing f fd) (B : BTxt mg) (T : ETxt K mg "BadThing" CT) : FnOk P w K mg base (L2.CX P w) 1 f fd ["thing"] (spThing K CT) := by
  refine F.okX scThing (fun vs H Q E h => ?_) (fun cdv A outer s H vs Q E hr h => ?_)
  · rcases h with ⟨_, rfl, _⟩ | ⟨_, rfl, _⟩ <;> rfl
  · refine ⟨_, pss_one (ps_if (PW.pt (pw_or (pt_not (pt_val (pe_callB call_isi (by rfl) B.isi (by decide +kernel) (pa_cons (pv 0) (pa_cons (pe_bltn (v := .ty "int") (by rfl) B.int (by decide +kernel) rfl) pa_nil)))))
        (pw_or1 (pt_val (pe_callB call_isi (by rfl) B.isi (by decide +kernel) (pa_cons (pv 0) (pa_cons (pe_bltn (v := .ty "bool") (by rfl) B.bool (by decide +kernel) rfl) pa_nil)))))))
      (pss_one (ps_raise rfl (takes_of rfl rfl rfl rfl) (pmk_own PySem.F.excBase_ValueError T.x T.g T.k (raises_own T.b T.t) (by exact rfl)))) pss_nil), ?_⟩
    rcases h with ⟨i, rfl, q⟩ | ⟨x, rfl, ⟨n, ty, hn⟩, q⟩
    · refine ⟨_, rfl, _, _, _, _, true, rfl, .ty "int", .base (.int i), kit_ty (by decide +kernel), true, rfl, iteF ?_⟩
      exact ⟨_, rfl, _, _, _, _, false, rfl, .ty "bool", .base (.int i), kit_ty (by decide +kernel), false, rfl, iteF q⟩
    · rcases hn with h1 | ⟨h1, h2⟩
      · exact ⟨_, rfl, _, _, _, _, false, rfl, .ty "int", ty, kit_ty h1, false, rfl, iteT (iteT q)⟩
      · refine ⟨_, rfl, _, _, _, _, true, rfl, .ty "int", ty, kit_ty h1, true, rfl, iteF ?_⟩
        exact ⟨_, rfl, _, _, _, _, true, rfl, .ty "bool", ty, kit_ty h2, true, rfl, iteT q⟩
theorem scEnd : FnScope ["end"] ["end"] (defScope sEnd) := ⟨rfl, rfl, rfl, by decide +kernel, rfl, by decide +kernel, by decide +kernel⟩
theorem inV_end (fr : Bool) : inV (.str (endS fr)) [.str "front", .str "back"] = true := by cases fr <;> decide +kernel
theorem inV_no {z : Str} (h1 : z ≠ "front") (h2 : z ≠ "back") : inV (.str z) [.str "front", .str "back"] = false := by
  have a : (("front" : Str) == z) = false := by simpa using fun e => h1 e.symm
  have b : (("back" : Str) == z) = false := by simpa using fun e => h2 e.symm
  show ((("front" : Str) == z) || ((("back" : Str) == z) || false)) = false
  rw [a, b]
  rfl
theorem ok_end {f : Addr} {fd : FuncData} (F : Fun K "asked_end" "asked_end" sEnd f fd) (T : HTxt K mg C CT CE CM aE) : FnOk P w K mg base (L2.CX P w) 1 f fd ["end"] (spEnd K CE) := by
  refine F.okX scEnd (fun vs H Q E h => ?_) (fun cdv A outer s H vs Q E hr h => ?_)
  · rcases h with ⟨_, rfl, _⟩ | ⟨_, rfl, _⟩ <;> rfl
  · refine ⟨_, pss_one (ps_if (PW.pt (pw_or (pt_not (pt_val (pe_callB call_isi (by rfl) T.B.isi (by decide +kernel) (pa_cons (pv 0) (pa_cons (pe_bltn (v := .ty "str") (by rfl) T.B.str (by decide +kernel) rfl) pa_nil)))))
        (pw_or1 (pt_cmpR op_notIn_seq (pv 0) (pe_glob (v := .ref aE) rfl T.ends rfl) (by rfl)))))
      (pss_one (ps_raise rfl (takes_of rfl rfl rfl rfl) (pmk_own PySem.F.excBase_ValueError T.E.x T.E.g T.E.k (raises_own T.E.b T.E.t) (by exact rfl)))) pss_nil), ?_⟩
    rcases h with ⟨fr, rfl, q⟩ | ⟨x, rfl, ⟨n, ty, hn⟩ | ⟨z, rfl, h1, h2⟩, q⟩
    · refine ⟨_, rfl, _, _, _, _, true, rfl, .ty "str", .base (.str _), kit_ty (by decide +kernel), true, rfl, iteF ?_⟩
      refine ⟨_, rfl, aE, _, rfl, .inr (T.endsT H), rfl, rfl, false, ?_, iteF q⟩
      show V.bl (!inV (.str (endS fr)) [.str "front", .str "back"]) = V.bl false
      rw [inV_end]
      rfl
    · exact ⟨_, rfl, _, _, _, _, false, rfl, .ty "str", ty, kit_ty hn, false, rfl, iteT (iteT q)⟩
    · refine ⟨_, rfl, _, _, _, _, true, rfl, .ty "str", .base (.str _), kit_ty (by decide +kernel), true, rfl, iteF ?_⟩
      refine ⟨_, rfl, aE, _, rfl, .inr (T.endsT H), rfl, rfl, true, ?_, iteT q⟩
      show V.bl (!inV (.str z) [.str "front", .str "back"]) = V.bl true
      rw [inV_no h1 h2]
      rfl
theorem scHI : FnScope ["self"] ["self"] (defScope sHI) := ⟨rfl, rfl, rfl, by decide +kernel, rfl, by decide +kernel, by decide +kernel⟩
theorem hF_new (f b : Addr) : putF "steps" (.int 0) (putF "back" (.ref b) (putF "front" (.ref f) [])) = hF f b 0 := by
  have e1 : putF "back" (.ref b) (putF "front" (.ref f) []) = ([("front", .ref f), ("back", .ref b)] : List (Str × V)) := (put_past (by decide +kernel)).trans rfl
  rw [e1]
  exact (put_past (by decide +kernel)).trans (congrArg _ ((put_past (by decide +kernel)).trans rfl))
theorem ok_hi {f : Addr} {fd : FuncData} (F : Fun K "__init__" "Halfline.__init__" sHI f fd) (T : HTxt K mg C CT CE CM aE) : FnOk P w K mg base CX0 1 f fd ["self"] (spInitH C) := by
  refine F.ok scHI (fun vs H Q E h => ?_) (fun cdv A outer s H vs Q E hr h => ?_)
  · obtain ⟨p, dx, rfl, _⟩ := h
    rfl
  · obtain ⟨p, dx, rfl, hp, k⟩ := h
    refine ⟨_, pss_cons (ps_fld (pv 0) (pe_lst pa_nil) rfl) (pss_cons (ps_fld (pv 0) (pe_lst pa_nil) rfl) (pss_one (ps_fld (pv 0) pe_int rfl))), ?_⟩
    refine ⟨(by show 0 ≤ sizeLine; decide), fun f1 n1 => ?_⟩
    have pf : p ≠ f1 := ne_of_none hp n1
    refine ⟨_, rfl, p, C, dx, [], rfl, (by rw [upd_ne pf]; exact hp), T.cl, T.nF, (by show 0 < 1000; decide), ?_⟩
    refine ⟨(by show 0 ≤ sizeLine; decide), fun b1 n2 => ?_⟩
    have pb : p ≠ b1 := ne_of_none upd_same n2
    have fb : f1 ≠ b1 := ne_of_none (by rw [upd_ne pf.symm]; exact upd_same) n2
    refine ⟨_, rfl, p, C, dx, _, rfl, (by rw [upd_ne pb]; exact upd_same), T.cl, T.nB, (by show 1 < 1000; decide), ?_⟩
    refine ⟨_, rfl, p, C, dx, _, rfl, upd_same, T.cl, T.nS, (by show 2 < 1000; decide), ?_⟩
    refine k _ [p, f1, b1] ⟨dx, f1, b1, rfl, Eq.trans upd_same (congrArg (fun q => some (HO.ins C dx q)) (hF_new f1 b1)), ?_, ?_, fb⟩ fun c o e hc => ?_
    · rw [upd_ne pf.symm, upd_ne pf.symm, upd_ne fb, upd_ne pf.symm]
      exact upd_same
    · rw [upd_ne pb.symm, upd_ne pb.symm]
      exact upd_same
    · have c1 : c ≠ f1 := ne_of_none e n1
      have c2 : c ≠ b1 := by
        refine ne_of_none (o := o) ?_ n2
        rw [upd_ne hc, upd_ne c1]
        exact e
      refine ⟨by rw [upd_ne hc, upd_ne hc, upd_ne c2, upd_ne hc, upd_ne c1]; exact e, by simp [hc, c1, c2]⟩
theorem scHPut : FnScope ["self", "end", "thing", "row"] ["self", "end", "thing"] (defScope sHPut) := ⟨rfl, rfl, rfl, by decide +kernel, rfl, by decide +kernel, by decide +kernel⟩
theorem dec_end (fr : Bool) : decide (V.str (endS fr) = V.str "front") = fr := by cases fr <;> decide +kernel
theorem dec_endB (fr : Bool) : decide (V.str (endS fr) = V.str "back") = !fr := by cases fr <;> decide +kernel
theorem ok_hput {f fT fE : Addr} {fd fdT fdE : FuncData} (F : Fun K "put" "Halfline.put" sHPut f fd) (T : HTxt K mg C CT CE CM aE)
    (FT : Fun K "asked_thing" "asked_thing" sThing fT fdT) (bT : Binds K fdT ["thing"] []) (gT : mg "asked_thing" = some (.ref fT))
    (FE : Fun K "asked_end" "asked_end" sEnd fE fdE) (bE : Binds K fdE ["end"] []) (gE : mg "asked_end" = some (.ref fE)) :
    FnOk P w K mg base (L2.CX P w) 2 f fd ["self", "end", "thing"] (spPutH K C CT CE) := by
  have GT : FnOk P w K mg base (L2.CX P w) 1 fT fdT ["thing"] (spThing K CT) := ok_thing FT T.B T.T
  have GE : FnOk P w K mg base (L2.CX P w) 1 fE fdE ["end"] (spEnd K CE) := ok_end FE T
  refine F.okX scHPut (fun vs H Q E h => ?_) (fun cdv A outer s H vs Q E hr h => ?_)
  · obtain ⟨p, A, xs, ys, n, hA, ⟨fr, z, rfl, _⟩ | ⟨e, t, rfl, _⟩ | ⟨fr, t, rfl, _⟩⟩ := h <;> rfl
  · refine ⟨_, pss_cons (ps_expr (pe_callS GE hr rfl gE FE.kp bE (fun σ => passAt (takes_of rfl rfl rfl rfl) σ) (pa_cons (pv 1) pa_nil)))
      (pss_cons (ps_expr (pe_callS GT hr rfl gT FT.kp bT (fun σ => passAt (takes_of rfl rfl rfl rfl) σ) (pa_cons (pv 2) pa_nil)))
      (pss_cons (ps_set (i := 3) scHPut.nd rfl (Or.inl rfl) (pe_ifExp (pt_cmpR op_eq (pv 1) pe_str (nomark _)) (pe_fld (pv 0) rfl) (pe_fld (pv 0) rfl)))
      (pss_cons (ps_expr (pe_bm PySem.F.plainAttrs_list PySem.F.slot_list_append PySem.F.type_list_append mt_append (pv 3) (pa_cons (pv 2) pa_nil)))
      (pss_one (ps_fld (pv 0) (pe_op op_add (pe_fld (pv 0) rfl) pe_int) rfl))))), ?_⟩
    obtain ⟨p, A, xs, ys, n, hA, ⟨fr, z, rfl, hlen, k⟩ | ⟨e, t, rfl, he, k⟩ | ⟨fr, t, rfl, ht, k⟩⟩ := h
    · obtain ⟨dx, f1, b1, rfl, h1, h2, h3, h4⟩ := hA
      have pf : p ≠ f1 := ne_of h1 h2 (by intro q; cases q)
      have pb : p ≠ b1 := ne_of h1 h3 (by intro q; cases q)
      have hz : ∀ l : List Int, l.length < 1000000 → (l.map V.int).length < sizeLine := fun l hl => by
        rw [List.length_map, sizeLine_eq]
        omega
      refine ⟨_, rfl, .inl ⟨fr, rfl, ?_⟩⟩
      refine ⟨_, rfl, .inl ⟨z, rfl, ?_⟩⟩
      refine ⟨_, rfl, rfl, fr, congrArg V.bl (dec_end fr), ?_⟩
      cases fr with
      | true =>
        refine iteT ⟨_, rfl, p, C, dx, _, _, rfl, h1, T.cl, T.nF, hF_front _ _ _, ?_⟩
        refine ⟨_, rfl, .inl ⟨rfl, _, SqL.of h2⟩, _, rfl, f1, _, _, rfl, rfl, h2, hz xs (by omega), ?_⟩
        have h1' : upd H f1 (.lst (xs.map V.int ++ [V.int z])) p = some (.ins C dx (hF f1 b1 n)) := by rw [upd_ne pf]; exact h1
        refine ⟨_, rfl, p, C, dx, _, _, rfl, h1', T.cl, T.nS, hF_steps _ _ _, _, _, rfl, rfl, _, rfl, p, C, dx, _, rfl, h1', T.cl, T.nS, (by show 3 < 1000; decide), ?_⟩
        refine k _ [p, f1, b1] ⟨dx, f1, b1, rfl, Eq.trans upd_same (congrArg (fun q => some (HO.ins C dx q)) (put_steps _ _ _ _)), ?_, ?_, h4⟩ fun q o e hq => ?_
        · rw [upd_ne pf.symm, upd_same]
          simp [putX]
        · rw [upd_ne pb.symm, upd_ne h4.symm]
          exact h3
        · simp at hq
          refine ⟨by rw [upd_ne hq.1, upd_ne hq.2.1]; exact e, by simp [hq]⟩
      | false =>
        refine iteF ⟨_, rfl, p, C, dx, _, _, rfl, h1, T.cl, T.nB, hF_back _ _ _, ?_⟩
        refine ⟨_, rfl, .inl ⟨rfl, _, SqL.of h3⟩, _, rfl, b1, _, _, rfl, rfl, h3, hz ys (by omega), ?_⟩
        have h1' : upd H b1 (.lst (ys.map V.int ++ [V.int z])) p = some (.ins C dx (hF f1 b1 n)) := by rw [upd_ne pb]; exact h1
        refine ⟨_, rfl, p, C, dx, _, _, rfl, h1', T.cl, T.nS, hF_steps _ _ _, _, _, rfl, rfl, _, rfl, p, C, dx, _, rfl, h1', T.cl, T.nS, (by show 3 < 1000; decide), ?_⟩
        refine k _ [p, f1, b1] ⟨dx, f1, b1, rfl, Eq.trans upd_same (congrArg (fun q => some (HO.ins C dx q)) (put_steps _ _ _ _)), ?_, ?_, h4⟩ fun q o e hq => ?_
        · rw [upd_ne pf.symm, upd_ne h4]
          exact h2
        · rw [upd_ne pb.symm, upd_same]
          simp [putX]
        · simp at hq
          refine ⟨by rw [upd_ne hq.1, upd_ne hq.2.2]; exact e, by simp [hq]⟩
    · exact ⟨_, rfl, .inr ⟨e, rfl, he, k⟩⟩
    · exact ⟨_, rfl, .inl ⟨fr, rfl, _, rfl, .inr ⟨t, rfl, ht, k⟩⟩⟩
theorem scHLay : FnScope ["self", "full", "many", "over", "moved", "kept"] ["self", "full"] (defScope sHLay) := ⟨rfl, rfl, rfl, by decide +kernel, rfl, by decide +kernel, by decide +kernel⟩
theorem over_eq (n : Nat) : ((n : Int) + 1) / 2 = (overN n : Int) := by
  unfold overN
  omega
theorem overN_le (n : Nat) : overN n ≤ n ∨ n = 0 := by
  unfold overN
  omega
theorem sIx_nat (n j : Nat) (d : Nat) : HT.sIx n d (some (j : Int)) = min j n := by
  unfold HT.sIx
  simp
  intro h
  omega
theorem cut_to (xs : List V) (j : Nat) : cutV xs none (some (j : Int)) = xs.take j := by
  unfold cutV
  rw [sIx_nat]
  show (xs.drop 0).take (min j xs.length - 0) = xs.take j
  rw [List.drop_zero, Nat.sub_zero]
  by_cases h : j ≤ xs.length
  · rw [Nat.min_eq_left h]
  · rw [Nat.min_eq_right (by omega), List.take_of_length_le (Nat.le_refl _), List.take_of_length_le (by omega)]
theorem cut_from (xs : List V) (j : Nat) : cutV xs (some (j : Int)) none = xs.drop j := by
  unfold cutV
  rw [sIx_nat]
  show (xs.drop (min j xs.length)).take (xs.length - min j xs.length) = xs.drop j
  by_cases h : j ≤ xs.length
  · rw [Nat.min_eq_left h, List.take_of_length_le (by rw [List.length_drop]; exact Nat.le_refl _)]
  · rw [Nat.min_eq_right (by omega), List.drop_of_length_le (Nat.le_refl _), List.drop_of_length_le (by omega), List.take_nil]
theorem ok_hlay {f : Addr} {fd : FuncData} (F : Fun K "lay_over" "Halfline.lay_over" sHLay f fd) (T : HTxt K mg C CT CE CM aE) : FnOk P w K mg base CX0 1 f fd ["self", "full"] (spLay C) := by
  refine F.ok scHLay (fun vs H Q E h => ?_) (fun cdv A outer s H vs Q E hr h => ?_)
  · obtain ⟨p, dx, f1, b1, l, n, xs, rfl, _⟩ := h
    rfl
  · obtain ⟨p, dx, f1, b1, l, n, xs, rfl, h1, h2, hlen, k⟩ := h
    refine ⟨_, pss_cons (ps_set (i := 2) scHLay.nd rfl (Or.inl rfl) (pe_callB call_len_seq (by rfl) T.B.len PySem.boot_len (pa_cons (pv 1) pa_nil)))
      (pss_cons (ps_set (i := 3) scHLay.nd rfl (Or.inl rfl) (pe_op op_fdiv (pe_op op_add (pv 2) pe_int) pe_int))
      (pss_cons (ps_set (i := 4) scHLay.nd rfl (Or.inl rfl) (pe_revL (pe_slice sl_list (pv 1) po_none (po_some (pv 3)))))
      (pss_cons (ps_set (i := 5) scHLay.nd rfl (Or.inl rfl) (pe_slice sl_list (pv 1) (po_some (pv 3)) po_none))
      (pss_cons (ps_fld (pv 0) (pe_op op_add (pe_op op_add (pe_fld (pv 0) rfl) (pv 3)) (pe_op op_mul pe_int (pe_op op_sub (pv 2) (pv 3)))) rfl)
      (pss_one (ps_ret (pe_tup (pa_cons (pv 4) (pa_cons (pv 5) pa_nil))))))))), ?_⟩
    have eo : ((((xs.map V.int).length : Nat) : Int) + 1) / 2 = (overN xs.length : Int) := by
      rw [List.length_map]
      exact over_eq _
    refine ⟨_, rfl, l, _, rfl, .inl (SqL.of h2), ?_⟩
    refine ⟨_, rfl, _, _, rfl, rfl, _, _, rfl, rfl, ⟨by decide, by decide⟩, ?_⟩
    refine ⟨_, rfl, _, rfl, _, rfl, l, _, rfl, SqL.of h2, fun u nu => ?_⟩
    refine ⟨u, _, rfl, SqL.of upd_same, fun m nm => ?_⟩
    have lu : l ≠ u := ne_of_none h2 nu
    have lm : l ≠ m := ne_of_none (by rw [upd_ne lu]; exact h2) nm
    have pu : p ≠ u := ne_of_none h1 nu
    have pm : p ≠ m := ne_of_none (by rw [upd_ne pu]; exact h1) nm
    refine ⟨_, rfl, _, rfl, _, rfl, l, _, rfl, SqL.of (by rw [upd_ne lm, upd_ne lu]; exact h2), fun k1 nk => ?_⟩
    have nm0 : H m = Option.none := Same.free (Same.new nu) nm
    have nk0 : H k1 = Option.none := Same.free ((Same.new nu).trans (Same.new nm)) nk
    have pk : p ≠ k1 := ne_of_none (by rw [upd_ne pm, upd_ne pu]; exact h1) nk
    have mk : m ≠ k1 := ne_of_none upd_same nk
    have hp3 : ∀ x y z, (upd (upd (upd H u x) m y) k1 z) p = some (.ins C dx (hF f1 b1 n)) := fun x y z => by
      rw [upd_ne pk, upd_ne pm, upd_ne pu]
      exact h1
    refine ⟨_, rfl, p, C, dx, _, _, rfl, hp3 _ _ _, T.cl, T.nS, hF_steps _ _ _, _, rfl, _, _, rfl, rfl, _, rfl, _, rfl, _, _, rfl, rfl, _, _, rfl, rfl, .inl ⟨by decide, by decide⟩, _, _, rfl, rfl, _, rfl, p, C, dx, _, rfl, hp3 _ _ _, T.cl, T.nS, (by show 3 < 1000; decide), ?_⟩
    refine ⟨_, rfl, _, rfl, (by show 2 ≤ sizeLine; decide), fun q nq => ?_⟩
    have es : n + ((((xs.map V.int).length : Nat) : Int) + 1) / 2 + 2 * ((((xs.map V.int).length : Nat) : Int) - ((((xs.map V.int).length : Nat) : Int) + 1) / 2) = n + layS xs := by
      rw [eo, List.length_map]
      unfold layS
      omega
    have qp : p ≠ q := ne_of_none upd_same nq
    have qm : m ≠ q := ne_of_none (by rw [upd_ne pm.symm, upd_ne mk]; exact upd_same) nq
    have qk : k1 ≠ q := ne_of_none (by rw [upd_ne pk.symm]; exact upd_same) nq
    refine k _ m k1 q ?_ ?_ ?_ upd_same mk nm0 nk0 fun c o e hc => ?_
    · rw [upd_ne qp, upd_same]
      exact congrArg (fun q => some (HO.ins C dx q)) ((put_steps _ _ _ _).trans (congrArg _ es))
    · rw [upd_ne qm, upd_ne pm.symm, upd_ne mk, upd_same]
      unfold layM
      rw [List.map_reverse, List.map_take, ← cut_to, ← eo]
    · rw [upd_ne qk, upd_ne pk.symm, upd_same]
      unfold layK
      rw [List.map_drop, ← cut_from, ← eo]
    · have cu : c ≠ u := ne_of_none e nu
      have cm : c ≠ m := ne_of_none e nm0
      have ck : c ≠ k1 := ne_of_none e nk0
      have cq : c ≠ q := ne_of_none (o := o) (by rw [upd_ne hc, upd_ne ck, upd_ne cm, upd_ne cu]; exact e) nq
      rw [upd_ne cq, upd_ne hc, upd_ne ck, upd_ne cm, upd_ne cu]
      exact e
end
end Hf
/-! ## Halfline: take, turn, what is told -/
namespace Hf
open PySem PySem.Spec PyProof.Rows L2
section
variable {P : Program} {w : World} {K : PySem.W.Frag} {mg : Str → Option Value} {base : Heap} {C CT CE CM aE : Addr}
section
variable {σ : L2.St} {H : Hp} {p : Addr} {A : List Addr} {xs ys : List Int} {n : Int}
theorem rd_nilF {Q : Bool → Hp → Prop} (T : HTxt K mg C CT CE CM aE) (h0 : σ[0]? = some (some (.ref p))) (h : HalfAt C H p A xs ys n) (k : ∀ H1, Same H H1 → Q (decide (xs = [])) H1) :
    tTest (tOp (rEqI K) (tFld K (tVar 0) "front") (tLst tNil)) σ H Q := by
  obtain ⟨dx, f, b, rfl, h1, h2, h3, h4⟩ := h
  refine ⟨_, h0, p, C, dx, _, _, rfl, h1, T.cl, T.nF, hF_front _ _ _, ?_⟩
  refine ⟨(by show 0 ≤ sizeLine; decide), fun e ne => ?_⟩
  exact ⟨f, e, xs, [], rfl, rfl, SqL.of (Same.new ne _ _ h2), SqL.of upd_same, _, rfl, k _ (Same.new ne)⟩
theorem rd_nilB {Q : Bool → Hp → Prop} (T : HTxt K mg C CT CE CM aE) (h0 : σ[0]? = some (some (.ref p))) (h : HalfAt C H p A xs ys n) (k : ∀ H1, Same H H1 → Q (decide (ys = [])) H1) :
    tTest (tOp (rEqI K) (tFld K (tVar 0) "back") (tLst tNil)) σ H Q := by
  obtain ⟨dx, f, b, rfl, h1, h2, h3, h4⟩ := h
  refine ⟨_, h0, p, C, dx, _, _, rfl, h1, T.cl, T.nB, hF_back _ _ _, ?_⟩
  refine ⟨(by show 0 ≤ sizeLine; decide), fun e ne => ?_⟩
  exact ⟨b, e, ys, [], rfl, rfl, SqL.of (Same.new ne _ _ h3), SqL.of upd_same, _, rfl, k _ (Same.new ne)⟩
/-- self.front, self.back = self.lay_over(self.back) -/
def t_layF (K : PySem.W.Frag) (C : Addr) : TS := tAsg (tMeth C "lay_over" (spLay C) [] E0 (tVar 0) (tCons (tFld K (tVar 0) "back") tNil)) (gTup K 2 (gCons (gFld K (tVar 0) "front") (gCons (gFld K (tVar 0) "back") gNil)))
def t_layB (K : PySem.W.Frag) (C : Addr) : TS := tAsg (tMeth C "lay_over" (spLay C) [] E0 (tVar 0) (tCons (tFld K (tVar 0) "front") tNil)) (gTup K 2 (gCons (gFld K (tVar 0) "back") (gCons (gFld K (tVar 0) "front") gNil)))
theorem rd_layF {D : Ends} (T : HTxt K mg C CT CE CM aE) (h0 : σ[0]? = some (some (.ref p))) (h : HalfAt C H p A xs ys n) (hl : ys.length < 1000000)
    (k : ∀ (H1 : Hp) (A1 : List Addr), HalfAt C H1 p A1 (layM ys) (layK ys) (n + layS ys) → Step H A H1 A1 → D.nx σ H1) : t_layF K C D σ H := by
  obtain ⟨dx, f, b, rfl, h1, h2, h3, h4⟩ := h
  refine ⟨_, h0, p, dx, _, rfl, h1, hF_no _ _ _ (by decide +kernel) (by decide +kernel) (by decide +kernel), _, h0, p, C, dx, _, _, rfl, h1, T.cl, T.nB, hF_back _ _ _, ?_⟩
  refine ⟨p, dx, f, b, b, n, ys, rfl, h1, h3, hl, fun H' m k1 q e1 e2 e3 e4 mk nm nk kp => ?_⟩
  have pm : p ≠ m := ne_of e1 e2 (by intro z; cases z)
  have pk : p ≠ k1 := ne_of e1 e3 (by intro z; cases z)
  have pq : p ≠ q := ne_of e1 e4 (by intro z; cases z)
  refine ⟨q, _, rfl, SqT.of e4, rfl, _, _, rfl, _, h0, p, C, dx, _, rfl, e1, T.cl, T.nF, (by show 3 < 1000; decide), ?_⟩
  refine ⟨_, _, rfl, _, h0, p, C, dx, _, rfl, upd_same, T.cl, T.nB, (by show 3 < 1000; decide), rfl, ?_⟩
  refine k _ [p, m, k1] ⟨dx, m, k1, rfl, Eq.trans upd_same (congrArg (fun q => some (HO.ins C dx q)) ?_), ?_, ?_, mk⟩ fun c o e hc => ?_
  · rw [put_front, put_back]
  · rw [upd_ne pm.symm, upd_ne pm.symm]
    exact e2
  · rw [upd_ne pk.symm, upd_ne pk.symm]
    exact e3
  · simp at hc
    have cm : c ≠ m := ne_of_none e nm
    have ck : c ≠ k1 := ne_of_none e nk
    refine ⟨?_, by simp [hc.1, cm, ck]⟩
    rw [upd_ne hc.1, upd_ne hc.1]
    exact kp c o e hc.1
theorem rd_layB {D : Ends} (T : HTxt K mg C CT CE CM aE) (h0 : σ[0]? = some (some (.ref p))) (h : HalfAt C H p A xs ys n) (hl : xs.length < 1000000)
    (k : ∀ (H1 : Hp) (A1 : List Addr), HalfAt C H1 p A1 (layK xs) (layM xs) (n + layS xs) → Step H A H1 A1 → D.nx σ H1) : t_layB K C D σ H := by
  obtain ⟨dx, f, b, rfl, h1, h2, h3, h4⟩ := h
  refine ⟨_, h0, p, dx, _, rfl, h1, hF_no _ _ _ (by decide +kernel) (by decide +kernel) (by decide +kernel), _, h0, p, C, dx, _, _, rfl, h1, T.cl, T.nF, hF_front _ _ _, ?_⟩
  refine ⟨p, dx, f, b, f, n, xs, rfl, h1, h2, hl, fun H' m k1 q e1 e2 e3 e4 mk nm nk kp => ?_⟩
  have pm : p ≠ m := ne_of e1 e2 (by intro z; cases z)
  have pk : p ≠ k1 := ne_of e1 e3 (by intro z; cases z)
  have pq : p ≠ q := ne_of e1 e4 (by intro z; cases z)
  refine ⟨q, _, rfl, SqT.of e4, rfl, _, _, rfl, _, h0, p, C, dx, _, rfl, e1, T.cl, T.nB, (by show 3 < 1000; decide), ?_⟩
  refine ⟨_, _, rfl, _, h0, p, C, dx, _, rfl, upd_same, T.cl, T.nF, (by show 3 < 1000; decide), rfl, ?_⟩
  refine k _ [p, k1, m] ⟨dx, k1, m, rfl, Eq.trans upd_same (congrArg (fun q => some (HO.ins C dx q)) ?_), ?_, ?_, mk.symm⟩ fun c o e hc => ?_
  · rw [put_back, put_front]
  · rw [upd_ne pk.symm, upd_ne pk.symm]
    exact e3
  · rw [upd_ne pm.symm, upd_ne pm.symm]
    exact e2
  · simp at hc
    have cm : c ≠ m := ne_of_none e nm
    have ck : c ≠ k1 := ne_of_none e nk
    refine ⟨?_, by simp [hc.1, cm, ck]⟩
    rw [upd_ne hc.1, upd_ne hc.1]
    exact kp c o e hc.1
/-- self.steps = self.steps + 1; return self.front.pop() if end == 'front' else self.back.pop() -/
def t_tend (K : PySem.W.Frag) : TS := tSeq (sFld K (tVar 0) (tOp (rI0 fun i j => .int (i + j)) (tFld K (tVar 0) "steps") (tC (.int 1))) "steps")
  (tRet (tIf (tTest (tOp rEq (tVar 1) (tC (.str "front")))) (tBM0 K "list" rPop (tFld K (tVar 0) "front")) (tBM0 K "list" rPop (tFld K (tVar 0) "back"))))
theorem last_map {l : List Int} (h : l ≠ []) : (l.map V.int)[(l.map V.int).length - 1]? = some (V.int (l.getLastD 0)) := by
  have e : l = l.dropLast ++ [l.getLast h] := (List.dropLast_concat_getLast h).symm
  have e2 : l.getLastD 0 = l.getLast h := by
    cases l with
    | nil => exact absurd rfl h
    | cons a r => rfl
  rw [List.getElem?_map, List.length_map, ← List.getLast?_eq_getElem?, List.getLast?_eq_some_getLast h, e2]
  rfl
theorem map_dropLast' (l : List Int) : (l.map V.int).dropLast = l.dropLast.map V.int := by
  rw [List.map_dropLast]
theorem rd_tend {D : Ends} {fr : Bool} (T : HTxt K mg C CT CE CM aE) (h0 : σ[0]? = some (some (.ref p))) (h1' : σ[1]? = some (some (.str (endS fr)))) (h : HalfAt C H p A xs ys n) (hne : (if fr then xs else ys) ≠ [])
    (k : ∀ (H1 : Hp) (A1 : List Addr), HalfAt C H1 p A1 (if fr then xs.dropLast else xs) (if fr then ys else ys.dropLast) (n + 1) → Step H A H1 A1 → D.rt (.int ((if fr then xs else ys).getLastD 0)) H1) : t_tend K D σ H := by
  obtain ⟨dx, f, b, rfl, h1, h2, h3, h4⟩ := h
  have pf : p ≠ f := ne_of h1 h2 (by intro q; cases q)
  have pb : p ≠ b := ne_of h1 h3 (by intro q; cases q)
  refine ⟨_, h0, p, C, dx, _, _, rfl, h1, T.cl, T.nS, hF_steps _ _ _, _, _, rfl, rfl, _, h0, p, C, dx, _, rfl, h1, T.cl, T.nS, (by show 3 < 1000; decide), ?_⟩
  have g1 : upd H p (.ins C dx (putF "steps" (.int (n + 1)) (hF f b n))) p = some (.ins C dx (hF f b (n + 1))) := by
    rw [put_steps]
    exact upd_same
  have g2 : upd H p (.ins C dx (putF "steps" (.int (n + 1)) (hF f b n))) f = some (.lst (xs.map V.int)) := by rw [upd_ne pf.symm]; exact h2
  have g3 : upd H p (.ins C dx (putF "steps" (.int (n + 1)) (hF f b n))) b = some (.lst (ys.map V.int)) := by rw [upd_ne pb.symm]; exact h3
  refine ⟨_, h1', rfl, fr, congrArg V.bl (dec_end fr), ?_⟩
  cases fr with
  | true =>
    refine iteT ⟨_, h0, p, C, dx, _, _, rfl, g1, T.cl, T.nF, hF_front _ _ _, .inl ⟨rfl, _, SqL.of g2⟩, f, _, _, rfl, rfl, g2, last_map hne, ?_⟩
    refine k _ [p, f, b] ⟨dx, f, b, rfl, ?_, ?_, ?_, h4⟩ fun q o e hq => ?_
    · rw [upd_ne pf]
      exact g1
    · rw [upd_same, map_dropLast']
      rfl
    · rw [upd_ne h4.symm]
      exact g3
    · simp at hq
      exact ⟨by rw [upd_ne hq.2.1, upd_ne hq.1]; exact e, by simp [hq]⟩
  | false =>
    refine iteF ⟨_, h0, p, C, dx, _, _, rfl, g1, T.cl, T.nB, hF_back _ _ _, .inl ⟨rfl, _, SqL.of g3⟩, b, _, _, rfl, rfl, g3, last_map hne, ?_⟩
    refine k _ [p, f, b] ⟨dx, f, b, rfl, ?_, ?_, ?_, h4⟩ fun q o e hq => ?_
    · rw [upd_ne pb]
      exact g1
    · rw [upd_ne h4]
      exact g2
    · rw [upd_same, map_dropLast']
      rfl
    · simp at hq
      exact ⟨by rw [upd_ne hq.2.2, upd_ne hq.1]; exact e, by simp [hq]⟩
end
theorem scHTake : FnScope ["self", "end"] ["self", "end"] (defScope sHTake) := ⟨rfl, rfl, rfl, by decide +kernel, rfl, by decide +kernel, by decide +kernel⟩
theorem ok_htake {f fE fL : Addr} {fd fdE fdL : FuncData} (F : Fun K "take" "Halfline.take" sHTake f fd) (T : HTxt K mg C CT CE CM aE)
    (FE : Fun K "asked_end" "asked_end" sEnd fE fdE) (bE : Binds K fdE ["end"] []) (gE : mg "asked_end" = some (.ref fE))
    (FL : Fun K "lay_over" "Halfline.lay_over" sHLay fL fdL) (bL : Binds K fdL ["self", "full"] []) (mL : Meth K C "lay_over" fL) :
    FnOk P w K mg base (L2.CX P w) 2 f fd ["self", "end"] (spTakeH K C CE CM) := by
  have GE : FnOk P w K mg base (L2.CX P w) 1 fE fdE ["end"] (spEnd K CE) := ok_end FE T
  have GL : FnOk P w K mg base CX0 1 fL fdL ["self", "full"] (spLay C) := ok_hlay FL T
  refine F.okX scHTake (fun vs H Q E h => ?_) (fun cdv A outer s H vs Q E hr h => ?_)
  · obtain ⟨p, A, xs, ys, n, hA, hl, ⟨fr, rfl, _⟩ | ⟨fr, rfl, _⟩ | ⟨e, rfl, _⟩⟩ := h <;> rfl
  · refine ⟨_, pss_cons (ps_expr (pe_callS GE hr rfl gE FE.kp bE (fun σ => passAt (takes_of rfl rfl rfl rfl) σ) (pa_cons (pv 1) pa_nil)))
      (pss_cons (ps_if (PW.pt (pw_and (pt_cmpR (op_eqI hr.units) (pe_fld (pv 0) rfl) (pe_lst pa_nil) (nomark _)) (pw_and1 (pt_cmpR (op_eqI hr.units) (pe_fld (pv 0) rfl) (pe_lst pa_nil) (nomark _)))))
        (pss_one (ps_raise rfl (takes_of rfl rfl rfl rfl) (pmk_own PySem.F.excBase_ValueError T.M.x T.M.g T.M.k (raises_own T.M.b T.M.t) (by exact rfl)))) pss_nil)
      (pss_cons (ps_if (PW.pt (pw_and (pt_cmpR op_eq (pv 1) pe_str (nomark _)) (pw_and1 (pt_cmpR (op_eqI hr.units) (pe_fld (pv 0) rfl) (pe_lst pa_nil) (nomark _)))))
        (pss_one (ps_asg (pe_meth (pv 0) T.cl mL GL hr bL .nil pass0 (pa_cons (pe_fld (pv 0) rfl) pa_nil)) (pg_tup rfl (pgs_cons (pg_fld (pv 0)) (pgs_cons (pg_fld (pv 0)) pgs_nil))))) pss_nil)
      (pss_cons (ps_if (PW.pt (pw_and (pt_cmpR op_eq (pv 1) pe_str (nomark _)) (pw_and1 (pt_cmpR (op_eqI hr.units) (pe_fld (pv 0) rfl) (pe_lst pa_nil) (nomark _)))))
        (pss_one (ps_asg (pe_meth (pv 0) T.cl mL GL hr bL .nil pass0 (pa_cons (pe_fld (pv 0) rfl) pa_nil)) (pg_tup rfl (pgs_cons (pg_fld (pv 0)) (pgs_cons (pg_fld (pv 0)) pgs_nil))))) pss_nil)
      (pss_cons (ps_fld (pv 0) (pe_op op_add (pe_fld (pv 0) rfl) pe_int) rfl)
      (pss_one (ps_ret (pe_ifExp (pt_cmpR op_eq (pv 1) pe_str (nomark _)) (pe_bm0 PySem.F.plainAttrs_list PySem.F.slot_list_pop PySem.F.type_list_pop mt_pop (pe_fld (pv 0) rfl)) (pe_bm0 PySem.F.plainAttrs_list PySem.F.slot_list_pop PySem.F.type_list_pop mt_pop (pe_fld (pv 0) rfl))))))))), ?_⟩
    obtain ⟨p, A, xs, ys, n, hA, hlen, ⟨fr, rfl, hx, hy, k⟩ | ⟨fr, rfl, hne, k⟩ | ⟨e, rfl, he, k⟩⟩ := h
    · refine ⟨_, rfl, .inl ⟨fr, rfl, ?_⟩⟩
      refine rd_nilF (p := p) T rfl hA fun H1 s1 => ?_
      rw [decide_eq_true hx]
      refine iteT (rd_nilB (p := p) T rfl (hA.same s1) fun H2 s2 => ?_)
      rw [decide_eq_true hy]
      exact iteT (k _ (s1.trans s2))
    · refine ⟨_, rfl, .inl ⟨fr, rfl, ?_⟩⟩
      -- behind the first if
      suffices h3 : ∀ H1, Same H H1 → tSeq (tIfS (tAnd (tTest (tOp rEq (tVar 1) (tC (.str "front")))) (tTest (tOp (rEqI K) (tFld K (tVar 0) "front") (tLst tNil)))) (t_layF K C) tNext)
          (tSeq (tIfS (tAnd (tTest (tOp rEq (tVar 1) (tC (.str "back")))) (tTest (tOp (rEqI K) (tFld K (tVar 0) "back") (tLst tNil)))) (t_layB K C) tNext) (t_tend K)) { nx := fun _ H' => Q .non H', rt := Q } (start ["self", "end"] [.ref p, .str (endS fr)]) H1 by
        refine rd_nilF (p := p) T rfl hA fun H1 s1 => ?_
        by_cases hx : xs = []
        · rw [decide_eq_true hx]
          have hy : ys ≠ [] := hne.resolve_left fun z => z hx
          refine iteT (rd_nilB (p := p) T rfl (hA.same s1) fun H2 s2 => ?_)
          rw [decide_eq_false hy]
          exact iteF (h3 _ (s1.trans s2))
        · rw [decide_eq_false hx]
          exact iteF (iteF (h3 _ s1))
      intro H1 s1
      have hA1 := hA.same s1
      refine ⟨_, rfl, rfl, fr, congrArg V.bl (dec_end fr), ?_⟩
      cases fr with
      | true =>
        refine iteT (rd_nilF (p := p) T rfl hA1 fun H2 s2 => ?_)
        have hA2 := hA1.same s2
        have s12 : Step H A H2 A := Step.ofSame (s1.trans s2)
        -- behind both ifs
        suffices h4 : ∀ (H3 : Hp) (A3 : List Addr), HalfAt C H3 p A3 (laid xs ys).1 (laid xs ys).2.1 (n + (laid xs ys).2.2) → Step H A H3 A3 → tSeq (tIfS (tAnd (tTest (tOp rEq (tVar 1) (tC (.str "back")))) (tTest (tOp (rEqI K) (tFld K (tVar 0) "back") (tLst tNil)))) (t_layB K C) tNext) (t_tend K) { nx := fun _ H' => Q .non H', rt := Q } (start ["self", "end"] [.ref p, .str (endS true)]) H3 by
          by_cases hx : xs = []
          · rw [decide_eq_true hx]
            refine iteT (rd_layF (p := p) T rfl hA2 (by omega) fun H3 A3 h5 s5 => ?_)
            refine h4 H3 A3 ?_ (s12.trans s5)
            unfold laid
            rw [if_pos hx]
            exact h5
          · rw [decide_eq_false hx]
            refine iteF (h4 H2 A ?_ s12)
            unfold laid
            rw [if_neg hx]
            show HalfAt C H2 p A xs ys (n + 0)
            rw [Int.add_zero]
            exact hA2
        intro H3 A3 h5 s5
        refine ⟨_, rfl, rfl, false, congrArg V.bl (dec_endB true), iteF (iteF ?_)⟩
        refine rd_tend (fr := true) (p := p) T rfl rfl h5 (laid_ne hne) fun H4 A4 h6 s6 => ?_
        refine k H4 A4 ?_ (s5.trans s6)
        have e : n + takeN true xs ys = n + (laid xs ys).2.2 + 1 := by
          show n + ((laid xs ys).2.2 + 1) = n + (laid xs ys).2.2 + 1
          omega
        rw [e]
        exact h6
      | false =>
        refine iteF (iteF ⟨_, rfl, rfl, true, congrArg V.bl (dec_endB false), iteT (rd_nilB (p := p) T rfl hA1 fun H2 s2 => ?_)⟩)
        have hA2 := hA1.same s2
        have s12 : Step H A H2 A := Step.ofSame (s1.trans s2)
        suffices h4 : ∀ (H3 : Hp) (A3 : List Addr), HalfAt C H3 p A3 (laid ys xs).2.1 (laid ys xs).1 (n + (laid ys xs).2.2) → Step H A H3 A3 → t_tend K { nx := fun _ H' => Q .non H', rt := Q } (start ["self", "end"] [.ref p, .str (endS false)]) H3 by
          by_cases hx : ys = []
          · rw [decide_eq_true hx]
            refine iteT (rd_layB (p := p) T rfl hA2 (by omega) fun H3 A3 h5 s5 => ?_)
            refine h4 H3 A3 ?_ (s12.trans s5)
            unfold laid
            rw [if_pos hx]
            exact h5
          · rw [decide_eq_false hx]
            refine iteF (h4 H2 A ?_ s12)
            unfold laid
            rw [if_neg hx]
            show HalfAt C H2 p A xs ys (n + 0)
            rw [Int.add_zero]
            exact hA2
        intro H3 A3 h5 s5
        refine rd_tend (fr := false) (p := p) T rfl rfl h5 (laid_ne hne.symm) fun H4 A4 h6 s6 => ?_
        refine k H4 A4 ?_ (s5.trans s6)
        have e : n + takeN false xs ys = n + (laid ys xs).2.2 + 1 := by
          show n + ((laid ys xs).2.2 + 1) = n + (laid ys xs).2.2 + 1
          omega
        rw [e]
        exact h6
    · exact ⟨_, rfl, .inr ⟨e, rfl, he, k⟩⟩
theorem scHThings : FnScope ["self"] ["self"] (defScope sHThings) := ⟨rfl, rfl, rfl, by decide +kernel, rfl, by decide +kernel, by decide +kernel⟩
theorem ok_hthings {f : Addr} {fd : FuncData} (F : Fun K "things" "Halfline.things" sHThings f fd) (T : HTxt K mg C CT CE CM aE) : FnOk P w K mg base CX0 1 f fd ["self"] (spThingsH C) := by
  refine F.ok scHThings (fun vs H Q E h => ?_) (fun cdv A outer s H vs Q E hr h => ?_)
  · obtain ⟨p, A, xs, ys, n, rfl, _⟩ := h
    rfl
  · obtain ⟨p, A, xs, ys, n, rfl, ⟨dx, f1, b1, rfl, h1, h2, h3, h4⟩, hlen, k⟩ := h
    refine ⟨_, pss_one (ps_ret (pe_op op_cat (pe_revL (pe_fld (pv 0) rfl)) (pe_fld (pv 0) rfl))), ?_⟩
    refine ⟨_, rfl, p, C, dx, _, _, rfl, h1, T.cl, T.nF, hF_front _ _ _, f1, _, rfl, SqL.of h2, fun l nl => ?_⟩
    have s1 := Same.new (o := .lst (xs.map V.int).reverse) nl
    refine ⟨_, rfl, p, C, dx, _, _, rfl, s1 _ _ h1, T.cl, T.nB, hF_back _ _ _, l, b1, _, _, rfl, rfl, upd_same, s1 _ _ h3, ?_, fun q nq => ?_⟩
    · rw [List.length_reverse, List.length_map, List.length_map, sizeLine_eq]
      omega
    · refine k _ q (s1.trans (Same.new nq)) (s1.free nq) ?_
      rw [upd_same, List.map_append, List.map_reverse]
theorem scHTurn : FnScope ["self"] ["self"] (defScope sHTurn) := ⟨rfl, rfl, rfl, by decide +kernel, rfl, by decide +kernel, by decide +kernel⟩
end
end Hf
/-! ## Halfline: turn, steps, halves, purse -/
namespace Hf
open PySem PySem.Spec PyProof.Rows L2
section
variable {P : Program} {w : World} {K : PySem.W.Frag} {mg : Str → Option Value} {base : Heap} {C CT CE CM aE : Addr}
theorem scHSteps : FnScope ["self"] ["self"] (defScope sHSteps) := ⟨rfl, rfl, rfl, by decide +kernel, rfl, by decide +kernel, by decide +kernel⟩
theorem ok_hsteps {f : Addr} {fd : FuncData} (F : Fun K "steps_so_far" "Halfline.steps_so_far" sHSteps f fd) (T : HTxt K mg C CT CE CM aE) : FnOk P w K mg base CX0 1 f fd ["self"] (spStepsH C) := by
  refine F.ok scHSteps (fun vs H Q E h => ?_) (fun cdv A outer s H vs Q E hr h => ?_)
  · obtain ⟨p, A, xs, ys, n, rfl, _⟩ := h
    rfl
  · obtain ⟨p, A, xs, ys, n, rfl, ⟨dx, f1, b1, rfl, h1, h2, h3, h4⟩, k⟩ := h
    refine ⟨_, pss_one (ps_ret (pe_fld (pv 0) rfl)), ?_⟩
    exact ⟨_, rfl, p, C, dx, _, _, rfl, h1, T.cl, T.nS, hF_steps _ _ _, k⟩
theorem scHHalves : FnScope ["self"] ["self"] (defScope sHHalves) := ⟨rfl, rfl, rfl, by decide +kernel, rfl, by decide +kernel, by decide +kernel⟩
theorem ok_hhalves {f : Addr} {fd : FuncData} (F : Fun K "halves" "Halfline.halves" sHHalves f fd) (T : HTxt K mg C CT CE CM aE) : FnOk P w K mg base CX0 1 f fd ["self"] (spHalvesH C) := by
  refine F.ok scHHalves (fun vs H Q E h => ?_) (fun cdv A outer s H vs Q E hr h => ?_)
  · obtain ⟨p, A, xs, ys, n, rfl, _⟩ := h
    rfl
  · obtain ⟨p, A, xs, ys, n, rfl, ⟨dx, f1, b1, rfl, h1, h2, h3, h4⟩, k⟩ := h
    refine ⟨_, pss_one (ps_ret (pe_tup (pa_cons (pe_callB call_len_seq (by rfl) T.B.len PySem.boot_len (pa_cons (pe_fld (pv 0) rfl) pa_nil)) (pa_cons (pe_callB call_len_seq (by rfl) T.B.len PySem.boot_len (pa_cons (pe_fld (pv 0) rfl) pa_nil)) pa_nil)))), ?_⟩
    refine ⟨_, rfl, p, C, dx, _, _, rfl, h1, T.cl, T.nF, hF_front _ _ _, f1, _, rfl, .inl (SqL.of h2), ?_⟩
    refine ⟨_, rfl, p, C, dx, _, _, rfl, h1, T.cl, T.nB, hF_back _ _ _, b1, _, rfl, .inl (SqL.of h3), (by show 2 ≤ sizeLine; decide), fun t nt => ?_⟩
    refine k _ t (Same.new nt) nt ?_
    rw [upd_same, List.length_map, List.length_map]
theorem scHPurse : FnScope ["self"] ["self"] (defScope sHPurse) := ⟨rfl, rfl, rfl, by decide +kernel, rfl, by decide +kernel, by decide +kernel⟩
theorem ok_hpurse {f : Addr} {fd : FuncData} (F : Fun K "purse" "Halfline.purse" sHPurse f fd) (T : HTxt K mg C CT CE CM aE) : FnOk P w K mg base CX0 1 f fd ["self"] (spPurseH C) := by
  refine F.ok scHPurse (fun vs H Q E h => ?_) (fun cdv A outer s H vs Q E hr h => ?_)
  · obtain ⟨p, A, xs, ys, n, rfl, _⟩ := h
    rfl
  · obtain ⟨p, A, xs, ys, n, rfl, ⟨dx, f1, b1, rfl, h1, h2, h3, h4⟩, k⟩ := h
    refine ⟨_, pss_one (ps_ret (pe_op op_mul pe_int (pe_callB call_abs (by rfl) T.B.abs (by decide +kernel) (pa_cons (pe_op op_sub (pe_callB call_len_seq (by rfl) T.B.len PySem.boot_len (pa_cons (pe_fld (pv 0) rfl) pa_nil)) (pe_callB call_len_seq (by rfl) T.B.len PySem.boot_len (pa_cons (pe_fld (pv 0) rfl) pa_nil))) pa_nil)))), ?_⟩
    refine ⟨_, rfl, p, C, dx, _, _, rfl, h1, T.cl, T.nF, hF_front _ _ _, f1, _, rfl, .inl (SqL.of h2), ?_⟩
    refine ⟨_, rfl, p, C, dx, _, _, rfl, h1, T.cl, T.nB, hF_back _ _ _, b1, _, rfl, .inl (SqL.of h3), _, _, rfl, rfl, _, rfl, _, _, rfl, rfl, .inl ⟨by decide, by decide⟩, ?_⟩
    rw [← List.length_map (as := xs) V.int, ← List.length_map (as := ys) V.int] at k
    exact k
end
end Hf
/-! ## Halfline: turn -/
namespace Hf
open PySem PySem.Spec PyProof.Rows L2
section
variable {P : Program} {w : World} {K : PySem.W.Frag} {mg : Str → Option Value} {base : Heap} {C CT CE CM aE : Addr}
theorem ok_hturn {f : Addr} {fd : FuncData} (F : Fun K "turn" "Halfline.turn" sHTurn f fd) (T : HTxt K mg C CT CE CM aE) : FnOk P w K mg base CX0 1 f fd ["self"] (spTurnH C) := by
  refine F.ok scHTurn (fun vs H Q E h => ?_) (fun cdv A outer s H vs Q E hr h => ?_)
  · obtain ⟨p, A, xs, ys, n, rfl, _⟩ := h
    rfl
  · obtain ⟨p, A, xs, ys, n, rfl, ⟨dx, f1, b1, rfl, h1, h2, h3, h4⟩, k⟩ := h
    have pf : p ≠ f1 := ne_of h1 h2 (by intro q; cases q)
    have pb : p ≠ b1 := ne_of h1 h3 (by intro q; cases q)
    refine ⟨_, pss_one (ps_asg (pe_tup (pa_cons (pe_fld (pv 0) rfl) (pa_cons (pe_fld (pv 0) rfl) pa_nil))) (pg_tup rfl (pgs_cons (pg_fld (pv 0)) (pgs_cons (pg_fld (pv 0)) pgs_nil)))), ?_⟩
    refine ⟨_, rfl, p, C, dx, _, _, rfl, h1, T.cl, T.nB, hF_back _ _ _, _, rfl, p, C, dx, _, _, rfl, h1, T.cl, T.nF, hF_front _ _ _, (by show 2 ≤ sizeLine; decide), fun t nt => ?_⟩
    have s1 := Same.new (o := .tup [.ref b1, .ref f1]) nt
    refine ⟨t, _, rfl, SqT.of upd_same, rfl, _, _, rfl, _, rfl, p, C, dx, _, rfl, s1 _ _ h1, T.cl, T.nF, (by show 3 < 1000; decide), ?_⟩
    refine ⟨_, _, rfl, _, rfl, p, C, dx, _, rfl, upd_same, T.cl, T.nB, (by show 3 < 1000; decide), rfl, ?_⟩
    refine k _ [p, b1, f1] ⟨dx, b1, f1, rfl, Eq.trans upd_same (congrArg (fun q => some (HO.ins C dx q)) ?_), ?_, ?_, h4.symm⟩ fun c o e hc => ?_
    · rw [put_front, put_back]
    · rw [upd_ne pb.symm, upd_ne pb.symm]
      exact s1 _ _ h3
    · rw [upd_ne pf.symm, upd_ne pf.symm]
      exact s1 _ _ h2
    · simp at hc
      exact ⟨by rw [upd_ne hc.1, upd_ne hc.1]; exact s1 _ _ e, by simp [hc]⟩
end
end Hf
/-! ## the law's deeds -/
namespace Hf
open PySem PySem.Spec PyProof.Rows L2
/-! ### how large -/
theorem bits_pow {n : Int} : n.natAbs < 2 ^ Builtin.Int.intBits n := by
  unfold Builtin.Int.intBits
  split
  · rename_i h
    have : n = 0 := by simpa using h
    subst this
    decide
  · exact Nat.lt_log2_self
theorem bd_mono {n : Int} {a b : Nat} (h : n.natAbs < 2 ^ a) (l : a ≤ b) : n.natAbs < 2 ^ b := Nat.lt_of_lt_of_le h (Nat.pow_le_pow_right (by decide) l)
theorem bd_add {x y : Int} {a : Nat} (hx : x.natAbs < 2 ^ a) (hy : y.natAbs < 2 ^ a) : (x + y).natAbs < 2 ^ (a + 1) := by
  have h := Int.natAbs_add_le x y
  rw [Nat.pow_succ]
  omega
def spNum : Sp := fun vs H Q _ => ∃ cell at_ whole : Int, vs = [.int cell, .int at_, .int whole] ∧ Builtin.Int.intBits cell ≤ 1048576 ∧ 0 ≤ at_ ∧ at_ < 1000 ∧ ∀ n : Int, Q (.int n) H
abbrev sNum : Stmt := top 11
abbrev sDeeds : Stmt := top 12
structure DTxt (mg : Str → Option Value) : Prop where
  abs : mg "abs" = none
  sum : mg "sum" = none
  enum : mg "enumerate" = none
  int : mg "int" = none
structure Deed where
  kind : Int
  fr : Bool
  thing : Int
def Deed.ok (d : Deed) : Prop := d.kind = 0 ∨ d.kind = 1
def dV (d : Deed) : List V := [.int d.kind, .str (endS d.fr), .int d.thing]
def DeedsAt (H : Hp) (l : Addr) (rs : List Addr) (ds : List Deed) : Prop := H l = some (.lst (rs.map V.ref)) ∧ rs.length = ds.length ∧ ∀ (i : Nat) (r : Addr), rs[i]? = some r → ∃ d, ds[i]? = some d ∧ H r = some (.tup (dV d))
theorem DeedsAt.same {H H' : Hp} {l : Addr} {rs : List Addr} {ds : List Deed} (h : DeedsAt H l rs ds) (s : Same H H') : DeedsAt H' l rs ds :=
  ⟨s _ _ h.1, h.2.1, fun i r e => let ⟨d, e1, e2⟩ := h.2.2 i r e; ⟨d, e1, s _ _ e2⟩⟩
/-- as long as neither the list nor the deeds are the object's own -/
theorem DeedsAt.step {H H' : Hp} {A A' : List Addr} {l : Addr} {rs : List Addr} {ds : List Deed} (h : DeedsAt H l rs ds) (s : Step H A H' A') (hl : l ∉ A) (hr : ∀ r ∈ rs, r ∉ A) : DeedsAt H' l rs ds :=
  ⟨(s _ _ h.1 hl).1, h.2.1, fun i r e => let ⟨d, e1, e2⟩ := h.2.2 i r e; ⟨d, e1, (s _ _ e2 (hr r (List.mem_of_getElem? e))).1⟩⟩
def spDeeds (K : PySem.W.Frag) : Sp := fun vs H Q _ => ∃ (a : Addr) (ns : List Int) (by_ : Int), vs = [.ref a, .int by_] ∧ SqL K H a (ns.map V.int) ∧ ns.length ≤ 63 ∧ (∀ n ∈ ns, Builtin.Int.intBits n ≤ 1048576) ∧ 0 ≤ by_ ∧ by_ ≤ 10 ∧
  ∀ (H' : Hp) (l : Addr) (rs : List Addr) (ds : List Deed), Same H H' → DeedsAt H' l rs ds → H l = none → (∀ r ∈ rs, H r = none) → (∀ d ∈ ds, d.ok) → ds.length ≤ 128 → Q (.ref l) H'
section
variable {P : Program} {w : World} {K : PySem.W.Frag} {mg : Str → Option Value} {base : Heap}
theorem scNum : FnScope ["_law_cell", "_law_at", "_law_whole", "_law_blend", "_law_more"] ["_law_cell", "_law_at", "_law_whole"] (defScope sNum) := ⟨rfl, rfl, rfl, by decide +kernel, rfl, by decide +kernel, by decide +kernel⟩
theorem ok_num {f : Addr} {fd : FuncData} (F : Fun K "_law_number" "_law_number" sNum f fd) : FnOk P w K mg base CX0 1 f fd ["_law_cell", "_law_at", "_law_whole"] spNum := by
  refine F.ok scNum (fun vs H Q E h => ?_) (fun cdv A outer s H vs Q E hr h => ?_)
  · obtain ⟨c, a, w, rfl, _⟩ := h
    rfl
  · obtain ⟨c, a, w, rfl, hb, h0, h1, k⟩ := h
    refine ⟨_, pss_cons (ps_if (pt_cmpR op_ge (pv 0) (pe_op op_pow pe_int pe_int) (nomark _)) (pss_one (ps_ret (pe_op op_fdiv (pv 0) (pe_op op_add pe_int (pe_op op_mod (pv 1) pe_int))))) pss_nil)
      (pss_cons (ps_set (i := 3) scNum.nd rfl (Or.inl rfl) (pe_op op_mod (pe_op op_add (pe_op op_mul (pe_op op_add (pv 0) (pe_op op_mul pe_int (pv 1))) pe_int) (pv 2)) pe_int))
      (pss_cons (ps_set (i := 4) scNum.nd rfl (Or.inl rfl) (pe_op op_mul (pv 3) (pe_op op_add (pe_op op_add (pv 0) (pe_op op_mul pe_int (pv 1))) pe_int)))
      (pss_one (ps_ret (pe_op op_fdiv (pe_op op_mul (pe_op op_mulX (pv 4) (pe_op op_add (pe_op op_add (pv 3) (pv 0)) pe_int)) (pe_op op_add (pe_op op_mul (pv 3) (pv 3)) pe_int)) (pe_op op_add pe_int (pv 1))))))), ?_⟩
    refine ⟨_, rfl, _, _, rfl, rfl, ⟨by decide, by decide, by decide⟩, _, _, rfl, rfl, _, rfl, ite2 (fun _ => ?_) fun _ => ?_⟩
    · have h7 := Int.emod_nonneg a (show (7 : Int) ≠ 0 by decide)
      have h8 := Int.emod_lt_of_pos a (show (0 : Int) < 7 by decide)
      exact ⟨_, rfl, _, rfl, _, _, rfl, rfl, (by show (0 : Int) < 7; decide), _, _, rfl, rfl, _, _, rfl, rfl, ⟨by omega, by omega⟩, k _⟩
    · refine ⟨_, rfl, _, rfl, _, _, rfl, rfl, .inl ⟨by decide, by decide⟩, _, _, rfl, rfl, _, _, rfl, rfl, .inr ⟨by decide, by decide⟩, _, rfl, _, _, rfl, rfl, _, _, rfl, rfl, (by show (0 : Int) < 2147483647; decide), ?_⟩
      have hm0 := Int.emod_nonneg ((c + 977 * a) * 48271 + w) (show (2147483647 : Int) ≠ 0 by decide)
      have hm1 := Int.emod_lt_of_pos ((c + 977 * a) * 48271 + w) (show (0 : Int) < 2147483647 by decide)
      generalize hg : ((c + 977 * a) * 48271 + w) % 2147483647 = bl at hm0 hm1
      refine ⟨_, rfl, _, rfl, _, rfl, _, _, rfl, rfl, .inl ⟨by decide, by decide⟩, _, _, rfl, rfl, _, _, rfl, rfl, _, _, rfl, rfl, .inl ⟨by rw [hg]; omega, by rw [hg]; omega⟩, ?_⟩
      have b0 : c.natAbs < 2 ^ (Builtin.Int.intBits c + 40) := bd_mono bits_pow (by omega)
      have sm : ∀ x : Int, x.natAbs < 2 ^ 40 → x.natAbs < 2 ^ (Builtin.Int.intBits c + 40) := fun x hx => bd_mono hx (by omega)
      have e40 : (2 : Nat) ^ 40 = 1099511627776 := by decide
      have b1 : (c + 31 * a + 7).natAbs < 2 ^ (Builtin.Int.intBits c + 40 + 1) := by
        rw [Int.add_assoc]
        exact bd_add b0 (sm _ (by rw [e40]; omega))
      have b2 : (bl * (c + 31 * a + 7)).natAbs < 2 ^ (40 + (Builtin.Int.intBits c + 40 + 1)) := wide_lt (by rw [e40]; omega) b1
      have b3 : (bl + c + 5).natAbs < 2 ^ (Builtin.Int.intBits c + 40 + 1) := by
        rw [show bl + c + 5 = c + (bl + 5) by omega]
        exact bd_add b0 (sm _ (by rw [e40]; omega))
      have hbb : bl * bl < 2 ^ 64 - 11 := by
        have : bl * bl ≤ 2147483647 * 2147483647 := Int.mul_le_mul (by omega) (by omega) hm0 (by decide)
        omega
      have hb0 : 0 ≤ bl * bl := Int.mul_nonneg hm0 hm0
      refine ⟨_, rfl, _, rfl, _, rfl, _, _, rfl, rfl, _, _, rfl, rfl, _, _, rfl, rfl, ?_, _, rfl, _, rfl, _, _, rfl, rfl, .inl ⟨by rw [hg]; omega, by rw [hg]; omega⟩, _, _, rfl, rfl, _, _, rfl, rfl, .inr ⟨by rw [hg]; omega, by rw [hg]; omega⟩, _, rfl, _, _, rfl, rfl, _, _, rfl, rfl, ⟨by omega, by omega⟩, k _⟩
      rw [hg]
      exact mulx_ok b2 b3 (by omega)
/-! ### _law_deeds -/
/-- script[:63] if script != [] else [5] -/
def t_base (K : PySem.W.Frag) : TE := tIf (tTest (tOp (rNeI K) (tVar 0) (tLst tNil))) (tSl (rSlL K) (tVar 0) tNoPart (tPart (tC (.int 63)))) (tLst (tCons (tC (.int 5)) tNil))
theorem cut63 {ns : List Int} (h : ns.length ≤ 63) : cutV (ns.map V.int) none (some (63 : Int)) = ns.map V.int := by
  have e := cut_to (ns.map V.int) 63
  rw [List.take_of_length_le (by rw [List.length_map]; exact h)] at e
  exact e
theorem rd_base {σ : L2.St} {H : Hp} {a : Addr} {ns : List Int} {Q : VK} (h0 : σ[0]? = some (some (.ref a))) (hS : SqL K H a (ns.map V.int)) (hl : ns.length ≤ 63) (hb : ∀ n ∈ ns, Builtin.Int.intBits n ≤ 1048576)
    (k : ∀ (H1 : Hp) (u : Addr) (bs : List Int), Same H H1 → H1 u = some (.lst (bs.map V.int)) → bs.length ≤ 63 → (∀ n ∈ bs, Builtin.Int.intBits n ≤ 1048576) → Q (.ref u) H1) : t_base K σ H Q := by
  refine ⟨_, h0, (by show 0 ≤ sizeLine; decide), fun e ne => ?_⟩
  have s1 := Same.new (o := .lst []) ne
  refine ⟨a, e, ns, [], rfl, rfl, s1.seq hS, SqL.of upd_same, _, rfl, ?_⟩
  by_cases c : ns = []
  · rw [decide_eq_true c]
    refine iteF ⟨(by show 1 ≤ sizeLine; decide), fun u nu => ?_⟩
    exact k _ u [5] (s1.trans (Same.new nu)) upd_same (by decide) (fun n hn => by simp at hn; subst hn; decide)
  · rw [decide_eq_false c]
    refine iteT ⟨_, h0, _, rfl, a, _, rfl, s1.seq hS, fun u nu => ?_⟩
    exact k _ u ns (s1.trans (Same.new nu)) (by rw [upd_same, cut63 hl]) hl hb
theorem scDeeds : FnScope ["_law_script", "_law_by", "_law_cells", "_law_whole", "_law_found", "_law_at", "_law_cell", "_law_number_here", "_law_kind", "_law_end"] ["_law_script", "_law_by"] (defScope sDeeds) := ⟨rfl, rfl, rfl, by decide +kernel, rfl, by decide +kernel, by decide +kernel⟩
theorem item_of {ns : List Int} {i : Nat} {y : V} (hi : (ns.map V.int)[i]? = some y) : ∃ z, ns[i]? = some z ∧ y = V.int z := by
  rw [List.getElem?_map] at hi
  cases e : ns[i]? with
  | none =>
    rw [e] at hi
    cases hi
  | some z =>
    rw [e] at hi
    exact ⟨z, rfl, (Option.some.inj hi).symm⟩
theorem item_ref {rs : List Addr} {i : Nat} {y : V} (hi : (rs.map V.ref)[i]? = some y) : ∃ z, rs[i]? = some z ∧ y = V.ref z := by
  rw [List.getElem?_map] at hi
  cases e : rs[i]? with
  | none =>
    rw [e] at hi
    cases hi
  | some z =>
    rw [e] at hi
    exact ⟨z, rfl, (Option.some.inj hi).symm⟩
theorem kind_at (nh wh : Int) (b c : Bool) : ∃ kd : Int, atI [V.int (nh % 2), V.int (if b then 1 else 0), V.int (nh % 4 / 2), V.int (if c then 1 else 0)] (wh % 4) = some (V.int kd) ∧ (kd = 0 ∨ kd = 1) := by
  have h : wh % 4 = 0 ∨ wh % 4 = 1 ∨ wh % 4 = 2 ∨ wh % 4 = 3 := by omega
  rcases h with h | h | h | h <;> rw [h]
  · exact ⟨nh % 2, rfl, by omega⟩
  · exact ⟨_, rfl, by cases b <;> simp⟩
  · exact ⟨nh % 4 / 2, rfl, by omega⟩
  · exact ⟨_, rfl, by cases c <;> simp⟩
theorem end_at (x : Int) : ∃ fr : Bool, atI [V.str "front", V.str "back"] (x % 2) = some (V.str (endS fr)) := by
  have h : x % 2 = 0 ∨ x % 2 = 1 := by omega
  rcases h with h | h <;> rw [h]
  · exact ⟨true, rfl⟩
  · exact ⟨false, rfl⟩
/-- number // 5 % 2 if whole // 4 % 3 > 0 else whole // 12 % 2 -/
def t_side : TE := tIf (tTest (tOp (rI0 fun i j => .bl (decide (j < i))) (tOp (rI (fun _ j => 0 < j) fun i j => .int (i % j)) (tOp (rI CDiv fun i j => .int (i / j)) (tVar 3) (tC (.int 4))) (tC (.int 3))) (tC (.int 0))))
  (tOp (rI (fun _ j => 0 < j) fun i j => .int (i % j)) (tOp (rI CDiv fun i j => .int (i / j)) (tVar 7) (tC (.int 5))) (tC (.int 2)))
  (tOp (rI (fun _ j => 0 < j) fun i j => .int (i % j)) (tOp (rI CDiv fun i j => .int (i / j)) (tVar 3) (tC (.int 12))) (tC (.int 2)))
theorem rd_side {σ : L2.St} {H : Hp} {wh nh : Int} {Q : VK} (h3 : σ[3]? = some (some (.int wh))) (h7 : σ[7]? = some (some (.int nh))) (k : ∀ x : Int, Q (.int (x % 2)) H) : t_side σ H Q := by
  refine ⟨_, h3, _, _, rfl, rfl, ⟨by decide, by decide⟩, _, _, rfl, rfl, (by show (0 : Int) < 3; decide), _, _, rfl, rfl, _, rfl, ite2 (fun _ => ?_) fun _ => ?_⟩
  · exact ⟨_, h7, _, _, rfl, rfl, ⟨by decide, by decide⟩, _, _, rfl, rfl, (by show (0 : Int) < 2; decide), k _⟩
  · exact ⟨_, h3, _, _, rfl, rfl, ⟨by decide, by decide⟩, _, _, rfl, rfl, (by show (0 : Int) < 2; decide), k _⟩
theorem mem_cells {bs : List Int} {z : Int} (h : z ∈ bs ++ bs ++ [8, 3]) (hb : ∀ n ∈ bs, Builtin.Int.intBits n ≤ 1048576) : Builtin.Int.intBits z ≤ 1048576 := by
  simp at h
  rcases h with h | h | h
  · exact hb z h
  · subst h
    decide
  · subst h
    decide
theorem ok_deeds {f fN : Addr} {fd fdN : FuncData} (F : Fun K "_law_deeds" "_law_deeds" sDeeds f fd) (D : DTxt mg) (FN : Fun K "_law_number" "_law_number" sNum fN fdN) (bN : Binds K fdN ["_law_cell", "_law_at", "_law_whole"] []) (gN : mg "_law_number" = some (.ref fN)) :
    FnOk P w K mg base CX0 2 f fd ["_law_script", "_law_by"] (spDeeds K) := by
  have GN : FnOk P w K mg base CX0 1 fN fdN ["_law_cell", "_law_at", "_law_whole"] spNum := ok_num FN
  refine F.ok scDeeds (fun vs H Q E h => ?_) (fun cdv A outer s H vs Q E hr h => ?_)
  · obtain ⟨a, ns, b, rfl, _⟩ := h
    rfl
  · obtain ⟨a, ns, by_, rfl, hS, hlen, hbits, hby0, hby1, k⟩ := h
    refine ⟨_, pss_cons (ps_set (i := 2) scDeeds.nd rfl (Or.inl rfl) (pe_op op_cat (pe_op op_rep (pe_ifExp (pt_cmpR (op_neI hr.units) (pv 0) (pe_lst pa_nil) (nomark _)) (pe_slice sl_list (pv 0) po_none (po_some pe_int)) (pe_lst (pa_cons pe_int pa_nil))) pe_int) (pe_lst (pa_cons pe_int (pa_cons pe_int pa_nil)))))
      (pss_cons (ps_set (i := 3) scDeeds.nd rfl (Or.inl rfl) (pe_op op_add (pe_callB call_abs (by rfl) D.abs (by decide +kernel) (pa_cons (pe_callB (cr_sum rfl) (by rfl) D.sum (by decide +kernel) (pa_cons (pe_slice sl_list (pv 0) po_none (po_some pe_int)) pa_nil)) pa_nil)) (pv 1)))
      (pss_cons (ps_set (i := 4) scDeeds.nd rfl (Or.inl rfl) (pe_lst pa_nil))
      (pss_cons (ps_for PassesOwn.never rfl (pi_enum (by rfl) D.enum (pa_cons (pv 2) pa_nil)) (pg_tup rfl (pgs_cons (pg_name (i := 5) scDeeds.nd rfl (Or.inl rfl)) (pgs_cons (pg_name (i := 6) scDeeds.nd rfl (Or.inl rfl)) pgs_nil)))
        (pss_cons (ps_set (i := 7) scDeeds.nd rfl (Or.inl rfl) (pe_op op_fdiv (pe_call GN hr rfl gN FN.kp bN .nil pass0 (pa_cons (pv 6) (pa_cons (pe_op op_add (pv 5) (pv 1)) (pa_cons (pv 3) pa_nil)))) pe_int))
        (pss_cons (ps_set (i := 8) scDeeds.nd rfl (Or.inl rfl) (pe_ix ix_tup (pe_tup (pa_cons (pe_op op_mod (pv 7) pe_int) (pa_cons (pe_callTy call_int1 (by rfl) D.int (by decide +kernel) (pa_cons (pe_cmpR op_gt (pe_op op_mod (pv 5) pe_int) pe_int (nomark _)) pa_nil))
            (pa_cons (pe_op op_fdiv (pe_op op_mod (pv 7) pe_int) pe_int) (pa_cons (pe_callTy call_int1 (by rfl) D.int (by decide +kernel) (pa_cons (pe_cmpR op_eq (pe_op op_mod (pv 7) pe_int) pe_int (nomark _)) pa_nil)) pa_nil))))) (pe_op op_mod (pv 3) pe_int) (fun _ _ => rfl)))
        (pss_cons (ps_set (i := 9) scDeeds.nd rfl (Or.inl rfl) (pe_ix ix_tup (pe_tup (pa_cons pe_str (pa_cons pe_str pa_nil))) (pe_ifExp (pt_cmpR op_gt (pe_op op_mod (pe_op op_fdiv (pv 3) pe_int) pe_int) pe_int (nomark _)) (pe_op op_mod (pe_op op_fdiv (pv 7) pe_int) pe_int) (pe_op op_mod (pe_op op_fdiv (pv 3) pe_int) pe_int)) (fun _ _ => rfl)))
        (pss_one (ps_expr (pe_bm PySem.F.plainAttrs_list PySem.F.slot_list_append PySem.F.type_list_append mt_append (pv 4) (pa_cons (pe_tup (pa_cons (pv 8) (pa_cons (pv 9) (pa_cons (pe_op op_add (pe_op op_mulX (pv 6) pe_int) (pv 5)) pa_nil)))) pa_nil))))))))
      (pss_one (ps_ret (pv 4)))))), ?_⟩
    refine rd_base (a := a) rfl hS hlen hbits fun H1 u bs s1 hu hbl hbb => ?_
    refine ⟨u, 2, _, rfl, rfl, hu, by decide, by decide, ?_, fun v nv => ?_⟩
    · rw [List.length_map, sizeLine_eq]
      show bs.length * 2 ≤ _
      omega
    refine ⟨(by show 2 ≤ sizeLine; decide), fun x nx => ?_⟩
    refine ⟨v, x, _, _, rfl, rfl, Same.new nx _ _ upd_same, upd_same, ?_, fun c nc => ?_⟩
    · have e : (List.replicate (2 : Int).toNat (bs.map V.int)).flatten = bs.map V.int ++ bs.map V.int := by
        show (List.replicate 2 (bs.map V.int)).flatten = _
        simp [List.replicate]
      rw [e, sizeLine_eq]
      simp only [List.length_append, List.length_map, List.length_cons, List.length_nil]
      omega
    have s2 : ∀ o, Same H (upd _ c o) := fun o => ((s1.trans (Same.new nv)).trans (Same.new nx)).trans (Same.new nc)
    refine ⟨_, rfl, _, rfl, a, _, rfl, (s2 _).seq hS, fun y ny => ?_⟩
    have s3 : ∀ o, Same H (upd _ y o) := fun o => (s2 _).trans (Same.new ny)
    refine ⟨y, ns, rfl, SqL.of (by rw [upd_same, cut63 hlen]), _, rfl, _, rfl, _, _, rfl, rfl, ?_⟩
    obtain ⟨wh, hwh⟩ : ∃ wh : Int, wh = (if ns.sum < 0 then -ns.sum else ns.sum) + by_ := ⟨_, rfl⟩
    refine ⟨(by show 0 ≤ sizeLine; decide), fun l nl => ?_⟩
    have nl0 : H l = Option.none := (s3 _).free nl
    have e2 : (List.replicate (2 : Int).toNat (bs.map V.int)).flatten ++ [V.int 8, V.int 3] = (bs ++ bs ++ [8, 3]).map V.int := by
      show (List.replicate 2 (bs.map V.int)).flatten ++ [V.int 8, V.int 3] = _
      simp [List.replicate]
    rw [e2] at ny nl ⊢
    generalize hcs : bs ++ bs ++ [8, 3] = cs at ny nl ⊢
    have s4 : ∀ o, Same H (upd _ l o) := fun o => ((((s1.trans (Same.new nv)).trans (Same.new nx)).trans (Same.new nc)).trans (Same.new ny)).trans (Same.new nl)
    have hcl : cs.length ≤ 128 := by
      rw [← hcs]
      simp
      omega
    have hcb : ∀ z ∈ cs, Builtin.Int.intBits z ≤ 1048576 := fun z hz => by
      rw [← hcs] at hz
      exact mem_cells hz hbb
    have hc : ∀ o, (upd _ l o) c = some (.lst (cs.map V.int)) := fun o => Same.new nl _ _ (Same.new ny _ _ upd_same)
    have cl : c ≠ l := ne_of_none (Same.new ny _ _ upd_same) nl
    refine ⟨_, rfl, c, _, rfl, SqL.of (hc _), for_it (walk_enum (K := K) (a := c) (xs := cs.map V.int)) (fun i σ Hc => ∃ (v5 v6 v7 v8 v9 : Option V) (rs : List Addr) (ds : List Deed),
        σ = [some (.ref a), some (.int by_), some (.ref c), some (.int wh), some (.ref l), v5, v6, v7, v8, v9] ∧ Same H Hc ∧ Hc c = some (.lst (cs.map V.int)) ∧ DeedsAt Hc l rs ds ∧ (∀ r ∈ rs, H r = Option.none) ∧ (∀ d ∈ ds, d.ok) ∧ ds.length = i)
      ⟨none, none, none, none, none, [], [], (by rw [hwh]; rfl), s4 _, hc _, ⟨upd_same, rfl, fun i r e => by simp at e⟩, by simp, by simp, rfl⟩ (fun i σ Hc _ ⟨_, _, _, _, _, _, _, _, _, h, _⟩ => SqL.of h) ?_ ?_⟩
    · rintro i x0 σ Hc H' hi ⟨v5, v6, v7, v8, v9, rs, ds, rfl, s5, hcc, hD, hrs, hds, hdl⟩ ⟨T, i0, z0, rfl, nT, rfl, e0, ez⟩
      obtain rfl : V.int (i : Nat) = i0 := Option.some.inj e0
      obtain ⟨z, hz, rfl⟩ := item_of ez
      have hi2 : i < 128 := by
        rw [List.length_map] at hi
        omega
      have s6 : Same Hc (upd Hc T (.tup [.int (i : Nat), .int z])) := Same.new nT
      refine ⟨T, _, rfl, SqT.of upd_same, rfl, _, _, rfl, _, _, rfl, rfl, ?_⟩
      -- the number
      refine ⟨_, rfl, _, rfl, _, rfl, _, _, rfl, rfl, _, rfl, z, _, wh, rfl, hcb z (List.mem_of_getElem? hz), (by omega), (by omega), fun nm => ?_⟩
      refine ⟨_, _, rfl, rfl, ⟨by decide, by decide⟩, ?_⟩
      -- the kind
      refine ⟨_, rfl, _, _, rfl, rfl, (by show (0 : Int) < 2; decide), ?_⟩
      refine ⟨_, rfl, _, _, rfl, rfl, (by show (0 : Int) < 40; decide), _, _, rfl, rfl, .inr ⟨_, rfl, ?_⟩⟩
      refine ⟨_, rfl, _, _, rfl, rfl, (by show (0 : Int) < 4; decide), _, _, rfl, rfl, ⟨by decide, by decide⟩, ?_⟩
      refine ⟨_, rfl, _, _, rfl, rfl, (by show (0 : Int) < 3; decide), rfl, .inr ⟨_, rfl, ?_⟩⟩
      refine ⟨(by show 4 ≤ sizeLine; decide), fun t1 n1 => ?_⟩
      obtain ⟨kd, hk, hk01⟩ := kind_at (nm / 3) wh (decide (25 < ((i : Nat) : Int) % 40)) (decide (V.int (nm / 3 % 3) = V.int 0))
      refine ⟨_, rfl, _, _, rfl, rfl, (by show (0 : Int) < 4; decide), t1, _, _, _, rfl, rfl, SqT.of upd_same, hk, ?_⟩
      -- the end
      refine ⟨(by show 2 ≤ sizeLine; decide), fun t2 n2 => ?_⟩
      refine rd_side (wh := wh) (nh := nm / 3) rfl rfl fun sd => ?_
      obtain ⟨fr, hfr⟩ := end_at sd
      refine ⟨t2, _, _, _, rfl, rfl, SqT.of upd_same, hfr, ?_⟩
      -- the thing, laid into the list
      have s7 : ∀ o, Same Hc (upd _ t2 o) := fun o => (s6.trans (Same.new n1)).trans (Same.new n2)
      refine ⟨_, rfl, .inl ⟨rfl, _, SqL.of (s7 _ _ _ hD.1)⟩, _, rfl, _, rfl, _, rfl, _, _, rfl, rfl, ?_, _, rfl, _, _, rfl, rfl, (by show 3 ≤ sizeLine; decide), fun t3 n3 => ?_⟩
      · have hz2 := hcb z (List.mem_of_getElem? hz)
        show (Builtin.Int.intBits z : Int) + (Builtin.Int.intBits 7 : Int) ≤ 134217728
        have e7 : Builtin.Int.intBits 7 = 3 := by decide
        rw [e7]
        omega
      have s8 : ∀ o, Same Hc (upd _ t3 o) := fun o => (s7 _).trans (Same.new n3)
      have n3c : Hc t3 = Option.none := (s7 _).free n3
      have n3H : H t3 = Option.none := s5.free n3c
      refine ⟨l, _, _, rfl, rfl, s8 _ _ _ hD.1, ?_, ?_⟩
      · rw [List.length_map, hD.2.1, hdl, sizeLine_eq]
        omega
      refine ⟨_, _, _, _, _, rs ++ [t3], ds ++ [⟨kd, fr, z * 7 + ((i : Nat) : Int)⟩], rfl, ?_, ?_, ?_, ?_, ?_, ?_⟩
      · exact Same.upd (s5.trans (s8 _)) nl0
      · rw [upd_ne cl]
        exact s8 _ _ _ hcc
      · refine ⟨by rw [upd_same, List.map_append]; rfl, by rw [List.length_append, List.length_append, hD.2.1]; rfl, fun j r e => ?_⟩
        by_cases hj : j < rs.length
        · rw [List.getElem?_append_left hj] at e
          obtain ⟨d, e1, e3⟩ := hD.2.2 j r e
          refine ⟨d, by rw [List.getElem?_append_left (by rw [← hD.2.1]; exact hj)]; exact e1, ?_⟩
          have hrl : r ≠ l := ne_of e3 hD.1 (by intro q; cases q)
          rw [upd_ne hrl]
          exact s8 _ _ _ e3
        · have hj2 : j = rs.length := by
            have := (List.getElem?_eq_some_iff.mp e).1
            rw [List.length_append] at this
            simp at this
            omega
          subst hj2
          rw [List.getElem?_append_right (Nat.le_refl _), Nat.sub_self] at e
          obtain rfl : t3 = r := Option.some.inj e
          refine ⟨⟨kd, fr, z * 7 + ((i : Nat) : Int)⟩, ?_, ?_⟩
          · rw [List.getElem?_append_right (by rw [hD.2.1]; exact Nat.le_refl _), hD.2.1, Nat.sub_self]
            rfl
          · have h3l : t3 ≠ l := fun q => by
              rw [q, hD.1] at n3c
              cases n3c
            rw [upd_ne h3l, upd_same]
            rfl
      · intro r hr2
        rw [List.mem_append] at hr2
        rcases hr2 with hr2 | hr2
        · exact hrs r hr2
        · simp at hr2
          rw [hr2]
          exact n3H
      · intro d hd
        rw [List.mem_append] at hd
        rcases hd with hd | hd
        · exact hds d hd
        · simp at hd
          rw [hd]
          exact hk01
      · rw [List.length_append, hdl]
        rfl
    · rintro σ Hc ⟨v5, v6, v7, v8, v9, rs, ds, rfl, s5, hcc, hD, hrs, hds, hdl⟩
      rw [List.length_map] at hdl
      exact ⟨_, rfl, k Hc l rs ds s5 hD nl0 hrs hds (by omega)⟩
end
end Hf
/-! ## the defs of Halfline together -/
namespace Hf
open PySem PySem.Spec PyProof.Rows L2
/-- a method of the class at C, by its promise -/
def MethOk (P : Program) (w : World) (K : PySem.W.Frag) (mg : Str → Option Value) (base : Heap) (CX : CXT) (k : Nat) (C : Addr) (m : Str) (ps : List Str) (sp : Sp) : Prop :=
  ∃ (f : Addr) (fd : FuncData), Meth K C m f ∧ Binds K fd ps [] ∧ FnOk P w K mg base CX k f fd ps sp
def InitOk (P : Program) (w : World) (K : PySem.W.Frag) (mg : Str → Option Value) (base : Heap) (C : Addr) (sp : Sp) : Prop :=
  ∃ (f : Addr) (fd : FuncData), Mk K C f ∧ Binds K fd ["self"] [] ∧ FnOk P w K mg base CX0 1 f fd ["self"] sp
def DefOk (P : Program) (w : World) (K : PySem.W.Frag) (mg : Str → Option Value) (base : Heap) (CX : CXT) (k : Nat) (x : Str) (ps : List Str) (sp : Sp) : Prop :=
  ∃ (f : Addr) (fd : FuncData), mg x = some (.ref f) ∧ PySem.W.keepIn K (.ref f) = true ∧ Binds K fd ps [] ∧ FnOk P w K mg base CX k f fd ps sp
/-! ### lists told -/
theorem things_nil {xs ys : List Int} : xs.reverse ++ ys = [] ↔ xs = [] ∧ ys = [] := by simp
theorem put_things (fr : Bool) (xs ys : List Int) (z : Int) : (putX fr xs z).reverse ++ putX (!fr) ys z = if fr then z :: (xs.reverse ++ ys) else xs.reverse ++ ys ++ [z] := by
  cases fr <;> simp [putX]
theorem take_front {xs ys : List Int} (h : xs ≠ [] ∨ ys ≠ []) : xs.reverse ++ ys = takeZ true xs ys :: ((takeX true xs ys).reverse ++ takeY true xs ys) := takeM_things h
theorem take_back {xs ys : List Int} (h : xs ≠ [] ∨ ys ≠ []) : xs.reverse ++ ys = (takeX false xs ys).reverse ++ takeY false xs ys ++ [takeZ false xs ys] := by
  have e := congrArg List.reverse (takeM_things (mine := ys) (theirs := xs) h.symm)
  simp at e
  show xs.reverse ++ ys = (takeM ys xs).2.2.1.reverse ++ (takeM ys xs).2.1 ++ [(takeM ys xs).1]
  rw [e]
  simp
theorem take_len {fr : Bool} {xs ys : List Int} (h : xs ≠ [] ∨ ys ≠ []) : (takeX fr xs ys).length + (takeY fr xs ys).length + 1 = xs.length + ys.length := by
  cases fr with
  | true =>
    have e := congrArg List.length (take_front h)
    simp at e
    omega
  | false =>
    have e := congrArg List.length (take_back h)
    simp at e
    omega
/-- the two rows changed by a deed -/
theorem ne_things {xs ys : List Int} (h : xs.reverse ++ ys ≠ []) : xs ≠ [] ∨ ys ≠ [] := by
  by_cases c : xs = []
  · right
    intro d
    exact h (by rw [c, d]; rfl)
  · exact .inl c
theorem cut_one (xs : List V) : cutV xs (some (1 : Int)) none = xs.drop 1 := cut_from xs 1
theorem cut_but (xs : List V) : cutV xs none (some (-1 : Int)) = xs.dropLast := by
  unfold cutV
  have e : HT.sIx xs.length xs.length (some (-1 : Int)) = xs.length - 1 := by
    unfold HT.sIx
    simp
    omega
  rw [e]
  show (xs.drop 0).take (xs.length - 1 - 0) = xs.dropLast
  rw [List.drop_zero, Nat.sub_zero, List.dropLast_eq_take]
theorem atI_head {x : V} {xs : List V} : atI (x :: xs) (0 : Int) = some x := atI_nat (j := 0) rfl
theorem atI_lastI (xs : List Int) (v : Int) : atI ((xs ++ [v]).map V.int) (-1) = some (V.int v) := by
  rw [List.map_append]
  exact atI_last _ _
theorem kit_ref {K : PySem.W.Frag} {t : Value} {C : Addr} {b : Bool} (hd : PySem.W.hasDictIn K C = true) (ty : PySem.W.typeIn K (.ref C) = some (.type "type")) (self : PySem.W.subIn K t t = some true) (h : PySem.W.subIn K t (.ref C) = some b) : PySem.W.kitOne K t (.ref C) = some b := by
  obtain ⟨cd, hc, _⟩ := PySem.W.any_some hd
  have e2 : ((PySem.W.clsIn K C).isSome && PySem.W.typeIn K (.ref C) == some (.type "type")) = true := by rw [hc, ty] <;> rfl
  unfold PySem.W.kitOne
  by_cases e : (t == Value.ref C) = true
  · have e3 : t = Value.ref C := by simpa using e
    subst e3
    rw [self] at h
    rw [if_pos e]
    exact h
  · rw [if_neg e]
    show (if ((PySem.W.clsIn K C).isSome && PySem.W.typeIn K (.ref C) == some (.type "type")) = true then PySem.W.subIn K t (.ref C) else none) = some b
    rw [if_pos e2]
    exact h
/-- what is known of an error's class, asked by isinstance and by except -/
structure EIs (K : PySem.W.Frag) (CL CT CE CM : Addr) : Prop where
  cT : ExcC K CT
  cE : ExcC K CE
  cM : ExcC K CM
  lT : PySem.W.exmOne K (.ref CT) (.ref CL) = some true
  lE : PySem.W.exmOne K (.ref CE) (.ref CL) = some true
  lM : PySem.W.exmOne K (.ref CM) (.ref CL) = some true
  mT : PySem.W.kitOne K (.ref CM) (.ref CT) = some false
  mE : PySem.W.kitOne K (.ref CM) (.ref CE) = some false
  mM : PySem.W.kitOne K (.ref CM) (.ref CM) = some true
  tT : PySem.W.kitOne K (.ref CT) (.ref CT) = some true
  tE : PySem.W.kitOne K (.ref CT) (.ref CE) = some false
  tM : PySem.W.kitOne K (.ref CT) (.ref CM) = some false
  eT : PySem.W.kitOne K (.ref CE) (.ref CT) = some false
  eE : PySem.W.kitOne K (.ref CE) (.ref CE) = some true
  eM : PySem.W.kitOne K (.ref CE) (.ref CM) = some false
/-! ### the methods called: the reading of a call -/
section
variable {K : PySem.W.Frag} {C CT CE CM : Addr} {H : Hp} {p : Addr} {A : List Addr} {xs ys : List Int} {n : Int}
theorem HalfAt.obj {m : Str} (h : HalfAt C H p A xs ys n) (h1 : (m == "front") = false := by decide +kernel) (h2 : (m == "back") = false := by decide +kernel) (h3 : (m == "steps") = false := by decide +kernel) :
    ∃ dx fs, H p = some (.ins C dx fs) ∧ fs.lookup m = none := by
  obtain ⟨dx, f, b, rfl, e1, _⟩ := h
  exact ⟨dx, _, e1, hF_no _ _ _ h1 h2 h3⟩
theorem HalfAt.fresh (h : HalfAt C H p A xs ys n) {m : Addr} (hm : H m = none) : m ∉ A := fun q => by
  obtain ⟨o, e⟩ := h.trk m q
  rw [hm] at e
  cases e
theorem rd_things {j : Nat} {σ : L2.St} {Q : VK} (h0 : σ[j]? = some (some (.ref p))) (hA : HalfAt C H p A xs ys n) (hl : xs.length + ys.length < 1000000)
    (k : ∀ (H' : Hp) (l : Addr), Same H H' → H l = none → H' l = some (.lst ((xs.reverse ++ ys).map V.int)) → Q (.ref l) H') : tMeth C "things" (spThingsH C) [] E0 (tVar j) tNil σ H Q := by
  obtain ⟨dx, fs, e1, e2⟩ := hA.obj (m := "things")
  exact ⟨_, h0, p, dx, fs, rfl, e1, e2, p, A, xs, ys, n, rfl, hA, hl, k⟩
theorem rd_put {j : Nat} {σ : L2.St} {Q : VK} {t : TA} {fr : Bool} {z : Int} (h0 : σ[j]? = some (some (.ref p))) (hA : HalfAt C H p A xs ys n) (hl : xs.length + ys.length < 1000000)
    (ht : ∀ R : List V → Hp → Prop, R [.str (endS fr), .int z] H → t σ H R)
    (k : ∀ (H' : Hp) (A' : List Addr), HalfAt C H' p A' (putX fr xs z) (putX (!fr) ys z) (n + 1) → Step H A H' A' → Q .non H') : tMeth C "put" (spPutH K C CT CE) [] E0 (tVar j) t σ H Q := by
  obtain ⟨dx, fs, e1, e2⟩ := hA.obj (m := "put")
  exact ⟨_, h0, p, dx, fs, rfl, e1, e2, ht _ ⟨p, A, xs, ys, n, hA, .inl ⟨fr, z, rfl, hl, k⟩⟩⟩
theorem rd_take {j : Nat} {σ : L2.St} {Q : VK} {t : TA} {fr : Bool} (h0 : σ[j]? = some (some (.ref p))) (hA : HalfAt C H p A xs ys n) (hl : xs.length + ys.length < 1000000) (hne : xs ≠ [] ∨ ys ≠ [])
    (ht : ∀ R : List V → Hp → Prop, R [.str (endS fr)] H → t σ H R)
    (k : ∀ (H' : Hp) (A' : List Addr), HalfAt C H' p A' (takeX fr xs ys) (takeY fr xs ys) (n + takeN fr xs ys) → Step H A H' A' → Q (.int (takeZ fr xs ys)) H') : tMeth C "take" (spTakeH K C CE CM) [] E0 (tVar j) t σ H Q := by
  obtain ⟨dx, fs, e1, e2⟩ := hA.obj (m := "take")
  exact ⟨_, h0, p, dx, fs, rfl, e1, e2, ht _ ⟨p, A, xs, ys, n, hA, hl, .inr (.inl ⟨fr, rfl, hne, k⟩)⟩⟩
theorem rd_steps {j : Nat} {σ : L2.St} {Q : VK} (h0 : σ[j]? = some (some (.ref p))) (hA : HalfAt C H p A xs ys n) (k : Q (.int n) H) : tMeth C "steps_so_far" (spStepsH C) [] E0 (tVar j) tNil σ H Q := by
  obtain ⟨dx, fs, e1, e2⟩ := hA.obj (m := "steps_so_far")
  exact ⟨_, h0, p, dx, fs, rfl, e1, e2, p, A, xs, ys, n, rfl, hA, k⟩
theorem rd_halves {j : Nat} {σ : L2.St} {Q : VK} (h0 : σ[j]? = some (some (.ref p))) (hA : HalfAt C H p A xs ys n)
    (k : ∀ (H' : Hp) (t : Addr), Same H H' → H t = none → H' t = some (.tup [.int (xs.length : Int), .int (ys.length : Int)]) → Q (.ref t) H') : tMeth C "halves" (spHalvesH C) [] E0 (tVar j) tNil σ H Q := by
  obtain ⟨dx, fs, e1, e2⟩ := hA.obj (m := "halves")
  exact ⟨_, h0, p, dx, fs, rfl, e1, e2, p, A, xs, ys, n, rfl, hA, k⟩
theorem rd_purse {j : Nat} {σ : L2.St} {Q : VK} (h0 : σ[j]? = some (some (.ref p))) (hA : HalfAt C H p A xs ys n)
    (k : Q (.int (3 * (if (xs.length : Int) - (ys.length : Int) < 0 then -((xs.length : Int) - (ys.length : Int)) else (xs.length : Int) - (ys.length : Int)))) H) : tMeth C "purse" (spPurseH C) [] E0 (tVar j) tNil σ H Q := by
  obtain ⟨dx, fs, e1, e2⟩ := hA.obj (m := "purse")
  exact ⟨_, h0, p, dx, fs, rfl, e1, e2, p, A, xs, ys, n, rfl, hA, k⟩
theorem rd_turn {j : Nat} {σ : L2.St} {Q : VK} (h0 : σ[j]? = some (some (.ref p))) (hA : HalfAt C H p A xs ys n)
    (k : ∀ (H' : Hp) (A' : List Addr), HalfAt C H' p A' ys xs n → Step H A H' A' → Q .non H') : tMeth C "turn" (spTurnH C) [] E0 (tVar j) tNil σ H Q := by
  obtain ⟨dx, fs, e1, e2⟩ := hA.obj (m := "turn")
  exact ⟨_, h0, p, dx, fs, rfl, e1, e2, p, A, xs, ys, n, rfl, hA, k⟩
end
/-- a new Halfline: what stood stays, and is none of its own -/
theorem made_step {C x dx : Addr} {H H1 : Hp} {A : List Addr} (nx : H x = none) (nd : H dx = none)
    (kp : ∀ b o, (upd (upd H dx (.own x)) x (.ins C dx [])) b = some o → b ≠ x → H1 b = some o ∧ b ∉ A) : Step H [] H1 A := fun q o e _ =>
  kp q o (by rw [upd_ne (ne_of_none e nx), upd_ne (ne_of_none e nd)]; exact e) (ne_of_none e nx)
theorem Step.toSame {H H' : Hp} {A : List Addr} (h : Step H [] H' A) : Same H H' := fun q o e => (h q o e (by simp)).1
theorem small_size {n : Nat} (h : n < 1000000) : n ≤ sizeLine := by
  rw [sizeLine_eq]
  omega
end Hf
/-! ## two objects side by side -/
namespace Hf
open PySem PySem.Spec PyProof.Rows L2
def Apart (A B : List Addr) : Prop := ∀ x, x ∈ A → x ∉ B
theorem Apart.symm {A B : List Addr} (h : Apart A B) : Apart B A := fun x hb ha => h x ha hb
/-- a deed at the one (A) leaves what is the other's (B) alone -/
theorem Step.apart {H H' : Hp} {A A' B : List Addr} (st : Step H A H' A') (tr : ∀ q, q ∈ B → ∃ o, H q = some o) (ap : Apart B A) : Apart B A' := fun x hx => by
  obtain ⟨o, e⟩ := tr x hx
  exact (st x o e (ap x hx)).2
theorem Step.rest {H H' : Hp} {A A' B : List Addr} (st : Step H A H' A') (ap : Apart B A) : ∀ q o, q ∈ B → H q = some o → H' q = some o := fun q o hq e => (st q o e (ap q hq)).1
theorem Step.left {H H' : Hp} {A A' B : List Addr} (st : Step H A H' A') : Step H (A ++ B) H' (A' ++ B) := fun q o e hq => by
  rw [List.mem_append] at hq
  have h := st q o e fun z => hq (.inl z)
  refine ⟨h.1, ?_⟩
  rw [List.mem_append]
  exact fun z => z.elim h.2 fun z => hq (.inr z)
theorem Step.right {H H' : Hp} {A A' B : List Addr} (st : Step H A H' A') : Step H (B ++ A) H' (B ++ A') := fun q o e hq => by
  rw [List.mem_append] at hq
  have h := st q o e fun z => hq (.inr z)
  refine ⟨h.1, ?_⟩
  rw [List.mem_append]
  exact fun z => z.elim (fun z => hq (.inl z)) h.2
theorem Step.both {H H' : Hp} {A B A' B' : List Addr} (h : Step H A H' A') (g : Step H [] H' B') (hB : B = []) : Step H (A ++ B) H' (A' ++ B') := fun q o e hq => by
  subst hB
  rw [List.append_nil] at hq
  have h1 := h q o e hq
  have h2 := g q o e (by simp)
  exact ⟨h1.1, by rw [List.mem_append]; exact fun z => z.elim h1.2 h2.2⟩
end Hf
namespace Hf
open PySem PySem.Spec PyProof.Rows L2
/-! ### t[::-1] of a pair -/
section
variable {prog : Program} {w : World} {A : Around} {E : Value → Shared → Prop} {s : Shared}
theorem back_applied {sl : Addr} {vs : Value} {Q : Int × Int × Nat → Shared → Prop} (hs : s.heap.IsSliceOf sl .none .none vs) (ps : IsPart vs (some (-1))) (h : Q (1, -1, 2) s) :
    wpAny (model prog w) A (Builtin.Slice.sliceApplied (.ref sl) (pure ((2 : Nat) : Int))) Q E s := by
  obtain ⟨os, hos, hcs, hds⟩ := id hs
  unfold Builtin.Slice.sliceApplied Builtin.Slice.sliceFields
  refine wpAny_bind (wpAny_bind (wpAny_field hos hds (x := .none) rfl (wpAny_bind (wpAny_field hos hds (x := .none) rfl (wpAny_bind (wpAny_field hos hds (x := vs) rfl (wpAny_pure ?_)))))))
  refine wpAny_bind (HT.slicePart_ ps ?_)
  show wpAny _ _ (if ((-1 : Int) == 0) = true then _ else _) _ _ s
  rw [if_neg (by decide)]
  refine wpAny_bind (HT.slicePart_ .none (wpAny_bind (HT.slicePart_ .none (wpAny_bind (wpAny_pure ?_)))))
  exact wpAny_pure h
theorem getItem_pair_back {t sl : Addr} {u v vs : Value} {Q : Value → Shared → Prop} (ht : IsTup s.heap t #[u, v]) (hs : s.heap.IsSliceOf sl .none .none vs) (ps : IsPart vs (some (-1)))
    (h : Q (.ref s.heap.objs.size) { s with heap := s.heap.push { cls := .type "tuple", data := .seq #[v, u] } }) : wpAny (model prog w) A (getItem (.ref t) (.ref sl)) Q E s := by
  obtain ⟨os, hos, hcs, hds⟩ := id hs
  have hTs : s.TypeIs (.ref sl) "slice" := ⟨os, hos, hcs⟩
  unfold getItem
  try with_reducible refine wpAny_holding ?_
  first | refine wpAny_bind (wpAny_pure ?_) | skip
  refine wpAny_bind (wpAny_sequenceKey ht.typeIs (by decide) ?_)
  refine wpAny_bind (wpAny_callSpecial?_slot (name := Str.ofString "__getitem__") ht.typeIs PyProof.Rows.slot_tuple_getitem
    (wpAny_call_entry PyProof.Rows.slot_tuple_getitem ht.typeIs entry_tuple_getitem ?_ (args_tuple_getitem _ _)))
  show wpAny _ _ (Builtin.Tuple.tupleItemsOf (.ref t) >>= _) _ _ s
  refine wpAny_bind (tupleItemsOf_ ht ?_)
  refine wpAny_bind (wpAny_typeOf hTs ?_)
  rw [if_pos (by decide)]
  refine wpAny_bind (back_applied hs ps ?_)
  show wpAny _ _ (if ((1 : Int) == 0 && (-1 : Int) == 1 && (2 : Nat) == 2) = true then _ else _) _ _ s
  rw [if_neg (by decide)]
  have e : ((List.range 2).filterMap fun (k : Nat) => (#[u, v] : Array Value)[(1 + (k : Int) * (-1)).toNat]?).toArray = #[v, u] := rfl
  rw [e]
  exact wpAny_bind (m := Builtin.Tuple.tupleExact _) (wpAny_newObj_type (wpAny_pure ⟨_, rfl, wpAny_pure h⟩) (by show 2 ≤ sizeLine; decide))
end
def tRev2 (K : PySem.W.Frag) (te : TE) : TE := fun σ H Q => te σ H fun x H1 => ∃ a y z, x = .ref a ∧ SqT K H1 a [y, z] ∧ ∀ p, H1 p = none → Q (.ref p) (upd H1 p (.tup [z, y]))
theorem pe_rev2 {X : Cx} {e : Expr} {te : TE} {k : Nat} {p1 p2 p3 pos : Pos} (he : PE X e te) : PE X (.Subscript e (.Slice none none (some (.UnaryOp .USub (.Constant (.int 1) k p1) p2)) p3) pos) (tRev2 X.K te) := by
  refine ⟨fun pins s σ H Q I h => ?_⟩
  refine Subscript_ (thn (he.run pins s σ H _ I h) fun v s1 ⟨x, H1, I1, r1, a, y, z, ex, hx, q⟩ => ?_)
  subst ex
  cases r1
  have hst : PO X (some (.UnaryOp .USub (.Constant (.int 1) k p1) p2)) (tPart (tUn (rU fun i => .int (-i)) (tC (.int 1)))) := po_some (pe_un un_neg pe_int)
  refine wpAny_Slice ?_
  rw [evalPart_none]
  refine wpAny_pure (wpAny_pure ?_)
  refine thn (hst.run pins s1 σ H1 (fun o H4 => o = some (-1) ∧ H4 = H1) I1 ⟨1, rfl, -1, rfl, rfl, rfl⟩) fun vs s4 ⟨o, H4, I4, ps, eo, e4⟩ => ?_
  subst eo e4
  have I5 : Inv X pins σ H4 { s4 with heap := s4.heap.push { cls := .type "slice", data := .fields #[.none, .none, vs] } } := I4.kept (t' := s4.toks) fun b ob q => Heap.get?_push_of_some _ q
  obtain ⟨its, r, ht, hz⟩ := I5.tuple hx
  cases r with
  | cons ra rr =>
    cases rr with
    | cons rb rr =>
      cases rr
      refine tail_any (ops := [.ref a, .ref s4.heap.objs.size]) ht.typeIs PyProof.Rows.slot_tuple_getitem.lookup ?_ (by with_unfolding_all rfl)
      refine getItem_pair_back ht (Heap.IsSliceOf.new _ .none .none vs) ps ?_
      refine ⟨.ref _, _, I5.laid (t' := s4.toks) (o := .tup [z, y]) (fun b ob q => Heap.get?_push_of_some _ q) (Nat.le_refl _) ?_, rfl, q _ (I5.hok.fresh (Nat.le_refl _))⟩
      exact ⟨by show 2 ≤ sizeLine; decide, _, .cons rb (.cons ra .nil), IsTup.new _ _⟩
end Hf
/-! ## the law k03 -/
namespace Hf
open PySem PySem.Spec PyProof.Rows L2
abbrev sLaw : Stmt := top 13
theorem take_swap (fr : Bool) (xs ys : List Int) : takeX (!fr) ys xs = takeY fr xs ys ∧ takeY (!fr) ys xs = takeX fr xs ys ∧ takeZ (!fr) ys xs = takeZ fr xs ys ∧ takeN (!fr) ys xs = takeN fr xs ys := by
  cases fr <;> exact ⟨rfl, rfl, rfl, rfl⟩
def otherD : List (Key × V) := [(Sum.inr "front", .str "back"), (Sum.inr "back", .str "front")]
theorem other_val (fr : Bool) : valV otherD (Sum.inr (endS fr)) = some (.str (endS (!fr))) := by cases fr <;> decide +kernel
theorem other_merge : mergeK [] otherD = otherD := by decide +kernel
/-- the rows as the other line has them -/
def abX (ab : Bool) (xs ys : List Int) : List Int := if ab then ys else xs
theorem ab_things (ab : Bool) (xs ys : List Int) : (abX ab xs ys).reverse ++ abX ab ys xs = if ab then (xs.reverse ++ ys).reverse else xs.reverse ++ ys := by
  cases ab <;> simp [abX]
/-- the second line has the first one's rows, exchanged when turned about -/
def Twins (C : Addr) (H : Hp) (p q : Addr) (A1 A2 : List Addr) (ab : Bool) (xs ys : List Int) (n : Int) : Prop := HalfAt C H p A1 xs ys n ∧ HalfAt C H q A2 (abX ab xs ys) (abX ab ys xs) n ∧ Apart A1 A2
theorem Twins.same {C : Addr} {H H' : Hp} {p q : Addr} {A1 A2 : List Addr} {ab : Bool} {xs ys : List Int} {n : Int} (h : Twins C H p q A1 A2 ab xs ys n) (s : Same H H') : Twins C H' p q A1 A2 ab xs ys n := ⟨h.1.same s, h.2.1.same s, h.2.2⟩
theorem ab_len (ab : Bool) (xs ys : List Int) : (abX ab xs ys).length + (abX ab ys xs).length = xs.length + ys.length := by
  cases ab <;> simp [abX] <;> omega
/-- the end at which the other line does the same -/
def thS (ab fr : Bool) : Bool := if ab then !fr else fr
theorem ab_put (ab fr : Bool) (xs ys : List Int) (z : Int) : putX (thS ab fr) (abX ab xs ys) z = abX ab (putX fr xs z) (putX (!fr) ys z) ∧ putX (!thS ab fr) (abX ab ys xs) z = abX ab (putX (!fr) ys z) (putX fr xs z) := by
  cases ab <;> cases fr <;> exact ⟨rfl, rfl⟩
theorem ab_take (ab fr : Bool) (xs ys : List Int) : takeX (thS ab fr) (abX ab xs ys) (abX ab ys xs) = abX ab (takeX fr xs ys) (takeY fr xs ys) ∧ takeY (thS ab fr) (abX ab xs ys) (abX ab ys xs) = abX ab (takeY fr xs ys) (takeX fr xs ys) ∧
    takeZ (thS ab fr) (abX ab xs ys) (abX ab ys xs) = takeZ fr xs ys ∧ takeN (thS ab fr) (abX ab xs ys) (abX ab ys xs) = takeN fr xs ys := by
  cases ab <;> cases fr <;> exact ⟨rfl, rfl, rfl, rfl⟩
theorem ab_ne {ab : Bool} {xs ys : List Int} (h : xs ≠ [] ∨ ys ≠ []) : abX ab xs ys ≠ [] ∨ abX ab ys xs ≠ [] := by
  cases ab with
  | true => exact h.symm
  | false => exact h
def spLaw (K : PySem.W.Frag) : Sp := fun vs H Q _ => ∃ (a : Addr) (ns : List Int), vs = [.ref a] ∧ SqL K H a (ns.map V.int) ∧ ns.length ≤ 63 ∧ (∀ n ∈ ns, Builtin.Int.intBits n ≤ 1048576) ∧ ∀ H', Q (.bl true) H'
section
variable {P : Program} {w : World} {K : PySem.W.Frag} {mg : Str → Option Value} {base : Heap} {C CT CE CM aE : Addr}
theorem scLaw : FnScope ["_law_script", "_law_other_end", "_law_by", "_law_one", "_law_other", "_law_about", "_law_at", "_law_kind", "_law_end", "_law_thing", "_law_there", "_law_mine", "_law_theirs", "_law_line"] ["_law_script"] (defScope sLaw) := ⟨rfl, rfl, rfl, by decide +kernel, rfl, by decide +kernel, by decide +kernel⟩
theorem ok_law {f : Addr} {fd : FuncData} (F : Fun K "law" "law" sLaw f fd) (T : HTxt K mg C CT CE CM aE) (D : DTxt mg)
    (GI : InitOk P w K mg base C (spInitH C))
    (GP : MethOk P w K mg base (L2.CX P w) 2 C "put" ["self", "end", "thing"] (spPutH K C CT CE))
    (GT : MethOk P w K mg base (L2.CX P w) 2 C "take" ["self", "end"] (spTakeH K C CE CM))
    (GS : MethOk P w K mg base CX0 1 C "things" ["self"] (spThingsH C))
    (GN : MethOk P w K mg base CX0 1 C "steps_so_far" ["self"] (spStepsH C))
    (GH : MethOk P w K mg base CX0 1 C "halves" ["self"] (spHalvesH C))
    (GU : MethOk P w K mg base CX0 1 C "purse" ["self"] (spPurseH C))
    (GR : MethOk P w K mg base CX0 1 C "turn" ["self"] (spTurnH C))
    (GD : DefOk P w K mg base CX0 2 "_law_deeds" ["_law_script", "_law_by"] (spDeeds K)) : FnOk P w K mg base CX0 3 f fd ["_law_script"] (spLaw K) := by
  obtain ⟨fI, fdI, MI, bI, GI⟩ := GI
  obtain ⟨fP, fdP, mP, bP, GP⟩ := GP
  obtain ⟨fT, fdT, mT, bT, GT⟩ := GT
  obtain ⟨fS, fdS, mS, bS, GS⟩ := GS
  obtain ⟨fN, fdN, mN, bN, GN⟩ := GN
  obtain ⟨fH, fdH, mH, bH, GH⟩ := GH
  obtain ⟨fU, fdU, mU, bU, GU⟩ := GU
  obtain ⟨fR, fdR, mR, bR, GR⟩ := GR
  obtain ⟨fD, fdD, gD, kD, bD, GD⟩ := GD
  refine F.ok scLaw (fun vs H Q E h => ?_) (fun cdv A outer s H vs Q E hr h => ?_)
  · obtain ⟨a, ns, rfl, _⟩ := h
    rfl
  · obtain ⟨a, ns, rfl, hS, hlen, hbits, k⟩ := h
    have hr1 : Room 1 _ := hr.mono (by decide)
    refine ⟨_, pss_cons (ps_set (i := 1) scLaw.nd rfl (Or.inl rfl) (pe_disp (pps_cons pe_str pe_str (pps_cons pe_str pe_str pps_nil)) (by rfl) (by rfl) (fun z => by cases z) (by decide)))
      (pss_cons (ps_for PassesOwn.never rfl (pi_list (pe_lst (pa_cons pe_int (pa_cons pe_int pa_nil)))) (pg_name (i := 2) scLaw.nd rfl (Or.inl rfl))
      (pss_cons (ps_par3 (i := 3) (j := 4) (l := 5) rfl scLaw.nd rfl rfl rfl (by decide) (by decide) (by decide) rfl rfl rfl (pa_cons (pe_make0 MI GI hr rfl T.gC bI .nil pass0) (pa_cons (pe_make0 MI GI hr rfl T.gC bI .nil pass0) (pa_cons pe_bl pa_nil))) (by rfl))
      (pss_cons (ps_for PassesOwn.never rfl (pi_enum (by rfl) D.enum (pa_cons (pe_call GD hr rfl gD kD bD .nil pass0 (pa_cons (pv 0) (pa_cons (pv 2) pa_nil))) pa_nil))
          (pg_tup rfl (pgs_cons (pg_name (i := 6) scLaw.nd rfl (Or.inl rfl)) (pgs_cons (pg_tup rfl (pgs_cons (pg_name (i := 7) scLaw.nd rfl (Or.inl rfl)) (pgs_cons (pg_name (i := 8) scLaw.nd rfl (Or.inl rfl)) (pgs_cons (pg_name (i := 9) scLaw.nd rfl (Or.inl rfl)) pgs_nil)))) pgs_nil)))
        (C8.pss_cut (ps_if (pt_cmpR op_eq (pe_op op_mod (pv 6) pe_int) pe_int (nomark _)) (pss_cons (ps_expr (pe_meth0 (pv 4) T.cl mR GR hr1 bR .nil pass0)) (pss_one (ps_set (i := 5) scLaw.nd rfl (Or.inl rfl) (pe_not (pv 5))))) pss_nil)
        (C8.pss_cut (ps_set (i := 10) scLaw.nd rfl (Or.inl rfl) (pe_ifExp (pt_val (pv 5)) (pe_dget (hu_of hr) (pv 1) (pv 8) (fun _ _ => rfl)) (pv 8)))
        (C8.pss_cut (ps_if (pt_cmpR op_eq (pv 7) pe_int (nomark _))
            (pss_cons (ps_expr (pe_meth (pv 3) T.cl mP GP hr bP .nil passL (pa_cons (pv 8) (pa_cons (pv 9) pa_nil))))
            (pss_one (ps_expr (pe_meth (pv 4) T.cl mP GP hr bP .nil passL (pa_cons (pv 10) (pa_cons (pv 9) pa_nil))))))
            (pss_one (ps_if (PW.pt (pw_and (pt_cmpR (op_neI hr.units) (pe_meth0 (pv 3) T.cl mS GS hr1 bS .nil pass0) (pe_lst pa_nil) (nomark _))
                (pw_and1 (pt_cmpR op_ne (pe_meth (pv 3) T.cl mT GT hr bT .nil passL (pa_cons (pv 8) pa_nil)) (pe_meth (pv 4) T.cl mT GT hr bT .nil passL (pa_cons (pv 10) pa_nil)) (nomark _))))) (pss_one (ps_ret pe_bl)) pss_nil)))
        (pss_cons (ps_par (i := 11) (j := 12) rfl scLaw.nd rfl rfl (by decide) rfl rfl (pa_cons (pe_meth0 (pv 3) T.cl mS GS hr1 bS .nil pass0) (pa_cons (pe_meth0 (pv 4) T.cl mS GS hr1 bS .nil pass0) pa_nil)) (by rfl))
        (C8.pss_cut (ps_if (PW.pt (pw_or (pt_cmpR (op_neI hr.units) (pv 12) (pe_ifExp (pt_val (pv 5)) (pe_revL (pv 11)) (pv 11)) (nomark _))
            (pw_or1 (pt_cmpR op_ne (pe_meth0 (pv 3) T.cl mN GN hr1 bN .nil pass0) (pe_meth0 (pv 4) T.cl mN GN hr1 bN .nil pass0) (nomark _))))) (pss_one (ps_ret pe_bl)) pss_nil)
        (pss_one (ps_if (PW.pt (pw_or (pt_cmpR (op_neT hr.units) (pe_meth0 (pv 3) T.cl mH GH hr1 bH .nil pass0) (pe_ifExp (pt_val (pv 5)) (pe_rev2 (pe_meth0 (pv 4) T.cl mH GH hr1 bH .nil pass0)) (pe_meth0 (pv 4) T.cl mH GH hr1 bH .nil pass0)) (nomark _))
            (pw_or1 (pt_cmpR op_ne (pe_meth0 (pv 3) T.cl mU GU hr1 bU .nil pass0) (pe_meth0 (pv 4) T.cl mU GU hr1 bU .nil pass0) (nomark _))))) (pss_one (ps_ret pe_bl)) pss_nil))))))))
      (pss_cons (ps_expr (pe_meth0 (pv 3) T.cl mR GR hr1 bR .nil pass0))
      (pss_cons (ps_expr (pe_meth0 (pv 3) T.cl mR GR hr1 bR .nil pass0))
      (pss_one (ps_if (pt_cmpR (op_neI hr.units) (pe_meth0 (pv 3) T.cl mS GS hr1 bS .nil pass0) (pe_ifExp (pt_val (pv 5)) (pe_revL (pe_meth0 (pv 4) T.cl mS GS hr1 bS .nil pass0)) (pe_meth0 (pv 4) T.cl mS GS hr1 bS .nil pass0)) (nomark _)) (pss_one (ps_ret pe_bl)) pss_nil)))))))
      (pss_cons (ps_set (i := 13) scLaw.nd rfl (Or.inl rfl) (pe_make0 MI GI hr rfl T.gC bI .nil pass0))
      (pss_cons (ps_expr (pe_meth (pv 13) T.cl mP GP hr bP .nil passL (pa_cons pe_str (pa_cons pe_int pa_nil))))
      (pss_cons (ps_expr (pe_meth (pv 13) T.cl mP GP hr bP .nil passL (pa_cons pe_str (pa_cons pe_int pa_nil))))
      (pss_cons (ps_expr (pe_meth0 (pv 13) T.cl mR GR hr1 bR .nil pass0))
      (pss_one (ps_ret (pe_and (pe_cmpR (op_eqI hr.units) (pe_meth0 (pv 13) T.cl mS GS hr1 bS .nil pass0) (pe_lst (pa_cons pe_int (pa_cons pe_int pa_nil))) (nomark _))
        (pe_and (pe_cmpR op_eq (pe_meth (pv 13) T.cl mT GT hr bT .nil passL (pa_cons pe_str pa_nil)) pe_int (nomark _))
        (pe_one (pe_cmpR (op_eqT hr.units) (pe_meth0 (pv 13) T.cl mH GH hr1 bH .nil pass0) (pe_tup (pa_cons pe_int (pa_cons pe_int pa_nil))) (nomark _)))))))))))), ?_⟩
    -- the dict
    refine fun dd nd => ⟨upd_same, otherD, rfl, (by decide), ?_⟩
    rw [other_merge]
    have hdd0 : (upd (upd H dd (.dK [])) dd (.dK otherD)) dd = some (.dK otherD) := upd_same
    have sD : Same H (upd (upd H dd (.dK [])) dd (.dK otherD)) := Same.upd (Same.new nd) nd
    refine ⟨(by show 2 ≤ sizeLine; decide), fun g ng => ?_⟩
    refine ⟨g, rfl, ⟨_, SqL.of upd_same⟩, for_list (K := K) (a := g) (xs := [.int 0, .int 1]) (fun i σ Hc => ∃ (v2 v3 v4 v5 v6 v7 v8 v9 v10 v11 v12 v13 : Option V), σ = [some (.ref a), some (.ref dd), v2, v3, v4, v5, v6, v7, v8, v9, v10, v11, v12, v13] ∧ Same H Hc ∧ Hc g = some (.lst [.int 0, .int 1]) ∧ Hc dd = some (.dK otherD))
      ⟨none, none, none, none, none, none, none, none, none, none, none, none, rfl, sD.trans (Same.new ng), upd_same, Same.new ng _ _ hdd0⟩ (fun i σ Hc _ ⟨_, _, _, _, _, _, _, _, _, _, _, _, _, _, hg, _⟩ => SqL.of hg) ?_ ?_⟩
    · rintro i x σ Hc hi ⟨v2, v3, v4, v5, v6, v7, v8, v9, v10, v11, v12, v13, rfl, sg, hg, hdd⟩
      obtain ⟨b, rfl, hb0, hb1⟩ : ∃ b : Int, x = .int b ∧ 0 ≤ b ∧ b ≤ 10 := by
        match i, hi with
        | 0, hi => exact ⟨0, (Option.some.inj hi).symm, by decide, by decide⟩
        | 1, hi => exact ⟨1, (Option.some.inj hi).symm, by decide, by decide⟩
        | i + 2, hi => simp at hi
      intro p dx np ndx ne
      refine ⟨p, dx, rfl, upd_same, fun H1 B1 hB1 kp => ⟨rfl, ?_⟩⟩
      have st1 : Step Hc [] H1 B1 := made_step np ndx kp
      intro q dy nq ndy ney
      refine ⟨q, dy, rfl, upd_same, fun H2 B2 hB2 kp2 => ⟨rfl, _, _, _, rfl, ?_⟩⟩
      have st2 : Step H1 [] H2 B2 := made_step nq ndy kp2
      have st12 : Step Hc [] H2 (B1 ++ B2) := fun u o e _ => by
        have h1 := st1 u o e (by simp)
        have h2 := st2 u o h1.1 (by simp)
        exact ⟨h2.1, by rw [List.mem_append]; exact fun z => z.elim h1.2 h2.2⟩
      have tw2 : Twins C H2 p q B1 B2 false [] [] 0 := ⟨hB1.same st2.toSame, hB2, fun x hx => by
        obtain ⟨o, e⟩ := hB1.trk x hx
        exact (st2 x o e (by simp)).2⟩
      -- the deeds
      refine ⟨_, rfl, _, rfl, a, ns, b, rfl, (sg.trans st12.toSame).seq hS, hlen, hbits, hb0, hb1, fun H7 l rs ds s7 hD nl nrs hok hdl => ?_⟩
      have tw7 := tw2.same s7
      have fr7 : ∀ m, H2 m = Option.none → m ∉ B1 ++ B2 := fun m hm => by
        rw [List.mem_append]
        exact fun z => z.elim (tw2.1.fresh hm) (tw2.2.1.fresh hm)
      have hl7 := fr7 l nl
      have hrs7 : ∀ r ∈ rs, r ∉ B1 ++ B2 := fun r hr => fr7 r (nrs r hr)
      have st7 : Step Hc [] H7 (B1 ++ B2) := st12.same s7
      have hdd7 := st7 _ _ hdd (by simp)
      refine ⟨l, _, rfl, SqL.of hD.1, for_it (walk_enum (K := K) (a := l) (xs := rs.map V.ref)) (fun i σ Hd => ∃ (A1 A2 : List Addr) (ab : Bool) (xs ys : List Int) (n : Int) (v6 v7 v8 v9 v10 v11 v12 v13 : Option V),
          σ = [some (.ref a), some (.ref dd), some (.int b), some (.ref p), some (.ref q), some (.bl ab), v6, v7, v8, v9, v10, v11, v12, v13] ∧ Twins C Hd p q A1 A2 ab xs ys n ∧ Step H7 (B1 ++ B2) Hd (A1 ++ A2) ∧ xs.length + ys.length ≤ i)
        ⟨B1, B2, false, [], [], 0, v6, v7, v8, v9, v10, v11, v12, v13, rfl, tw7, Step.refl _ _, Nat.le_refl _⟩ (fun i σ Hd _ ⟨_, _, _, _, _, _, _, _, _, _, _, _, _, _, _, _, st, _⟩ => SqL.of (st _ _ hD.1 hl7).1) ?_ ?_⟩
      · rintro i x0 σ Hd H' hi ⟨A1, A2, ab, xs, ys, n, w6, w7, w8, w9, w10, w11, w12, w13, rfl, tw, st, hml⟩ ⟨Tp, i0, y0, rfl, nT, rfl, e0, ey⟩
        obtain rfl : V.int (i : Nat) = i0 := Option.some.inj e0
        obtain ⟨r, hr, rfl⟩ := item_ref ey
        obtain ⟨d, hd, hr7⟩ := hD.2.2 i r hr
        have hrd := (st _ _ hr7 (hrs7 r (List.mem_of_getElem? hr))).1
        have hkd := hok d (List.mem_of_getElem? hd)
        have hi128 : i < 128 := by
          have := (List.getElem?_eq_some_iff.mp hd).1
          omega
        obtain ⟨kd, fr, z⟩ := d
        have sT : ∀ o, Same Hd (upd Hd Tp o) := fun o => Same.new nT
        refine ⟨Tp, _, rfl, SqT.of upd_same, rfl, _, _, rfl, _, _, rfl, r, _, rfl, SqT.of (sT _ _ _ hrd), rfl, _, _, rfl, _, _, rfl, _, _, rfl, rfl, rfl, ?_⟩
        -- turned about now and then
        refine ⟨fun σ' H' => ∃ (A2' : List Addr) (ab' : Bool), σ' = [some (.ref a), some (.ref dd), some (.int b), some (.ref p), some (.ref q), some (.bl ab'), some (.int (i : Nat)), some (.int kd), some (.str (endS fr)), some (.int z), w10, w11, w12, w13] ∧
          Twins C H' p q A1 A2' ab' xs ys n ∧ Step Hd (A1 ++ A2) H' (A1 ++ A2'), ?_, ?_⟩
        · refine ⟨_, rfl, _, _, rfl, rfl, (by show (0 : Int) < 5; decide), rfl, _, rfl, ite2 (fun _ => ?_) fun _ => ?_⟩
          · refine rd_turn (p := q) rfl (tw.2.1.same (sT _)) fun H8 A8 hA8 st8 => ?_
            refine ⟨_, rfl, ab, rfl, A8, !ab, rfl, ⟨?_, ?_, ?_⟩, (Step.ofSame (sT _)).trans st8.right⟩
            · exact (tw.1.same (sT _)).keep (st8.rest tw.2.2)
            · have e1 : abX (!ab) xs ys = abX ab ys xs := by cases ab <;> rfl
              have e2 : abX (!ab) ys xs = abX ab xs ys := by cases ab <;> rfl
              rw [e1, e2]
              exact hA8
            · exact st8.apart (fun x hx => let ⟨o, e⟩ := tw.1.trk x hx; ⟨o, sT _ _ _ e⟩) tw.2.2
          · exact ⟨A2, ab, rfl, tw.same (sT _), Step.ofSame (sT _)⟩
        rintro σ1 H1' ⟨A3, ab, rfl, tw3, st3⟩
        have hdd3 : H1' dd = some (.dK otherD) := ((st.trans st3) _ _ hdd7.1 hdd7.2).1
        -- the end at which the other does the same
        refine ⟨fun σ' H' => σ' = [some (.ref a), some (.ref dd), some (.int b), some (.ref p), some (.ref q), some (.bl ab), some (.int (i : Nat)), some (.int kd), some (.str (endS fr)), some (.int z), some (.str (endS (thS ab fr))), w11, w12, w13] ∧ H' = H1', ?_, ?_⟩
        · refine ⟨_, rfl, ab, rfl, ?_⟩
          cases ab with
          | true => exact iteT ⟨_, rfl, _, rfl, dd, _, rfl, (by show DGet H1' dd (.str (endS fr)) (some (.str (endS (!fr)))); rw [← other_val fr]; exact DGet.k (k := Sum.inr (endS fr)) hdd3), rfl, rfl⟩
          | false => exact iteF ⟨_, rfl, rfl, rfl⟩
        rintro σ2 H2' ⟨rfl, rfl⟩
        -- put or taken at both
        refine ⟨fun σ' H' => ∃ (C1 C2 : List Addr) (xs' ys' : List Int) (n' : Int), σ' = [some (.ref a), some (.ref dd), some (.int b), some (.ref p), some (.ref q), some (.bl ab), some (.int (i : Nat)), some (.int kd), some (.str (endS fr)), some (.int z), some (.str (endS (thS ab fr))), w11, w12, w13] ∧
          Twins C H' p q C1 C2 ab xs' ys' n' ∧ Step Hd (A1 ++ A2) H' (C1 ++ C2) ∧ xs'.length + ys'.length ≤ i + 1, ?_, ?_⟩
        · refine ⟨_, rfl, rfl, _, rfl, ?_⟩
          have hl2 := ab_len ab xs ys
          by_cases hk0 : kd = 0
          · rw [show decide (V.int kd = V.int 0) = true from decide_eq_true (by rw [hk0])]
            refine iteT (rd_put (p := p) (fr := fr) (z := z) rfl tw3.1 (by omega) (fun R q => ⟨_, rfl, _, rfl, q⟩) fun H8 A8 hA8 st8 => ?_)
            have hB8 := tw3.2.1.keep (st8.rest tw3.2.2.symm)
            have ap8 : Apart A3 A8 := st8.apart tw3.2.1.trk tw3.2.2.symm
            refine rd_put (p := q) (fr := thS ab fr) (z := z) rfl hB8 (by omega) (fun R q => ⟨_, rfl, _, rfl, q⟩) fun H9 A9 hA9 st9 => ?_
            obtain ⟨e1, e2⟩ := ab_put ab fr xs ys z
            rw [e1, e2] at hA9
            refine ⟨A8, A9, _, _, _, rfl, ⟨hA8.keep (st9.rest ap8.symm), hA9, st9.apart hA8.trk ap8.symm⟩, (st3.trans st8.left).trans st9.right, ?_⟩
            cases fr <;> simp [putX] <;> omega
          · rw [show decide (V.int kd = V.int 0) = false from decide_eq_false (fun q => hk0 (V.int.inj q))]
            refine iteF (rd_things (p := p) rfl tw3.1 (by omega) fun H8 l8 s8 nl8 hl8 => ?_)
            refine ⟨(by show 0 ≤ sizeLine; decide), fun e ne => ?_⟩
            have s9 : ∀ o, Same H2' (upd H8 e o) := fun o => s8.trans (Same.new ne)
            refine ⟨l8, e, _, [], rfl, rfl, SqL.of (Same.new ne _ _ hl8), SqL.of upd_same, _, rfl, ?_⟩
            by_cases hm0 : xs.reverse ++ ys = []
            · rw [decide_eq_true hm0]
              exact iteF (iteF ⟨A1, A3, xs, ys, n, rfl, tw3.same (s9 _), st3.same (s9 _), by omega⟩)
            · rw [decide_eq_false hm0]
              have hne := ne_things hm0
              have tw9 := fun o => tw3.same (s9 o)
              refine iteT (rd_take (p := p) (fr := fr) rfl (tw9 _).1 (by omega) hne (fun R q => ⟨_, rfl, q⟩) fun H10 A10 hA10 st10 => ?_)
              have hB10 := (tw9 _).2.1.keep (st10.rest tw3.2.2.symm)
              have ap10 : Apart A3 A10 := st10.apart (tw9 _).2.1.trk tw3.2.2.symm
              refine rd_take (p := q) (fr := thS ab fr) rfl hB10 (by omega) (ab_ne hne) (fun R q => ⟨_, rfl, q⟩) fun H11 A11 hA11 st11 => ?_
              obtain ⟨e1, e2, e3, e4⟩ := ab_take ab fr xs ys
              rw [e1, e2, e4] at hA11
              refine ⟨rfl, false, by rw [e3]; simp, iteF ?_⟩
              refine ⟨A10, A11, _, _, _, rfl, ⟨hA10.keep (st11.rest ap10.symm), hA11, st11.apart hA10.trk ap10.symm⟩, ((st3.same (s9 _)).trans st10.left).trans st11.right, ?_⟩
              have := take_len (fr := fr) hne
              omega
        rintro σ3 H3' ⟨C1, C2, xs, ys, n, rfl, tw4, st4, hml4⟩
        have hl4 := ab_len ab xs ys
        refine rd_things (p := p) rfl tw4.1 (by omega) fun H8 l8 s8 nl8 hl8 => ?_
        refine rd_things (p := q) rfl (tw4.2.1.same s8) (by omega) fun H9 l9 s9 nl9 hl9 => ⟨_, _, rfl, ?_⟩
        have hl8' := s9 _ _ hl8
        have tw9 := (tw4.same s8).same s9
        rw [ab_things] at hl9
        refine ⟨fun σ' H' => σ' = [some (.ref a), some (.ref dd), some (.int b), some (.ref p), some (.ref q), some (.bl ab), some (.int (i : Nat)), some (.int kd), some (.str (endS fr)), some (.int z), some (.str (endS (thS ab fr))), some (.ref l8), some (.ref l9), w13] ∧ Same H9 H', ?_, ?_⟩
        · refine ⟨_, rfl, _, rfl, ab, rfl, ?_⟩
          cases ab with
          | true =>
            refine iteT ⟨_, rfl, l8, _, rfl, SqL.of hl8', fun u nu => ?_⟩
            have s10 : ∀ o, Same H9 (upd H9 u o) := fun o => Same.new nu
            refine ⟨l9, u, _, (xs.reverse ++ ys).reverse, rfl, rfl, SqL.of (s10 _ _ _ hl9), SqL.of (by rw [upd_same, List.map_reverse]), false, by simp, iteF ?_⟩
            refine rd_steps (p := p) rfl (tw9.same (s10 _)).1 (rd_steps (p := q) rfl (tw9.same (s10 _)).2.1 ⟨rfl, false, by simp, iteF ⟨rfl, s10 _⟩⟩)
          | false =>
            refine iteF ⟨_, rfl, l9, l8, _, _, rfl, rfl, SqL.of hl9, SqL.of hl8', false, by simp, iteF ?_⟩
            refine rd_steps (p := p) rfl tw9.1 (rd_steps (p := q) rfl tw9.2.1 ⟨rfl, false, by simp, iteF ⟨rfl, Same.refl _⟩⟩)
        rintro σ4 H4' ⟨rfl, s10⟩
        have tw10 := tw9.same s10
        refine rd_halves (p := p) rfl tw10.1 fun H11 t11 s11 nt11 ht11 => ?_
        refine ⟨_, rfl, ab, rfl, ?_⟩
        have tw11 := tw10.same s11
        have pu : ∀ (σ : L2.St) (H12 : Hp) (Q : V → Hp → Prop), σ[3]? = some (some (.ref p)) → σ[4]? = some (some (.ref q)) → Same H11 H12 → Q (.bl false) H12 → tOp rNe (tMeth C "purse" (spPurseH C) [] E0 (tVar 3) tNil) (tMeth C "purse" (spPurseH C) [] E0 (tVar 4) tNil) σ H12 Q := by
          intro σ H12 Q h3 h4 s12 hQ
          refine rd_purse (p := p) h3 (tw11.same s12).1 (rd_purse (p := q) h4 (tw11.same s12).2.1 ⟨rfl, ?_⟩)
          have e : (3 : Int) * (if ((abX ab xs ys).length : Int) - ((abX ab ys xs).length : Int) < 0 then -(((abX ab xs ys).length : Int) - ((abX ab ys xs).length : Int)) else ((abX ab xs ys).length : Int) - ((abX ab ys xs).length : Int)) =
              3 * (if (xs.length : Int) - (ys.length : Int) < 0 then -((xs.length : Int) - (ys.length : Int)) else (xs.length : Int) - (ys.length : Int)) := by
            cases ab with
            | true =>
              show (3 : Int) * (if (ys.length : Int) - (xs.length : Int) < 0 then -((ys.length : Int) - (xs.length : Int)) else (ys.length : Int) - (xs.length : Int)) = _
              split <;> split <;> omega
            | false => rfl
          rw [e]
          simpa using hQ
        have fin : ∀ H12, Same H11 H12 → ∃ (A1 A2 : List Addr) (ab' : Bool) (xs ys : List Int) (n : Int) (v6 v7 v8 v9 v10 v11 v12 v13 : Option V),
          ([some (.ref a), some (.ref dd), some (.int b), some (.ref p), some (.ref q), some (.bl ab), some (.int (i : Nat)), some (.int kd), some (.str (endS fr)), some (.int z), some (.str (endS (thS ab fr))), some (.ref l8), some (.ref l9), w13] : L2.St) = [some (.ref a), some (.ref dd), some (.int b), some (.ref p), some (.ref q), some (.bl ab'), v6, v7, v8, v9, v10, v11, v12, v13] ∧ Twins C H12 p q A1 A2 ab' xs ys n ∧ Step H7 (B1 ++ B2) H12 (A1 ++ A2) ∧ xs.length + ys.length ≤ i + 1 :=
          fun H12 s12 => ⟨C1, C2, ab, xs, ys, n, _, _, _, _, _, _, _, _, rfl, tw11.same s12, (st.trans st4).same (((s8.trans s9).trans s10).trans (s11.trans s12)), hml4⟩
        cases ab with
        | true =>
          refine iteT (rd_halves (p := q) rfl tw11.2.1 fun H12 t12 s12 nt12 ht12 => ⟨t12, _, _, rfl, SqT.of ht12, fun u nu => ?_⟩)
          have s13 : ∀ o, Same H11 (upd H12 u o) := fun o => s12.trans (Same.new nu)
          refine ⟨t11, u, [(xs.length : Int), (ys.length : Int)], [(xs.length : Int), (ys.length : Int)], rfl, rfl, SqT.of (s13 _ _ _ ht11), SqT.of upd_same, false, by simp, iteF ?_⟩
          exact pu _ _ _ rfl rfl (s13 _) ⟨false, rfl, iteF (fin _ (s13 _))⟩
        | false =>
          refine iteF (rd_halves (p := q) rfl tw11.2.1 fun H12 t12 s12 nt12 ht12 => ?_)
          refine ⟨t11, t12, [(xs.length : Int), (ys.length : Int)], [(xs.length : Int), (ys.length : Int)], rfl, rfl, SqT.of (s12 _ _ ht11), SqT.of ht12, false, by simp, iteF ?_⟩
          exact pu _ _ _ rfl rfl s12 ⟨false, rfl, iteF (fin _ s12)⟩
      · rintro σ He ⟨A1, A2, ab, xs, ys, n, w6, w7, w8, w9, w10, w11, w12, w13, rfl, tw, st, hml⟩
        have hlx : xs.length + ys.length ≤ 128 := by
          rw [List.length_map, hD.2.1] at hml
          omega
        have hl4 := ab_len ab xs ys
        -- turned twice
        refine rd_turn (p := p) rfl tw.1 fun H8 A8 hA8 st8 => ?_
        have hB8 := tw.2.1.keep (st8.rest tw.2.2.symm)
        have ap8 : Apart A2 A8 := st8.apart tw.2.1.trk tw.2.2.symm
        refine rd_turn (p := p) rfl hA8 fun H9 A9 hA9 st9 => ?_
        have hB9 := hB8.keep (st9.rest ap8)
        have st9' : Step Hc [] H9 (A9 ++ A2) := (st7.trans st).trans (st8.left.trans st9.left)
        refine rd_things (p := p) rfl hA9 (by omega) fun H10 l10 s10 nl10 hl10 => ?_
        have fin : ∀ H12, Same H10 H12 → ∃ (v2 v3 v4 v5 v6 v7 v8 v9 v10 v11 v12 v13 : Option V), ([some (.ref a), some (.ref dd), some (.int b), some (.ref p), some (.ref q), some (.bl ab), w6, w7, w8, w9, w10, w11, w12, w13] : L2.St) = [some (.ref a), some (.ref dd), v2, v3, v4, v5, v6, v7, v8, v9, v10, v11, v12, v13] ∧ Same H H12 ∧ H12 g = some (.lst [.int 0, .int 1]) ∧ H12 dd = some (.dK otherD) := fun H12 s12 => by
          have sx : Same Hc H12 := st9'.toSame.trans (s10.trans s12)
          exact ⟨_, _, _, _, _, _, _, _, _, _, _, _, rfl, sg.trans sx, sx _ _ hg, sx _ _ hdd⟩
        refine ⟨_, rfl, ab, rfl, ?_⟩
        cases ab with
        | true =>
          refine iteT (rd_things (p := q) rfl (hB9.same s10) (by omega) fun H11 l11 s11 nl11 hl11 => ⟨l11, _, rfl, SqL.of hl11, fun u nu => ?_⟩)
          have s12 : ∀ o, Same H10 (upd H11 u o) := fun o => s11.trans (Same.new nu)
          have e : (((abX true xs ys).reverse ++ abX true ys xs).map V.int).reverse = (xs.reverse ++ ys).map V.int := by simp [abX]
          refine ⟨l10, u, xs.reverse ++ ys, xs.reverse ++ ys, rfl, rfl, SqL.of (s12 _ _ _ hl10), SqL.of (by rw [upd_same, e]), false, by simp, iteF ?_⟩
          exact fin _ (s12 _)
        | false =>
          refine iteF (rd_things (p := q) rfl (hB9.same s10) (by omega) fun H11 l11 s11 nl11 hl11 => ?_)
          refine ⟨l10, l11, xs.reverse ++ ys, xs.reverse ++ ys, rfl, rfl, SqL.of (s11 _ _ hl10), SqL.of hl11, false, by simp, iteF ?_⟩
          exact fin _ s11
    · rintro σ Hc ⟨v2, v3, v4, v5, v6, v7, v8, v9, v10, v11, v12, v13, rfl, sg, hg, hdd⟩
      intro p dx np ndx ne
      refine ⟨p, dx, rfl, upd_same, fun H1 A1 hA1 kp => ⟨rfl, ?_⟩⟩
      refine rd_put (p := p) (fr := true) (z := 4) rfl hA1 (by decide) (fun R q => q) fun H2 A2 hA2 st2 => ?_
      refine rd_put (p := p) (fr := false) (z := 9) rfl hA2 (by decide) (fun R q => q) fun H3 A3 hA3 st3 => ?_
      refine rd_turn (p := p) rfl hA3 fun H4 A4 hA4 st4 => ?_
      refine rd_things (p := p) rfl hA4 (by decide) fun H5 l5 s5 nl5 hl5 => ?_
      refine ⟨(by show 2 ≤ sizeLine; decide), fun u nu => ?_⟩
      have s6 : ∀ o, Same H5 (upd H5 u o) := fun o => Same.new nu
      refine ⟨l5, u, [9, 4], [9, 4], rfl, rfl, SqL.of (s6 _ _ _ hl5), SqL.of upd_same, true, by decide, iteT ?_⟩
      refine rd_take (p := p) (fr := false) rfl ((hA4.same s5).same (s6 _)) (by decide) (.inl (by decide)) (fun R q => q) fun H9 A9 hA9 st9 => ?_
      refine ⟨rfl, true, by decide, iteT ?_⟩
      refine rd_halves (p := p) rfl hA9 fun H10 t10 s10 nt10 ht10 => ?_
      refine ⟨(by show 2 ≤ sizeLine; decide), fun u nu => ?_⟩
      have s11 : ∀ o, Same H10 (upd H10 u o) := fun o => Same.new nu
      refine ⟨t10, u, [1, 0], [1, 0], rfl, rfl, SqT.of (s11 _ _ _ ht10), SqT.of upd_same, ?_⟩
      exact k _
end
end Hf
/-! ## the end -/
namespace Hf
open PySem PySem.Spec PyProof.Rows L2
theorem all_mk {P : Program} {w : World} {K : PySem.W.Frag} {h : Heap} {mg : Str → Option Value} {fa C CT CE CM f_h_init f_h_put f_h_lay_over f_h_take f_h_turn f_h_things f_h_steps_so_far f_h_halves f_h_purse f_d_asked_thing f_d_asked_end f_d_law_number f_d_law_deeds f_d_law aE : Addr}
    {odE : Option Addr} {tE1 tE2 : Tok} {nE : Nat} {slE : Array (Option Value)}
    {oc_h_init kV_h_init dc_h_init pm_h_init cd_h_init ct_h_init : Value} {od_h_init an_h_init : Option Addr} {sl_h_init : Array (Option Value)}
    {oc_h_put kV_h_put dc_h_put pm_h_put cd_h_put ct_h_put : Value} {od_h_put an_h_put : Option Addr} {sl_h_put : Array (Option Value)}
    {oc_h_lay_over kV_h_lay_over dc_h_lay_over pm_h_lay_over cd_h_lay_over ct_h_lay_over : Value} {od_h_lay_over an_h_lay_over : Option Addr} {sl_h_lay_over : Array (Option Value)}
    {oc_h_take kV_h_take dc_h_take pm_h_take cd_h_take ct_h_take : Value} {od_h_take an_h_take : Option Addr} {sl_h_take : Array (Option Value)}
    {oc_h_turn kV_h_turn dc_h_turn pm_h_turn cd_h_turn ct_h_turn : Value} {od_h_turn an_h_turn : Option Addr} {sl_h_turn : Array (Option Value)}
    {oc_h_things kV_h_things dc_h_things pm_h_things cd_h_things ct_h_things : Value} {od_h_things an_h_things : Option Addr} {sl_h_things : Array (Option Value)}
    {oc_h_steps_so_far kV_h_steps_so_far dc_h_steps_so_far pm_h_steps_so_far cd_h_steps_so_far ct_h_steps_so_far : Value} {od_h_steps_so_far an_h_steps_so_far : Option Addr} {sl_h_steps_so_far : Array (Option Value)}
    {oc_h_halves kV_h_halves dc_h_halves pm_h_halves cd_h_halves ct_h_halves : Value} {od_h_halves an_h_halves : Option Addr} {sl_h_halves : Array (Option Value)}
    {oc_h_purse kV_h_purse dc_h_purse pm_h_purse cd_h_purse ct_h_purse : Value} {od_h_purse an_h_purse : Option Addr} {sl_h_purse : Array (Option Value)}
    {oc_d_asked_thing kV_d_asked_thing dc_d_asked_thing pm_d_asked_thing cd_d_asked_thing ct_d_asked_thing : Value} {od_d_asked_thing an_d_asked_thing : Option Addr} {sl_d_asked_thing : Array (Option Value)}
    {oc_d_asked_end kV_d_asked_end dc_d_asked_end pm_d_asked_end cd_d_asked_end ct_d_asked_end : Value} {od_d_asked_end an_d_asked_end : Option Addr} {sl_d_asked_end : Array (Option Value)}
    {oc_d_law_number kV_d_law_number dc_d_law_number pm_d_law_number cd_d_law_number ct_d_law_number : Value} {od_d_law_number an_d_law_number : Option Addr} {sl_d_law_number : Array (Option Value)}
    {oc_d_law_deeds kV_d_law_deeds dc_d_law_deeds pm_d_law_deeds cd_d_law_deeds ct_d_law_deeds : Value} {od_d_law_deeds an_d_law_deeds : Option Addr} {sl_d_law_deeds : Array (Option Value)}
    {oc_d_law kV_d_law dc_d_law pm_d_law cd_d_law ct_d_law : Value} {od_d_law an_d_law : Option Addr} {sl_d_law : Array (Option Value)}
    (X : K.In h) (G : h.Ns mainGlobals mg) (hfa : mg "law" = some (.ref fa))
    (aC : PySem.W.nsIn K mainGlobals "Halfline" = some (some (.ref C)))
    (aCT : PySem.W.nsIn K mainGlobals "BadThing" = some (some (.ref CT)))
    (aCE : PySem.W.nsIn K mainGlobals "BadEnd" = some (some (.ref CE)))
    (aCM : PySem.W.nsIn K mainGlobals "Empty" = some (some (.ref CM)))
    (aENDS : PySem.W.nsIn K mainGlobals "ENDS" = some (some (.ref aE)))
    (lENDS : K.lookup aE = some ⟨.type "tuple", odE, .seq #[.str "front" tE1, .str "back" tE2] nE, slE⟩)
    (a_h_init : PySem.W.findIn K (.ref C) "__init__" = some (some (.ref f_h_init)))
    (i_h_init : PySem.W.isFn K (.ref f_h_init) = true)
    (l_h_init : K.lookup f_h_init = some ⟨oc_h_init, od_h_init, .func (PySem.W.fnOf "__init__" "Halfline.__init__" (defArgs sHI) (defBody sHI) (defScope sHI) .none kV_h_init dc_h_init pm_h_init an_h_init cd_h_init ct_h_init), sl_h_init⟩)
    (c_h_init : PySem.W.codeIn K cd_h_init "Halfline.__init__" = true)
    (k_h_init : PySem.W.keepIn K (.ref f_h_init) = true)
    (a_h_put : PySem.W.findIn K (.ref C) "put" = some (some (.ref f_h_put)))
    (i_h_put : PySem.W.isFn K (.ref f_h_put) = true)
    (l_h_put : K.lookup f_h_put = some ⟨oc_h_put, od_h_put, .func (PySem.W.fnOf "put" "Halfline.put" (defArgs sHPut) (defBody sHPut) (defScope sHPut) .none kV_h_put dc_h_put pm_h_put an_h_put cd_h_put ct_h_put), sl_h_put⟩)
    (c_h_put : PySem.W.codeIn K cd_h_put "Halfline.put" = true)
    (k_h_put : PySem.W.keepIn K (.ref f_h_put) = true)
    (a_h_lay_over : PySem.W.findIn K (.ref C) "lay_over" = some (some (.ref f_h_lay_over)))
    (i_h_lay_over : PySem.W.isFn K (.ref f_h_lay_over) = true)
    (l_h_lay_over : K.lookup f_h_lay_over = some ⟨oc_h_lay_over, od_h_lay_over, .func (PySem.W.fnOf "lay_over" "Halfline.lay_over" (defArgs sHLay) (defBody sHLay) (defScope sHLay) .none kV_h_lay_over dc_h_lay_over pm_h_lay_over an_h_lay_over cd_h_lay_over ct_h_lay_over), sl_h_lay_over⟩)
    (c_h_lay_over : PySem.W.codeIn K cd_h_lay_over "Halfline.lay_over" = true)
    (k_h_lay_over : PySem.W.keepIn K (.ref f_h_lay_over) = true)
    (a_h_take : PySem.W.findIn K (.ref C) "take" = some (some (.ref f_h_take)))
    (i_h_take : PySem.W.isFn K (.ref f_h_take) = true)
    (l_h_take : K.lookup f_h_take = some ⟨oc_h_take, od_h_take, .func (PySem.W.fnOf "take" "Halfline.take" (defArgs sHTake) (defBody sHTake) (defScope sHTake) .none kV_h_take dc_h_take pm_h_take an_h_take cd_h_take ct_h_take), sl_h_take⟩)
    (c_h_take : PySem.W.codeIn K cd_h_take "Halfline.take" = true)
    (k_h_take : PySem.W.keepIn K (.ref f_h_take) = true)
    (a_h_turn : PySem.W.findIn K (.ref C) "turn" = some (some (.ref f_h_turn)))
    (i_h_turn : PySem.W.isFn K (.ref f_h_turn) = true)
    (l_h_turn : K.lookup f_h_turn = some ⟨oc_h_turn, od_h_turn, .func (PySem.W.fnOf "turn" "Halfline.turn" (defArgs sHTurn) (defBody sHTurn) (defScope sHTurn) .none kV_h_turn dc_h_turn pm_h_turn an_h_turn cd_h_turn ct_h_turn), sl_h_turn⟩)
    (c_h_turn : PySem.W.codeIn K cd_h_turn "Halfline.turn" = true)
    (k_h_turn : PySem.W.keepIn K (.ref f_h_turn) = true)
    (a_h_things : PySem.W.findIn K (.ref C) "things" = some (some (.ref f_h_things)))
    (i_h_things : PySem.W.isFn K (.ref f_h_things) = true)
    (l_h_things : K.lookup f_h_things = some ⟨oc_h_things, od_h_things, .func (PySem.W.fnOf "things" "Halfline.things" (defArgs sHThings) (defBody sHThings) (defScope sHThings) .none kV_h_things dc_h_things pm_h_things an_h_things cd_h_things ct_h_things), sl_h_things⟩)
    (c_h_things : PySem.W.codeIn K cd_h_things "Halfline.things" = true)
    (k_h_things : PySem.W.keepIn K (.ref f_h_things) = true)
    (a_h_steps_so_far : PySem.W.findIn K (.ref C) "steps_so_far" = some (some (.ref f_h_steps_so_far)))
    (i_h_steps_so_far : PySem.W.isFn K (.ref f_h_steps_so_far) = true)
    (l_h_steps_so_far : K.lookup f_h_steps_so_far = some ⟨oc_h_steps_so_far, od_h_steps_so_far, .func (PySem.W.fnOf "steps_so_far" "Halfline.steps_so_far" (defArgs sHSteps) (defBody sHSteps) (defScope sHSteps) .none kV_h_steps_so_far dc_h_steps_so_far pm_h_steps_so_far an_h_steps_so_far cd_h_steps_so_far ct_h_steps_so_far), sl_h_steps_so_far⟩)
    (c_h_steps_so_far : PySem.W.codeIn K cd_h_steps_so_far "Halfline.steps_so_far" = true)
    (k_h_steps_so_far : PySem.W.keepIn K (.ref f_h_steps_so_far) = true)
    (a_h_halves : PySem.W.findIn K (.ref C) "halves" = some (some (.ref f_h_halves)))
    (i_h_halves : PySem.W.isFn K (.ref f_h_halves) = true)
    (l_h_halves : K.lookup f_h_halves = some ⟨oc_h_halves, od_h_halves, .func (PySem.W.fnOf "halves" "Halfline.halves" (defArgs sHHalves) (defBody sHHalves) (defScope sHHalves) .none kV_h_halves dc_h_halves pm_h_halves an_h_halves cd_h_halves ct_h_halves), sl_h_halves⟩)
    (c_h_halves : PySem.W.codeIn K cd_h_halves "Halfline.halves" = true)
    (k_h_halves : PySem.W.keepIn K (.ref f_h_halves) = true)
    (a_h_purse : PySem.W.findIn K (.ref C) "purse" = some (some (.ref f_h_purse)))
    (i_h_purse : PySem.W.isFn K (.ref f_h_purse) = true)
    (l_h_purse : K.lookup f_h_purse = some ⟨oc_h_purse, od_h_purse, .func (PySem.W.fnOf "purse" "Halfline.purse" (defArgs sHPurse) (defBody sHPurse) (defScope sHPurse) .none kV_h_purse dc_h_purse pm_h_purse an_h_purse cd_h_purse ct_h_purse), sl_h_purse⟩)
    (c_h_purse : PySem.W.codeIn K cd_h_purse "Halfline.purse" = true)
    (k_h_purse : PySem.W.keepIn K (.ref f_h_purse) = true)
    (a_d_asked_thing : PySem.W.nsIn K mainGlobals "asked_thing" = some (some (.ref f_d_asked_thing)))
    (l_d_asked_thing : K.lookup f_d_asked_thing = some ⟨oc_d_asked_thing, od_d_asked_thing, .func (PySem.W.fnOf "asked_thing" "asked_thing" (defArgs sThing) (defBody sThing) (defScope sThing) .none kV_d_asked_thing dc_d_asked_thing pm_d_asked_thing an_d_asked_thing cd_d_asked_thing ct_d_asked_thing), sl_d_asked_thing⟩)
    (c_d_asked_thing : PySem.W.codeIn K cd_d_asked_thing "asked_thing" = true)
    (k_d_asked_thing : PySem.W.keepIn K (.ref f_d_asked_thing) = true)
    (a_d_asked_end : PySem.W.nsIn K mainGlobals "asked_end" = some (some (.ref f_d_asked_end)))
    (l_d_asked_end : K.lookup f_d_asked_end = some ⟨oc_d_asked_end, od_d_asked_end, .func (PySem.W.fnOf "asked_end" "asked_end" (defArgs sEnd) (defBody sEnd) (defScope sEnd) .none kV_d_asked_end dc_d_asked_end pm_d_asked_end an_d_asked_end cd_d_asked_end ct_d_asked_end), sl_d_asked_end⟩)
    (c_d_asked_end : PySem.W.codeIn K cd_d_asked_end "asked_end" = true)
    (k_d_asked_end : PySem.W.keepIn K (.ref f_d_asked_end) = true)
    (a_d_law_number : PySem.W.nsIn K mainGlobals "_law_number" = some (some (.ref f_d_law_number)))
    (l_d_law_number : K.lookup f_d_law_number = some ⟨oc_d_law_number, od_d_law_number, .func (PySem.W.fnOf "_law_number" "_law_number" (defArgs sNum) (defBody sNum) (defScope sNum) .none kV_d_law_number dc_d_law_number pm_d_law_number an_d_law_number cd_d_law_number ct_d_law_number), sl_d_law_number⟩)
    (c_d_law_number : PySem.W.codeIn K cd_d_law_number "_law_number" = true)
    (k_d_law_number : PySem.W.keepIn K (.ref f_d_law_number) = true)
    (a_d_law_deeds : PySem.W.nsIn K mainGlobals "_law_deeds" = some (some (.ref f_d_law_deeds)))
    (l_d_law_deeds : K.lookup f_d_law_deeds = some ⟨oc_d_law_deeds, od_d_law_deeds, .func (PySem.W.fnOf "_law_deeds" "_law_deeds" (defArgs sDeeds) (defBody sDeeds) (defScope sDeeds) .none kV_d_law_deeds dc_d_law_deeds pm_d_law_deeds an_d_law_deeds cd_d_law_deeds ct_d_law_deeds), sl_d_law_deeds⟩)
    (c_d_law_deeds : PySem.W.codeIn K cd_d_law_deeds "_law_deeds" = true)
    (k_d_law_deeds : PySem.W.keepIn K (.ref f_d_law_deeds) = true)
    (a_d_law : PySem.W.nsIn K mainGlobals "law" = some (some (.ref f_d_law)))
    (l_d_law : K.lookup f_d_law = some ⟨oc_d_law, od_d_law, .func (PySem.W.fnOf "law" "law" (defArgs sLaw) (defBody sLaw) (defScope sLaw) .none kV_d_law dc_d_law pm_d_law an_d_law cd_d_law ct_d_law), sl_d_law⟩)
    (c_d_law : PySem.W.codeIn K cd_d_law "law" = true)
    (k_d_law : PySem.W.keepIn K (.ref f_d_law) = true)
    (pgC : PySem.W.plainGet K C Str.empty = true)
    (hdC : PySem.W.hasDictIn K C = true)
    (poC : PySem.W.plainOver K C = true)
    (saC : PySem.W.findIn K (.ref C) "__setattr__" = some (some (.builtin "object.__setattr__")))
    (mkC : PySem.W.makesIn K C = true)
    (kcC : PySem.W.keepIn K (.ref C) = true)
    (nC_front : PySem.W.findIn K (.ref C) "front" = some none)
    (nC_back : PySem.W.findIn K (.ref C) "back" = some none)
    (nC_steps : PySem.W.findIn K (.ref C) "steps" = some none)
    (xCT : PySem.W.excIn K CT bmV "ValueError.__new__" = true)
    (kCT : PySem.W.keepIn K (.ref CT) = true)
    (bCT : PySem.W.subIn K (.ref CT) (.type "BaseException") = some true)
    (tCT : PySem.W.typeIn K (.ref CT) = some (.type "type"))
    (xCE : PySem.W.excIn K CE bmV "ValueError.__new__" = true)
    (kCE : PySem.W.keepIn K (.ref CE) = true)
    (bCE : PySem.W.subIn K (.ref CE) (.type "BaseException") = some true)
    (tCE : PySem.W.typeIn K (.ref CE) = some (.type "type"))
    (xCM : PySem.W.excIn K CM bmV "ValueError.__new__" = true)
    (kCM : PySem.W.keepIn K (.ref CM) = true)
    (bCM : PySem.W.subIn K (.ref CM) (.type "BaseException") = some true)
    (tCM : PySem.W.typeIn K (.ref CM) = some (.type "type"))
    (z_isinstance : PySem.W.nsIn K mainGlobals "isinstance" = some none)
    (z_int : PySem.W.nsIn K mainGlobals "int" = some none)
    (z_bool : PySem.W.nsIn K mainGlobals "bool" = some none)
    (z_str : PySem.W.nsIn K mainGlobals "str" = some none)
    (z_len : PySem.W.nsIn K mainGlobals "len" = some none)
    (z_abs : PySem.W.nsIn K mainGlobals "abs" = some none)
    (z_sum : PySem.W.nsIn K mainGlobals "sum" = some none)
    (z_enumerate : PySem.W.nsIn K mainGlobals "enumerate" = some none)
    : ∃ fd : FuncData, (∀ (s : Shared) (v : Value), BindsTo s fd ⟨[v], []⟩ [("_law_script", v)]) ∧ ∀ base : Heap, K.In base → base.Ns mainGlobals mg → FnOk P w K mg base CX0 3 fa fd ["_law_script"] (spLaw K) := by
  have e := hfa.symm.trans (PySem.W.mg_of X G a_d_law)
  cases e
  have m_isinstance := PySem.W.mg_none_of X G z_isinstance
  have m_int := PySem.W.mg_none_of X G z_int
  have m_bool := PySem.W.mg_none_of X G z_bool
  have m_str := PySem.W.mg_none_of X G z_str
  have m_len := PySem.W.mg_none_of X G z_len
  have m_abs := PySem.W.mg_none_of X G z_abs
  have m_sum := PySem.W.mg_none_of X G z_sum
  have m_enumerate := PySem.W.mg_none_of X G z_enumerate
  have gC := PySem.W.mg_of X G aC
  have clC : Cls K C := ⟨pgC, hdC, poC, saC⟩
  have gCT := PySem.W.mg_of X G aCT
  have TCT : ETxt K mg "BadThing" CT := ⟨gCT, xCT, kCT, bCT, tCT⟩
  have gCE := PySem.W.mg_of X G aCE
  have TCE : ETxt K mg "BadEnd" CE := ⟨gCE, xCE, kCE, bCE, tCE⟩
  have gCM := PySem.W.mg_of X G aCM
  have TCM : ETxt K mg "Empty" CM := ⟨gCM, xCM, kCM, bCM, tCM⟩
  have gENDS := PySem.W.mg_of X G aENDS
  have tENDS : ∀ H, SqT K H aE [.str "front", .str "back"] := fun H => .inr ⟨_, _, _, lENDS, rfl, rfl, (by show 2 ≤ sizeLine; decide), .cons ⟨_, rfl⟩ (.cons ⟨_, rfl⟩ .nil)⟩
  have F_h_init := fun_mk (st := sHI) l_h_init c_h_init k_h_init
  have b_h_init := F_h_init.binds (ps := ["self"]) fun _ _ _ _ _ _ us hl => match us, hl with | [_], _ => rfl
  have m_h_init : Meth K C "__init__" f_h_init := ⟨a_h_init, i_h_init, k_h_init⟩
  have M_h_init : Mk K C f_h_init := ⟨mkC, a_h_init, i_h_init, kcC⟩
  have F_h_put := fun_mk (st := sHPut) l_h_put c_h_put k_h_put
  have b_h_put := F_h_put.binds (ps := ["self", "end", "thing"]) fun _ _ _ _ _ _ us hl => match us, hl with | [_, _, _], _ => rfl
  have m_h_put : Meth K C "put" f_h_put := ⟨a_h_put, i_h_put, k_h_put⟩
  have F_h_lay_over := fun_mk (st := sHLay) l_h_lay_over c_h_lay_over k_h_lay_over
  have b_h_lay_over := F_h_lay_over.binds (ps := ["self", "full"]) fun _ _ _ _ _ _ us hl => match us, hl with | [_, _], _ => rfl
  have m_h_lay_over : Meth K C "lay_over" f_h_lay_over := ⟨a_h_lay_over, i_h_lay_over, k_h_lay_over⟩
  have F_h_take := fun_mk (st := sHTake) l_h_take c_h_take k_h_take
  have b_h_take := F_h_take.binds (ps := ["self", "end"]) fun _ _ _ _ _ _ us hl => match us, hl with | [_, _], _ => rfl
  have m_h_take : Meth K C "take" f_h_take := ⟨a_h_take, i_h_take, k_h_take⟩
  have F_h_turn := fun_mk (st := sHTurn) l_h_turn c_h_turn k_h_turn
  have b_h_turn := F_h_turn.binds (ps := ["self"]) fun _ _ _ _ _ _ us hl => match us, hl with | [_], _ => rfl
  have m_h_turn : Meth K C "turn" f_h_turn := ⟨a_h_turn, i_h_turn, k_h_turn⟩
  have F_h_things := fun_mk (st := sHThings) l_h_things c_h_things k_h_things
  have b_h_things := F_h_things.binds (ps := ["self"]) fun _ _ _ _ _ _ us hl => match us, hl with | [_], _ => rfl
  have m_h_things : Meth K C "things" f_h_things := ⟨a_h_things, i_h_things, k_h_things⟩
  have F_h_steps_so_far := fun_mk (st := sHSteps) l_h_steps_so_far c_h_steps_so_far k_h_steps_so_far
  have b_h_steps_so_far := F_h_steps_so_far.binds (ps := ["self"]) fun _ _ _ _ _ _ us hl => match us, hl with | [_], _ => rfl
  have m_h_steps_so_far : Meth K C "steps_so_far" f_h_steps_so_far := ⟨a_h_steps_so_far, i_h_steps_so_far, k_h_steps_so_far⟩
  have F_h_halves := fun_mk (st := sHHalves) l_h_halves c_h_halves k_h_halves
  have b_h_halves := F_h_halves.binds (ps := ["self"]) fun _ _ _ _ _ _ us hl => match us, hl with | [_], _ => rfl
  have m_h_halves : Meth K C "halves" f_h_halves := ⟨a_h_halves, i_h_halves, k_h_halves⟩
  have F_h_purse := fun_mk (st := sHPurse) l_h_purse c_h_purse k_h_purse
  have b_h_purse := F_h_purse.binds (ps := ["self"]) fun _ _ _ _ _ _ us hl => match us, hl with | [_], _ => rfl
  have m_h_purse : Meth K C "purse" f_h_purse := ⟨a_h_purse, i_h_purse, k_h_purse⟩
  have F_d_asked_thing := fun_mk (st := sThing) l_d_asked_thing c_d_asked_thing k_d_asked_thing
  have b_d_asked_thing := F_d_asked_thing.binds (ps := ["thing"]) fun _ _ _ _ _ _ us hl => match us, hl with | [_], _ => rfl
  have g_d_asked_thing := PySem.W.mg_of X G a_d_asked_thing
  have F_d_asked_end := fun_mk (st := sEnd) l_d_asked_end c_d_asked_end k_d_asked_end
  have b_d_asked_end := F_d_asked_end.binds (ps := ["end"]) fun _ _ _ _ _ _ us hl => match us, hl with | [_], _ => rfl
  have g_d_asked_end := PySem.W.mg_of X G a_d_asked_end
  have F_d_law_number := fun_mk (st := sNum) l_d_law_number c_d_law_number k_d_law_number
  have b_d_law_number := F_d_law_number.binds (ps := ["_law_cell", "_law_at", "_law_whole"]) fun _ _ _ _ _ _ us hl => match us, hl with | [_, _, _], _ => rfl
  have g_d_law_number := PySem.W.mg_of X G a_d_law_number
  have F_d_law_deeds := fun_mk (st := sDeeds) l_d_law_deeds c_d_law_deeds k_d_law_deeds
  have b_d_law_deeds := F_d_law_deeds.binds (ps := ["_law_script", "_law_by"]) fun _ _ _ _ _ _ us hl => match us, hl with | [_, _], _ => rfl
  have g_d_law_deeds := PySem.W.mg_of X G a_d_law_deeds
  have F_d_law := fun_mk (st := sLaw) l_d_law c_d_law k_d_law
  have b_d_law := F_d_law.binds (ps := ["_law_script"]) fun _ _ _ _ _ _ us hl => match us, hl with | [_], _ => rfl
  have g_d_law := PySem.W.mg_of X G a_d_law
  have B : BTxt mg := ⟨m_isinstance, m_int, m_bool, m_str, m_len, m_abs⟩
  have T : HTxt K mg C CT CE CM aE := ⟨clC, nC_front, nC_back, nC_steps, gC, TCT, TCE, TCM, B, gENDS, tENDS⟩
  have DT : DTxt mg := ⟨m_abs, m_sum, m_enumerate, m_int⟩
  refine ⟨PySem.W.fnOf "law" "law" (defArgs sLaw) (defBody sLaw) (defScope sLaw) .none kV_d_law dc_d_law pm_d_law an_d_law cd_d_law ct_d_law, fun s v => .of_eq rfl, fun base _ _ => ?_⟩
  have GI : InitOk P w K mg base C (spInitH C) := ⟨_, _, M_h_init, b_h_init, ok_hi F_h_init T⟩
  have GP : MethOk P w K mg base (L2.CX P w) 2 C "put" ["self", "end", "thing"] (spPutH K C CT CE) := ⟨_, _, m_h_put, b_h_put, ok_hput F_h_put T F_d_asked_thing b_d_asked_thing g_d_asked_thing F_d_asked_end b_d_asked_end g_d_asked_end⟩
  have GT : MethOk P w K mg base (L2.CX P w) 2 C "take" ["self", "end"] (spTakeH K C CE CM) := ⟨_, _, m_h_take, b_h_take, ok_htake F_h_take T F_d_asked_end b_d_asked_end g_d_asked_end F_h_lay_over b_h_lay_over m_h_lay_over⟩
  have GS : MethOk P w K mg base CX0 1 C "things" ["self"] (spThingsH C) := ⟨_, _, m_h_things, b_h_things, ok_hthings F_h_things T⟩
  have GN : MethOk P w K mg base CX0 1 C "steps_so_far" ["self"] (spStepsH C) := ⟨_, _, m_h_steps_so_far, b_h_steps_so_far, ok_hsteps F_h_steps_so_far T⟩
  have GH : MethOk P w K mg base CX0 1 C "halves" ["self"] (spHalvesH C) := ⟨_, _, m_h_halves, b_h_halves, ok_hhalves F_h_halves T⟩
  have GU : MethOk P w K mg base CX0 1 C "purse" ["self"] (spPurseH C) := ⟨_, _, m_h_purse, b_h_purse, ok_hpurse F_h_purse T⟩
  have GR : MethOk P w K mg base CX0 1 C "turn" ["self"] (spTurnH C) := ⟨_, _, m_h_turn, b_h_turn, ok_hturn F_h_turn T⟩
  have GD : DefOk P w K mg base CX0 2 "_law_deeds" ["_law_script", "_law_by"] (spDeeds K) := ⟨_, _, g_d_law_deeds, k_d_law_deeds, b_d_law_deeds, ok_deeds F_d_law_deeds DT F_d_law_number b_d_law_number g_d_law_number⟩
  exact ok_law F_d_law T DT GI GP GT GS GN GH GU GR GD
theorem walk {l : PySem.W.OpenLaw} {q : Program} {loose : List Str} {XP : (Str → Option Value) → Heap → Prop} {YP : World → Heap → Prop} {d : DefRec} {K : Params → PySem.W.Frag} (hn : l.most = some 63) (hdf : d.params.defaults = [])
    (hY : ∀ (w : World) (h : Heap), YP w h → (K w.params).In h)
    (F : ∀ (w : World) (mg : Str → Option Value) (fa : Addr) (h : Heap), (K w.params).In h → h.Ns mainGlobals mg → mg d.name = some (.ref fa) →
      ∃ fd : FuncData, (∀ (s : Shared) (u : Value), BindsTo s fd ⟨[u], []⟩ [("_law_script", u)]) ∧ ∀ base : Heap, (K w.params).In base → base.Ns mainGlobals mg → FnOk l.prog w (K w.params) mg base CX0 3 fa fd ["_law_script"] (spLaw (K w.params))) :
    PySem.W.WalkO q loose XP YP l.row.toRowW d [] (fun f vs => PySem.call f vs) :=
  L2.walk_ofB (n := 63) (k := 3) (x := "_law_script") (CX := fun _ => CX0) (sp := fun w => spLaw (K w.params)) hn (by decide) hdf ⟨rfl, by decide, by decide⟩ hY F (fun _ _ a ns hl hb _ hS => ⟨a, ns, rfl, hS, hl, hb, fun _ => rfl⟩) fun _ _ _ _ _ z => z
end Hf
open PySem PySem.W PyProof.Rows
set_option maxRecDepth 100000 in
set_option maxHeartbeats 0 in
theorem PySem.Challenge.cw_halfline_k03_whole_turned_holds : PySem.Challenge.rw_halfline_k03_whole_turned.Holds := by
  w_on; o_law; k_head; (case hw => w_witness2)
  k_fill
  refine Hf.walk (l := PySem.Challenge.rw_halfline_k03_whole_turned) rfl rfl (fun w h Y => PySem.W.kIn_of Y) ?F
  case F =>
    intro w mg fa h KX G hmg
    refine' Hf.all_mk KX G hmg ?aC ?aCT ?aCE ?aCM ?aENDS ?lENDS ?a_h_init ?i_h_init ?l_h_init ?c_h_init ?k_h_init ?a_h_put ?i_h_put ?l_h_put ?c_h_put ?k_h_put ?a_h_lay_over ?i_h_lay_over ?l_h_lay_over ?c_h_lay_over ?k_h_lay_over ?a_h_take ?i_h_take ?l_h_take ?c_h_take ?k_h_take ?a_h_turn ?i_h_turn ?l_h_turn ?c_h_turn ?k_h_turn ?a_h_things ?i_h_things ?l_h_things ?c_h_things ?k_h_things ?a_h_steps_so_far ?i_h_steps_so_far ?l_h_steps_so_far ?c_h_steps_so_far ?k_h_steps_so_far ?a_h_halves ?i_h_halves ?l_h_halves ?c_h_halves ?k_h_halves ?a_h_purse ?i_h_purse ?l_h_purse ?c_h_purse ?k_h_purse ?a_d_asked_thing ?l_d_asked_thing ?c_d_asked_thing ?k_d_asked_thing ?a_d_asked_end ?l_d_asked_end ?c_d_asked_end ?k_d_asked_end ?a_d_law_number ?l_d_law_number ?c_d_law_number ?k_d_law_number ?a_d_law_deeds ?l_d_law_deeds ?c_d_law_deeds ?k_d_law_deeds ?a_d_law ?l_d_law ?c_d_law ?k_d_law ?pgC ?hdC ?poC ?saC ?mkC ?kcC ?nC_front ?nC_back ?nC_steps ?xCT ?kCT ?bCT ?tCT ?xCE ?kCE ?bCE ?tCE ?xCM ?kCM ?bCM ?tCM ?z_isinstance ?z_int ?z_bool ?z_str ?z_len ?z_abs ?z_sum ?z_enumerate
    (case aC => k_is)
    (case aCT => k_is)
    (case aCE => k_is)
    (case aCM => k_is)
    (case aENDS => k_is)
    (case lENDS => k_is)
    (case a_h_init => k_is)
    (case i_h_init => k_is)
    (case l_h_init => k_is)
    (case c_h_init => k_is)
    (case k_h_init => k_is)
    (case a_h_put => k_is)
    (case i_h_put => k_is)
    (case l_h_put => k_is)
    (case c_h_put => k_is)
    (case k_h_put => k_is)
    (case a_h_lay_over => k_is)
    (case i_h_lay_over => k_is)
    (case l_h_lay_over => k_is)
    (case c_h_lay_over => k_is)
    (case k_h_lay_over => k_is)
    (case a_h_take => k_is)
    (case i_h_take => k_is)
    (case l_h_take => k_is)
    (case c_h_take => k_is)
    (case k_h_take => k_is)
    (case a_h_turn => k_is)
    (case i_h_turn => k_is)
    (case l_h_turn => k_is)
    (case c_h_turn => k_is)
    (case k_h_turn => k_is)
    (case a_h_things => k_is)
    (case i_h_things => k_is)
    (case l_h_things => k_is)
    (case c_h_things => k_is)
    (case k_h_things => k_is)
    (case a_h_steps_so_far => k_is)
    (case i_h_steps_so_far => k_is)
    (case l_h_steps_so_far => k_is)
    (case c_h_steps_so_far => k_is)
    (case k_h_steps_so_far => k_is)
    (case a_h_halves => k_is)
    (case i_h_halves => k_is)
    (case l_h_halves => k_is)
    (case c_h_halves => k_is)
    (case k_h_halves => k_is)
    (case a_h_purse => k_is)
    (case i_h_purse => k_is)
    (case l_h_purse => k_is)
    (case c_h_purse => k_is)
    (case k_h_purse => k_is)
    (case a_d_asked_thing => k_is)
    (case l_d_asked_thing => k_is)
    (case c_d_asked_thing => k_is)
    (case k_d_asked_thing => k_is)
    (case a_d_asked_end => k_is)
    (case l_d_asked_end => k_is)
    (case c_d_asked_end => k_is)
    (case k_d_asked_end => k_is)
    (case a_d_law_number => k_is)
    (case l_d_law_number => k_is)
    (case c_d_law_number => k_is)
    (case k_d_law_number => k_is)
    (case a_d_law_deeds => k_is)
    (case l_d_law_deeds => k_is)
    (case c_d_law_deeds => k_is)
    (case k_d_law_deeds => k_is)
    (case a_d_law => k_is)
    (case l_d_law => k_is)
    (case c_d_law => k_is)
    (case k_d_law => k_is)
    (case pgC => k_is)
    (case hdC => k_is)
    (case poC => k_is)
    (case saC => k_is)
    (case mkC => k_is)
    (case kcC => k_is)
    (case nC_front => k_is)
    (case nC_back => k_is)
    (case nC_steps => k_is)
    (case xCT => k_exc)
    (case kCT => k_is)
    (case bCT => k_is)
    (case tCT => k_is)
    (case xCE => k_exc)
    (case kCE => k_is)
    (case bCE => k_is)
    (case tCE => k_is)
    (case xCM => k_exc)
    (case kCM => k_is)
    (case bCM => k_is)
    (case tCM => k_is)
    (case z_isinstance => k_is)
    (case z_int => k_is)
    (case z_bool => k_is)
    (case z_str => k_is)
    (case z_len => k_is)
    (case z_abs => k_is)
    (case z_sum => k_is)
    (case z_enumerate => k_is)
#print axioms PySem.Challenge.cw_halfline_k03_whole_turned_holds
