import PyProof.Rows.All
import Wide.All
import OpenK.AllK
import Wide.FinOn
import HandS.ForExc
import HandS.Comp
import HandS.Iter
import HandS.Walk
import HandS.Dict
import HandS.Style
import HandS.Flow
import HandS.IsInst
import HandS.ExcIs
import HandS.Wide
import HandS.WideBits
import HandS.EndBits
import HandS.Codes
import HandS.Conv
import HandS.Lambda
import HandS.Nested
import HandS.EndTab
import HandS.HotCalls
import HandS.CallRecv
import PySem.Challenge.RW_halfline_k08_whole_numbers
set_option Elab.async false
set_option linter.all false
set_option maxRecDepth 100000
set_option maxHeartbeats 4000000
namespace Hf
open PySem PySem.Spec PyProof.Rows L2
/-! ### rules that the layer lacks -/
/-- a target o.f within a tuple of targets -/
def gFld (K : PySem.W.Frag) (to : TE) (f : Str) : TG := fun v σ H Q => to σ H fun x H1 => ∃ a C dx fs, x = .ref a ∧ H1 a = some (.ins C dx fs) ∧ Cls K C ∧ NoAttr K C f ∧ fs.length < 1000 ∧ Q σ (upd H1 a (.ins C dx (putF f v fs)))
theorem pg_fld {X : Cx} {o : Expr} {f : Str} {pos : Pos} {to : TE} (ho : PE X o to) : PG X (.Attribute o f pos) (gFld X.K to f) := by
  refine ⟨fun pins s σ H v u Q I r h => ?_⟩
  rw [PySem.assign_Attribute]
  refine wpAny_bind (wpAny_holding (thn (ho.run pins s σ H _ I h) fun ov s1 ⟨x, H1, I1, r1, a, C, dx, fs, ex, ea, c, n, l, q⟩ => ?_))
  subst ex
  obtain rfl : ov = Value.ref a := r1
  refine wpAny_bind (wpAny_standAt (wpAny_bind (wpAny_holding (setattr_ok I1 ea c n l r fun s3 I3 => ?_))))
  exact wpAny_release ⟨σ, _, I3, q⟩
/-- o.m(e, ..) where what is raised is wished for at the slots as they stand -/
def tMethS (C : Addr) (m : Str) (sp : Sp) (E : L2.St → XK) (ta : TE) (t : TA) : TE := fun σ H Q => ta σ H fun x H1 => ∃ a dx fs, x = .ref a ∧ H1 a = some (.ins C dx fs) ∧ fs.lookup m = none ∧ t σ H1 fun vs H2 => sp (x :: vs) H2 Q (E σ)
theorem pe_methS {X : Cx} {CX : CXT} {k : Nat} {f C : Addr} {fd : FuncData} {ps : List Str} {sp : Sp} {E : L2.St → XK} {m : Str} {pos apos : Pos} {e o : Expr} {es : List Expr} {ta : TE} {t : TA} {pl : Sem Bool} (he : PE X o ta) (c : Cls X.K C) (hm : Meth X.K C m f)
    (F : FnOk X.prog X.w X.K X.mg X.base CX k f fd ps sp) (hr : Room k X.A) (hb : Binds X.K fd ps []) (hx : ∀ σ, PassesAt CX X σ (E σ)) (ha : PA X (e :: es) t)
    (hst : starEach (e :: es) X.env = (false, eval e X.env) :: starEach es X.env := by rfl) (hpl : (backTo pos (starEach es X.env)).any (·.1) = false := by rfl)
    (ht : eval (.Call (.Attribute o m apos) (e :: es) [] pos) X.env = (do
      let ov ← eval o X.env
      standAt apos.atName
      let (f, first) ← holding [ov] (getMethod ov m pl)
      callWith pos f first (backTo pos (starEach (e :: es) X.env)) (backToKw pos (keywordEach [] X.env))) := by rfl) :
    PE X (.Call (.Attribute o m apos) (e :: es) [] pos) (tMethS C m sp E ta t) := by
  refine ⟨fun pins s σ H Q I h => ?_⟩
  refine PySem.W.methodCall_KW (pl := pl) (thn (he.run pins s σ H _ I h) fun u s1 ⟨x, H1, I1, rx, a, dx, fs, ex, ea, l, q⟩ => ?_) ht
  subst ex
  obtain rfl : u = Value.ref a := rx
  refine getmeth_ok I1 ea c hm l ?_
  refine PySem.W.callWith_K (first := [.ref a]) (h₀ := X.base) I.ok.mod.kin hm.kp (thn (ha.run pos pins s1 σ H1 _ I1 q) fun us s2 ⟨vs, H2, I2, r, q2⟩ => ⟨I2.kIn, ?_⟩) hst hpl
  exact run_fnS (us := .ref a :: us) (vs := .ref a :: vs) F hr hb (hx σ) I2 (.cons rfl r) q2
/-- o.m() likewise -/
theorem pe_methS0 {X : Cx} {CX : CXT} {k : Nat} {f C : Addr} {fd : FuncData} {ps : List Str} {sp : Sp} {E : L2.St → XK} {m : Str} {pos apos : Pos} {o : Expr} {ta : TE} {pl : Sem Bool} (he : PE X o ta) (c : Cls X.K C) (hm : Meth X.K C m f)
    (F : FnOk X.prog X.w X.K X.mg X.base CX k f fd ps sp) (hr : Room k X.A) (hb : Binds X.K fd ps []) (hx : ∀ σ, PassesAt CX X σ (E σ))
    (ht : eval (.Call (.Attribute o m apos) [] [] pos) X.env = (do
      let ov ← eval o X.env
      standAt apos.atName
      let (f, first) ← holding [ov] (getMethod ov m pl)
      callWith pos f first (backTo pos (starEach [] X.env)) (backToKw pos (keywordEach [] X.env))) := by rfl) :
    PE X (.Call (.Attribute o m apos) [] [] pos) (tMethS C m sp E ta tNil) := by
  refine ⟨fun pins s σ H Q I h => ?_⟩
  refine PySem.W.methodCall_KW (pl := pl) (thn (he.run pins s σ H _ I h) fun u s1 ⟨x, H1, I1, rx, a, dx, fs, ex, ea, l, q⟩ => ?_) ht
  subst ex
  obtain rfl : u = Value.ref a := rx
  refine getmeth_ok I1 ea c hm l ?_
  exact PySem.W.callWith_K0 (first := [.ref a]) I1.kIn hm.kp (run_fnS (us := [.ref a]) (vs := [.ref a]) F hr hb (hx σ) I1 (.cons rfl .nil) q)
/-- isinstance(e, c) of the error that the suite holds, whichever it is -/
def rIsX (K : PySem.W.Frag) (cls : Value) (d : Option Addr) (a : Addr) : List V → Hp → VK → Prop := fun xs H Q => ∃ (D : Addr) (c : V) (cv : Value) (b : Bool), cls = .ref D ∧ d = none ∧ ExcC K D ∧ xs = [.ref a, c] ∧ ClsV c cv ∧ PySem.W.kitOne K (.ref D) cv = some b ∧ Q (.bl b) H
theorem call_isX {X : Cx} {a : Addr} {oe : Obj} {cls : Value} {d : Option Addr} {pn : List (Addr × Obj)} (hz : Zc cls d oe) (hf : ∃ vs, oe.data = .fields vs) : CallR (X.suite a ((a, oe) :: pn)) (.builtin "isinstance") (rIsX X.K cls d a) := by
  intro pins s σ H xs us Q I r h
  obtain ⟨D, c, cv, b, rfl, rfl, C, rfl, k, e, q⟩ := h
  exact call_isE (X := X) (pn := pn) C hz hf pins s σ H _ us Q I r ⟨c, cv, b, rfl, fun u ru => k.eq ru, e, q⟩
/-! ### heaps: what a deed at one object leaves -/
/-- all that is tracked outside of A stays, and is outside of A' -/
def Step (H : Hp) (A : List Addr) (H' : Hp) (A' : List Addr) : Prop := ∀ q o, H q = some o → q ∉ A → H' q = some o ∧ q ∉ A'
theorem Step.refl (H : Hp) (A : List Addr) : Step H A H A := fun _ _ h n => ⟨h, n⟩
theorem Step.trans {H H1 H2 : Hp} {A A1 A2 : List Addr} (a : Step H A H1 A1) (b : Step H1 A1 H2 A2) : Step H A H2 A2 := fun q o h n => b q o (a q o h n).1 (a q o h n).2
theorem Step.same {H H1 H2 : Hp} {A A1 : List Addr} (a : Step H A H1 A1) (b : Same H1 H2) : Step H A H2 A1 := fun q o h n => ⟨b q o (a q o h n).1, (a q o h n).2⟩
theorem Step.ofSame {H H1 : Hp} {A : List Addr} (b : Same H H1) : Step H A H1 A := (Step.refl H A).same b
/-- a store at an address that the first heap does not track -/
theorem Step.upd {H H1 : Hp} {A A1 : List Addr} {m : Addr} {o : HO} (a : Step H A H1 A1) (n : H m = none) : Step H A (upd H1 m o) A1 := fun q u h k => ⟨by rw [upd_ne (ne_of_none h n)]; exact (a q u h k).1, (a q u h k).2⟩
theorem Same.new {H : Hp} {p : Addr} {o : HO} (n : H p = none) : Same H (upd H p o) := fun q u h => by rw [upd_ne (ne_of_none h n)]; exact h
theorem Same.upd {H H1 : Hp} {p : Addr} {o : HO} (a : Same H H1) (n : H p = none) : Same H (upd H1 p o) := fun q u h => by rw [upd_ne (ne_of_none h n)]; exact a q u h
theorem Step.seq {K : PySem.W.Frag} {H H' : Hp} {A A' : List Addr} {a : Addr} {xs : List V} (e : Step H A H' A') (n : a ∉ A) (h : SqL K H a xs) : SqL K H' a xs := by
  rcases h with (h | ⟨o, h⟩) | h
  · exact .inl (.inl (e _ _ h n).1)
  · exact .inl (.inr ⟨o, (e _ _ h n).1⟩)
  · exact .inr h
/-! ### fields by name -/
theorem lk_here {k : Str} {v : V} {r : List (Str × V)} : List.lookup k ((k, v) :: r) = some v := by
  have e : (k == k) = true := beq_self_eq_true k
  simp only [List.lookup, e]
theorem lk_past {k g : Str} {v : V} {r : List (Str × V)} (h : (k == g) = false) : List.lookup k ((g, v) :: r) = List.lookup k r := by
  simp only [List.lookup, h]
theorem put_here {f : Str} {v x : V} {r : List (Str × V)} : putF f v ((f, x) :: r) = (f, v) :: r := if_pos rfl
theorem put_past {f g : Str} {v x : V} {r : List (Str × V)} (h : ¬ g = f) : putF f v ((g, x) :: r) = (g, x) :: putF f v r := if_neg h
theorem put_nil {f : Str} {v : V} : putF f v [] = [(f, v)] := rfl
/-! ### data compared -/
theorem canAll_ints : ∀ ns : List Int, PyData.canLayAll0 (ns.map PyData.int) = true
  | [] => rfl
  | n :: r => by
    show (PyData.canLay0 (.int n) && PyData.canLayAll0 (r.map PyData.int)) = true
    rw [canAll_ints r]
    rfl
theorem depthAll_ints : ∀ ns : List Int, PyData.depthAll (ns.map PyData.int) ≤ 1
  | [] => by decide
  | n :: r => by
    have := depthAll_ints r
    show max (PyData.depth (.int n)) (PyData.depthAll (r.map PyData.int)) ≤ 1
    have e : PyData.depth (.int n) ≤ 1 := by simp [PyData.depth]
    omega
theorem eqvAll_ints : ∀ a b : List Int, PyData.eqvAll (a.map PyData.int) (b.map PyData.int) = decide (a = b)
  | [], [] => rfl
  | [], _ :: _ => rfl
  | _ :: _, [] => rfl
  | x :: a, y :: b => by
    show ((x == y) && PyData.eqvAll (a.map PyData.int) (b.map PyData.int)) = decide (x :: a = y :: b)
    rw [eqvAll_ints a b]
    by_cases h : x = y
    · subst h
      simp
    · have : (x == y) = false := by simpa using h
      rw [this]
      simp [h]
theorem dp_ints {K : PySem.W.Frag} {H : Hp} : ∀ ns : List Int, DpAll K H (ns.map V.int) (ns.map PyData.int)
  | [] => .nil
  | n :: r => .cons (.int n) (dp_ints r)
theorem Dp.ints {K : PySem.W.Frag} {H : Hp} {a : Addr} {ns : List Int} (h : SqL K H a (ns.map V.int)) : Dp K H (.ref a) (.list (ns.map PyData.int)) := .lst h (dp_ints ns)
theorem shaped_ints (ns : List Int) : SeqAt.shaped (.list (ns.map PyData.int)) = true := by
  unfold SeqAt.shaped
  have h := depthAll_ints ns
  have e : PyData.depth (.list (ns.map PyData.int)) ≤ 64 := by
    show PyData.depthAll (ns.map PyData.int) + 1 ≤ 64
    omega
  rw [Bool.and_eq_true]
  exact ⟨canAll_ints ns, decide_eq_true e⟩
/-- xs == ys, xs != ys of lists of whole numbers -/
def rEqI (K : PySem.W.Frag) : R2 := fun x y H Q => ∃ (a b : Addr) (xs ys : List Int), x = .ref a ∧ y = .ref b ∧ SqL K H a (xs.map V.int) ∧ SqL K H b (ys.map V.int) ∧ Q (.bl (decide (xs = ys))) H
def rNeI (K : PySem.W.Frag) : R2 := fun x y H Q => ∃ (a b : Addr) (xs ys : List Int), x = .ref a ∧ y = .ref b ∧ SqL K H a (xs.map V.int) ∧ SqL K H b (ys.map V.int) ∧ Q (.bl (!decide (xs = ys))) H
theorem op_eqI {X : Cx} (hu : X.A.units + 64 < cLine) : OpR X (compareOp .Eq) (rEqI X.K) := by
  intro pins s σ H x y v u Q I rx ry h
  obtain ⟨a, b, xs, ys, rfl, rfl, h1, h2, q⟩ := h
  refine op_eqD hu pins s σ H _ _ v u Q I rx ry ⟨_, _, Dp.ints h1, Dp.ints h2, shaped_ints xs, shaped_ints ys, ?_⟩
  show Q (.bl (PyData.eqvAll (xs.map PyData.int) (ys.map PyData.int))) H
  rw [eqvAll_ints]
  exact q
theorem op_neI {X : Cx} (hu : X.A.units + 64 < cLine) : OpR X (compareOp .NotEq) (rNeI X.K) := by
  intro pins s σ H x y v u Q I rx ry h
  obtain ⟨a, b, xs, ys, rfl, rfl, h1, h2, q⟩ := h
  refine op_neD hu pins s σ H _ _ v u Q I rx ry ⟨_, _, Dp.ints h1, Dp.ints h2, shaped_ints xs, shaped_ints ys, ?_⟩
  show Q (.bl (!PyData.eqvAll (xs.map PyData.int) (ys.map PyData.int))) H
  rw [eqvAll_ints]
  exact q
theorem shaped_tup (ns : List Int) : SeqAt.shaped (.tuple (ns.map PyData.int)) = true := by
  unfold SeqAt.shaped
  have h := depthAll_ints ns
  have e : PyData.depth (.tuple (ns.map PyData.int)) ≤ 64 := by
    show PyData.depthAll (ns.map PyData.int) + 1 ≤ 64
    omega
  rw [Bool.and_eq_true]
  exact ⟨canAll_ints ns, decide_eq_true e⟩
/-- t == u, t != u of tuples of whole numbers -/
def rEqT (K : PySem.W.Frag) : R2 := fun x y H Q => ∃ (a b : Addr) (xs ys : List Int), x = .ref a ∧ y = .ref b ∧ SqT K H a (xs.map V.int) ∧ SqT K H b (ys.map V.int) ∧ Q (.bl (decide (xs = ys))) H
def rNeT (K : PySem.W.Frag) : R2 := fun x y H Q => ∃ (a b : Addr) (xs ys : List Int), x = .ref a ∧ y = .ref b ∧ SqT K H a (xs.map V.int) ∧ SqT K H b (ys.map V.int) ∧ Q (.bl (!decide (xs = ys))) H
theorem op_eqT {X : Cx} (hu : X.A.units + 64 < cLine) : OpR X (compareOp .Eq) (rEqT X.K) := by
  intro pins s σ H x y v u Q I rx ry h
  obtain ⟨a, b, xs, ys, rfl, rfl, h1, h2, q⟩ := h
  refine op_eqD hu pins s σ H _ _ v u Q I rx ry ⟨_, _, .tup h1 (dp_ints xs), .tup h2 (dp_ints ys), shaped_tup xs, shaped_tup ys, ?_⟩
  show Q (.bl (PyData.eqvAll (xs.map PyData.int) (ys.map PyData.int))) H
  rw [eqvAll_ints]
  exact q
theorem op_neT {X : Cx} (hu : X.A.units + 64 < cLine) : OpR X (compareOp .NotEq) (rNeT X.K) := by
  intro pins s σ H x y v u Q I rx ry h
  obtain ⟨a, b, xs, ys, rfl, rfl, h1, h2, q⟩ := h
  refine op_neD hu pins s σ H _ _ v u Q I rx ry ⟨_, _, .tup h1 (dp_ints xs), .tup h2 (dp_ints ys), shaped_tup xs, shaped_tup ys, ?_⟩
  show Q (.bl (!PyData.eqvAll (xs.map PyData.int) (ys.map PyData.int))) H
  rw [eqvAll_ints]
  exact q
end Hf
/-! ## errors whose context is None -/
namespace Hf
open PySem PySem.Spec PyProof.Rows L2
theorem Fun.okXN {P : Program} {w : World} {K : PySem.W.Frag} {mg : Str → Option Value} {base : Heap} {x qual : Str} {st : Stmt} {f : Addr} {fd : FuncData} {N ps : List Str} {k : Nat} {sp : Sp} (F : Fun K x qual st f fd) (S : FnScope N ps (defScope st)) (len : ∀ vs H Q E, sp vs H Q E → vs.length = ps.length)
    (body : ∀ (cdv : Value) (A : Around) (outer : List Env) (s : Shared) (H : Hp) (vs : List V) (Q : VK) (E : XK), Room k (A.deeper (envOfC qual (defScope st) s.heap.objs.size f cdv)) → sp vs H Q E →
      ∃ t, PSs (cxOf (L2N.CX P w) P w K mg base N qual (defScope st) f cdv A outer s H E) (defBody st) t ∧ t { nx := fun _ H' => Q .non H', rt := Q } (start N vs) H) : FnOk P w K mg base (L2N.CX P w) (k + 1) f fd ps sp := by
  obtain ⟨oc', od', kV', doc', pm', an', cdv', ct', osl', rfl, lk', hcd'⟩ := F.ex
  exact fn_of lk' hcd' S len fun A outer s H vs Q E hr hsp => body cdv' A outer s H vs Q E hr hsp
theorem passN {X : Cx} : Passes (L2N.CX X.prog X.w) X E0 := fun _ _ _ _ _ _ _ h => by
  obtain ⟨_, _, _, _, _, _, _, _, _, _, _, _, z⟩ := h
  exact z.elim
end Hf
/-! ## Halfline: the mirror -/
namespace Hf
open PySem PySem.Spec PyProof.Rows L2
def endS (fr : Bool) : Str := if fr then "front" else "back"
/-- half of a row goes over -/
def overN (n : Nat) : Nat := (n + 1) / 2
def layM (full : List Int) : List Int := (full.take (overN full.length)).reverse
def layK (full : List Int) : List Int := full.drop (overN full.length)
def layS (full : List Int) : Int := (overN full.length : Int) + 2 * ((full.length : Int) - (overN full.length : Int))
/-- both rows and the steps behind the laying over (own row first) -/
def laid (mine theirs : List Int) : List Int × List Int × Int := if mine = [] then (layM theirs, layK theirs, layS theirs) else (mine, theirs, 0)
/-- a take: the thing, own row, other row, steps -/
def takeM (mine theirs : List Int) : Int × List Int × List Int × Int :=
  let l := laid mine theirs
  (l.1.getLastD 0, l.1.dropLast, l.2.1, l.2.2 + 1)
theorem layM_ne {full : List Int} (h : full ≠ []) : layM full ≠ [] := by
  unfold layM overN
  intro e
  have e2 : (full.take ((full.length + 1) / 2)) = [] := by simpa using e
  have hl : 0 < full.length := List.length_pos_iff.mpr h
  have e3 : (full.take ((full.length + 1) / 2)).length = 0 := by rw [e2]; rfl
  rw [List.length_take] at e3
  omega
theorem laid_ne {mine theirs : List Int} (h : mine ≠ [] ∨ theirs ≠ []) : (laid mine theirs).1 ≠ [] := by
  unfold laid
  by_cases c : mine = []
  · rw [if_pos c]
    rcases h with h | h
    · exact absurd c h
    · exact layM_ne h
  · rw [if_neg c]
    exact c
theorem laid_things (mine theirs : List Int) : (laid mine theirs).1.reverse ++ (laid mine theirs).2.1 = mine.reverse ++ theirs := by
  unfold laid
  by_cases c : mine = []
  · rw [if_pos c, c]
    show (layM theirs).reverse ++ layK theirs = [] ++ theirs
    unfold layM layK
    rw [List.reverse_reverse, List.take_append_drop]
    rfl
  · rw [if_neg c]
/-- the thing taken is the line's first, seen from the own end; the rest stays -/
theorem takeM_things {mine theirs : List Int} (h : mine ≠ [] ∨ theirs ≠ []) : mine.reverse ++ theirs = (takeM mine theirs).1 :: ((takeM mine theirs).2.1.reverse ++ (takeM mine theirs).2.2.1) := by
  rw [← laid_things]
  have hn := laid_ne h
  show (laid mine theirs).1.reverse ++ (laid mine theirs).2.1 = (laid mine theirs).1.getLastD 0 :: ((laid mine theirs).1.dropLast.reverse ++ (laid mine theirs).2.1)
  have e : (laid mine theirs).1 = (laid mine theirs).1.dropLast ++ [(laid mine theirs).1.getLast hn] := (List.dropLast_concat_getLast hn).symm
  generalize (laid mine theirs).1 = l at *
  have e2 : l.getLastD 0 = l.getLast hn := by
    cases l with
    | nil => exact absurd rfl hn
    | cons a r => rfl
  rw [e2]
  conv => lhs; rw [e]
  simp
end Hf
/-! ## Halfline: the heap and the promises -/
namespace Hf
open PySem PySem.Spec PyProof.Rows L2
def hF (f b : Addr) (n : Int) : List (Str × V) := [("front", .ref f), ("back", .ref b), ("steps", .int n)]
theorem hF_front (f b : Addr) (n : Int) : (hF f b n).lookup ("front" : Str) = some (.ref f) := lk_here
theorem hF_back (f b : Addr) (n : Int) : (hF f b n).lookup ("back" : Str) = some (.ref b) := (lk_past (by decide +kernel)).trans lk_here
theorem hF_steps (f b : Addr) (n : Int) : (hF f b n).lookup ("steps" : Str) = some (.int n) := (lk_past (by decide +kernel)).trans ((lk_past (by decide +kernel)).trans lk_here)
theorem hF_no (f b : Addr) (n : Int) {m : Str} (h1 : (m == "front") = false) (h2 : (m == "back") = false) (h3 : (m == "steps") = false) : (hF f b n).lookup m = none :=
  (lk_past h1).trans ((lk_past h2).trans ((lk_past h3).trans rfl))
theorem put_front (f b x : Addr) (n : Int) : putF "front" (.ref x) (hF f b n) = hF x b n := put_here
theorem put_back (f b x : Addr) (n : Int) : putF "back" (.ref x) (hF f b n) = hF f x n := (put_past (by decide +kernel)).trans (congrArg _ put_here)
theorem put_steps (f b : Addr) (n m : Int) : putF "steps" (.int m) (hF f b n) = hF f b m := (put_past (by decide +kernel)).trans (congrArg _ ((put_past (by decide +kernel)).trans (congrArg _ put_here)))
/-- a Halfline stands at p with the rows xs (front) and ys (back) and n steps; A: the addresses that are its own -/
def HalfAt (C : Addr) (H : Hp) (p : Addr) (A : List Addr) (xs ys : List Int) (n : Int) : Prop :=
  ∃ dx f b, A = [p, f, b] ∧ H p = some (.ins C dx (hF f b n)) ∧ H f = some (.lst (xs.map V.int)) ∧ H b = some (.lst (ys.map V.int)) ∧ f ≠ b
theorem HalfAt.same {C : Addr} {H H' : Hp} {p : Addr} {A : List Addr} {xs ys : List Int} {n : Int} (h : HalfAt C H p A xs ys n) (s : Same H H') : HalfAt C H' p A xs ys n := by
  obtain ⟨dx, f, b, e, h1, h2, h3, h4⟩ := h
  exact ⟨dx, f, b, e, s _ _ h1, s _ _ h2, s _ _ h3, h4⟩
/-- as long as its own addresses stay -/
theorem HalfAt.keep {C : Addr} {H H' : Hp} {p : Addr} {A : List Addr} {xs ys : List Int} {n : Int} (h : HalfAt C H p A xs ys n) (s : ∀ q o, q ∈ A → H q = some o → H' q = some o) : HalfAt C H' p A xs ys n := by
  obtain ⟨dx, f, b, rfl, h1, h2, h3, h4⟩ := h
  exact ⟨dx, f, b, rfl, s _ _ (by simp) h1, s _ _ (by simp) h2, s _ _ (by simp) h3, h4⟩
theorem HalfAt.trk {C : Addr} {H : Hp} {p : Addr} {A : List Addr} {xs ys : List Int} {n : Int} (h : HalfAt C H p A xs ys n) : ∀ q, q ∈ A → ∃ o, H q = some o := by
  obtain ⟨dx, f, b, rfl, h1, h2, h3, h4⟩ := h
  intro q hq
  simp at hq
  rcases hq with rfl | rfl | rfl
  · exact ⟨_, h1⟩
  · exact ⟨_, h2⟩
  · exact ⟨_, h3⟩
theorem HalfAt.upd {C : Addr} {H : Hp} {p m : Addr} {o : HO} {A : List Addr} {xs ys : List Int} {n : Int} (h : HalfAt C H p A xs ys n) (hm : m ∉ A) : HalfAt C (upd H m o) p A xs ys n :=
  h.keep fun q u hq e => by rw [upd_ne (fun z : q = m => hm (by rw [← z]; exact hq))]; exact e
/-- what isinstance says of no whole number, of no text -/
def NoThing (K : PySem.W.Frag) (H : Hp) (x : V) : Prop := ∃ n : String, TyX K H x (.type n) ∧ (kitB n "int" = some false ∨ (kitB n "int" = some true ∧ kitB n "bool" = some true))
def NoEnd (K : PySem.W.Frag) (H : Hp) (x : V) : Prop := (∃ n : String, TyX K H x (.type n) ∧ kitB n "str" = some false) ∨ (∃ z : Str, x = .str z ∧ z ≠ "front" ∧ z ≠ "back")
def spThing (K : PySem.W.Frag) (CT : Addr) : Sp := fun vs H Q E => (∃ i : Int, vs = [.int i] ∧ Q .non H) ∨ (∃ x, vs = [x] ∧ NoThing K H x ∧ E (.ref CT) none H)
def spEnd (K : PySem.W.Frag) (CE : Addr) : Sp := fun vs H Q E => (∃ fr : Bool, vs = [.str (endS fr)] ∧ Q .non H) ∨ (∃ x, vs = [x] ∧ NoEnd K H x ∧ E (.ref CE) none H)
def spInitH (C : Addr) : Sp := fun vs H Q _ => ∃ (p dx : Addr), vs = [.ref p] ∧ H p = some (.ins C dx []) ∧
  ∀ (H' : Hp) (A : List Addr), HalfAt C H' p A [] [] 0 → (∀ b o, H b = some o → b ≠ p → H' b = some o ∧ b ∉ A) → Q .non H'
/-- the rows when z is put to the front (fr) or to the back -/
def putX (fr : Bool) (xs : List Int) (z : Int) : List Int := if fr then xs ++ [z] else xs
def spPutH (K : PySem.W.Frag) (C CT CE : Addr) : Sp := fun vs H Q E => ∃ (p : Addr) (A : List Addr) (xs ys : List Int) (n : Int), HalfAt C H p A xs ys n ∧
  ((∃ (fr : Bool) (z : Int), vs = [.ref p, .str (endS fr), .int z] ∧ xs.length + ys.length < 1000000 ∧
      ∀ (H' : Hp) (A' : List Addr), HalfAt C H' p A' (putX fr xs z) (putX (!fr) ys z) (n + 1) → Step H A H' A' → Q .non H') ∨
   (∃ e t, vs = [.ref p, e, t] ∧ NoEnd K H e ∧ E (.ref CE) none H) ∨
   (∃ (fr : Bool) (t : V), vs = [.ref p, .str (endS fr), t] ∧ NoThing K H t ∧ E (.ref CT) none H))
def spLay (C : Addr) : Sp := fun vs H Q _ => ∃ (p dx f b l : Addr) (n : Int) (xs : List Int), vs = [.ref p, .ref l] ∧ H p = some (.ins C dx (hF f b n)) ∧ H l = some (.lst (xs.map V.int)) ∧ xs.length < 1000000 ∧
  ∀ (H' : Hp) (m k q : Addr), H' p = some (.ins C dx (hF f b (n + layS xs))) → H' m = some (.lst ((layM xs).map V.int)) → H' k = some (.lst ((layK xs).map V.int)) → H' q = some (.tup [.ref m, .ref k]) → m ≠ k →
    H m = none → H k = none → (∀ c o, H c = some o → c ≠ p → H' c = some o) → Q (.ref q) H'
def takeX (fr : Bool) (xs ys : List Int) : List Int := if fr then (takeM xs ys).2.1 else (takeM ys xs).2.2.1
def takeY (fr : Bool) (xs ys : List Int) : List Int := if fr then (takeM xs ys).2.2.1 else (takeM ys xs).2.1
def takeZ (fr : Bool) (xs ys : List Int) : Int := if fr then (takeM xs ys).1 else (takeM ys xs).1
def takeN (fr : Bool) (xs ys : List Int) : Int := if fr then (takeM xs ys).2.2.2 else (takeM ys xs).2.2.2
def spTakeH (K : PySem.W.Frag) (C CE CM : Addr) : Sp := fun vs H Q E => ∃ (p : Addr) (A : List Addr) (xs ys : List Int) (n : Int), HalfAt C H p A xs ys n ∧ xs.length + ys.length < 1000000 ∧
  ((∃ fr : Bool, vs = [.ref p, .str (endS fr)] ∧ xs = [] ∧ ys = [] ∧ ∀ H', Same H H' → E (.ref CM) none H') ∨
   (∃ fr : Bool, vs = [.ref p, .str (endS fr)] ∧ (xs ≠ [] ∨ ys ≠ []) ∧
      ∀ (H' : Hp) (A' : List Addr), HalfAt C H' p A' (takeX fr xs ys) (takeY fr xs ys) (n + takeN fr xs ys) → Step H A H' A' → Q (.int (takeZ fr xs ys)) H') ∨
   (∃ e, vs = [.ref p, e] ∧ NoEnd K H e ∧ E (.ref CE) none H))
def spTurnH (C : Addr) : Sp := fun vs H Q _ => ∃ (p : Addr) (A : List Addr) (xs ys : List Int) (n : Int), vs = [.ref p] ∧ HalfAt C H p A xs ys n ∧
  ∀ (H' : Hp) (A' : List Addr), HalfAt C H' p A' ys xs n → Step H A H' A' → Q .non H'
def spThingsH (C : Addr) : Sp := fun vs H Q _ => ∃ (p : Addr) (A : List Addr) (xs ys : List Int) (n : Int), vs = [.ref p] ∧ HalfAt C H p A xs ys n ∧ xs.length + ys.length < 1000000 ∧
  ∀ (H' : Hp) (l : Addr), Same H H' → H l = none → H' l = some (.lst ((xs.reverse ++ ys).map V.int)) → Q (.ref l) H'
def spStepsH (C : Addr) : Sp := fun vs H Q _ => ∃ (p : Addr) (A : List Addr) (xs ys : List Int) (n : Int), vs = [.ref p] ∧ HalfAt C H p A xs ys n ∧ Q (.int n) H
def spHalvesH (C : Addr) : Sp := fun vs H Q _ => ∃ (p : Addr) (A : List Addr) (xs ys : List Int) (n : Int), vs = [.ref p] ∧ HalfAt C H p A xs ys n ∧
  ∀ (H' : Hp) (t : Addr), Same H H' → H t = none → H' t = some (.tup [.int (xs.length : Int), .int (ys.length : Int)]) → Q (.ref t) H'
def spPurseH (C : Addr) : Sp := fun vs H Q _ => ∃ (p : Addr) (A : List Addr) (xs ys : List Int) (n : Int), vs = [.ref p] ∧ HalfAt C H p A xs ys n ∧
  Q (.int (3 * (if (xs.length : Int) - (ys.length : Int) < 0 then -((xs.length : Int) - (ys.length : Int)) else (xs.length : Int) - (ys.length : Int)))) H
abbrev bmV : List Value := [.type "ValueError", .type "Exception", .type "BaseException", .type "object"]
/-- what the top has written of an error's class -/
structure ETxt (K : PySem.W.Frag) (mg : Str → Option Value) (x : Str) (C : Addr) : Prop where
  g : mg x = some (.ref C)
  x : PySem.W.excIn K C bmV "ValueError.__new__" = true
  k : PySem.W.keepIn K (.ref C) = true
  b : PySem.W.subIn K (.ref C) (.type "BaseException") = some true
  t : PySem.W.typeIn K (.ref C) = some (.type "type")
/-- the built-ins that the text means -/
structure BTxt (mg : Str → Option Value) : Prop where
  isi : mg "isinstance" = none
  int : mg "int" = none
  bool : mg "bool" = none
  str : mg "str" = none
  len : mg "len" = none
  abs : mg "abs" = none
structure HTxt (K : PySem.W.Frag) (mg : Str → Option Value) (C CT CE CM aE : Addr) : Prop where
  cl : Cls K C
  nF : NoAttr K C "front"
  nB : NoAttr K C "back"
  nS : NoAttr K C "steps"
  gC : mg "Halfline" = some (.ref C)
  T : ETxt K mg "BadThing" CT
  E : ETxt K mg "BadEnd" CE
  M : ETxt K mg "Empty" CM
  B : BTxt mg
  ends : mg "ENDS" = some (.ref aE)
  endsT : ∀ H, SqT K H aE [.str "front", .str "back"]
end Hf
/-! ### slices -/
namespace Hf
open PySem PySem.Spec PyProof.Rows L2
theorem sIx_nat (n j : Nat) (d : Nat) : HT.sIx n d (some (j : Int)) = min j n := by
  unfold HT.sIx
  simp
  intro h
  omega
theorem cut_to (xs : List V) (j : Nat) : cutV xs none (some (j : Int)) = xs.take j := by
  unfold cutV
  rw [sIx_nat]
  show (xs.drop 0).take (min j xs.length - 0) = xs.take j
  rw [List.drop_zero, Nat.sub_zero]
  by_cases h : j ≤ xs.length
  · rw [Nat.min_eq_left h]
  · rw [Nat.min_eq_right (by omega), List.take_of_length_le (Nat.le_refl _), List.take_of_length_le (by omega)]
theorem cut_from (xs : List V) (j : Nat) : cutV xs (some (j : Int)) none = xs.drop j := by
  unfold cutV
  rw [sIx_nat]
  show (xs.drop (min j xs.length)).take (xs.length - min j xs.length) = xs.drop j
  by_cases h : j ≤ xs.length
  · rw [Nat.min_eq_left h, List.take_of_length_le (by rw [List.length_drop]; exact Nat.le_refl _)]
  · rw [Nat.min_eq_right (by omega), List.drop_of_length_le (Nat.le_refl _), List.drop_of_length_le (by omega), List.take_nil]
end Hf
/-! ## asked_thing -/
namespace Hf
open PySem PySem.Spec PyProof.Rows L2
def top (i : Nat) : Stmt := PySem.Challenge.pw_halfline_k08_whole_numbers.main.body.getD i (.Pass ⟨0, 0, 0, 0⟩)
abbrev sThing : Stmt := top 7
section
variable {P : Program} {w : World} {K : PySem.W.Frag} {mg : Str → Option Value} {base : Heap} {C CT CE CM aE : Addr}
theorem scThing : FnScope ["thing"] ["thing"] (defScope sThing) := ⟨rfl, rfl, rfl, by decide +kernel, rfl, by decide +kernel, by decide +kernel⟩
theorem ok_thing {f : Addr} {fd : FuncData} (F : Fun K "asked_thing" "asked_thing" sThing f fd) (B : BTxt mg) (T : ETxt K mg "BadThing" CT) : FnOk P w K mg base (L2N.CX P w) 1 f fd ["thing"] (spThing K CT) := by
  refine Fun.okXN F scThing (fun vs H Q E h => ?_) (fun cdv A outer s H vs Q E hr h => ?_)
  · rcases h with ⟨_, rfl, _⟩ | ⟨_, rfl, _⟩ <;> rfl
  · refine ⟨_, pss_one (ps_if (PW.pt (pw_or (pt_not (pt_val (pe_callB call_isi (by rfl) B.isi (by decide +kernel) (pa_cons (pv 0) (pa_cons (pe_bltn (v := .ty "int") (by rfl) B.int (by decide +kernel) rfl) pa_nil)))))
        (pw_or1 (pt_val (pe_callB call_isi (by rfl) B.isi (by decide +kernel) (pa_cons (pv 0) (pa_cons (pe_bltn (v := .ty "bool") (by rfl) B.bool (by decide +kernel) rfl) pa_nil)))))))
      (pss_one (L2N.ps_raise rfl (L2N.takes_of rfl rfl rfl rfl) (L2N.pmk_own PySem.F.excBase_ValueError T.x T.g T.k (raises_own T.b T.t) (by exact rfl)))) pss_nil), ?_⟩
    rcases h with ⟨i, rfl, q⟩ | ⟨x, rfl, ⟨n, ty, hn⟩, q⟩
    · refine ⟨_, rfl, _, _, _, _, true, rfl, .ty "int", .base (.int i), kit_ty (by decide +kernel), true, rfl, iteF ?_⟩
      exact ⟨_, rfl, _, _, _, _, false, rfl, .ty "bool", .base (.int i), kit_ty (by decide +kernel), false, rfl, iteF q⟩
    · rcases hn with h1 | ⟨h1, h2⟩
      · exact ⟨_, rfl, _, _, _, _, false, rfl, .ty "int", ty, kit_ty h1, false, rfl, iteT (iteT q)⟩
      · refine ⟨_, rfl, _, _, _, _, true, rfl, .ty "int", ty, kit_ty h1, true, rfl, iteF ?_⟩
        exact ⟨_, rfl, _, _, _, _, true, rfl, .ty "bool", ty, kit_ty h2, true, rfl, iteT q⟩
end
end Hf
/-! ## Halfline: the bodies -/
namespace Hf
open PySem PySem.Spec PyProof.Rows L2
abbrev sEnd : Stmt := top 8
abbrev sHI : Stmt := inClass (top 9) 0
abbrev sHPut : Stmt := inClass (top 9) 1
abbrev sHLay : Stmt := inClass (top 9) 2
abbrev sHTake : Stmt := inClass (top 9) 3
abbrev sHTurn : Stmt := inClass (top 9) 4
abbrev sHThings : Stmt := inClass (top 9) 5
abbrev sHSteps : Stmt := inClass (top 9) 6
abbrev sHHalves : Stmt := inClass (top 9) 7
abbrev sHPurse : Stmt := inClass (top 9) 8
section
variable {P : Program} {w : World} {K : PySem.W.Frag} {mg : Str → Option Value} {base : Heap} {C CT CE CM aE : Addr}
theorem scEnd : FnScope ["end"] ["end"] (defScope sEnd) := ⟨rfl, rfl, rfl, by decide +kernel, rfl, by decide +kernel, by decide +kernel⟩
theorem inV_end (fr : Bool) : inV (.str (endS fr)) [.str "front", .str "back"] = true := by cases fr <;> decide +kernel
theorem inV_no {z : Str} (h1 : z ≠ "front") (h2 : z ≠ "back") : inV (.str z) [.str "front", .str "back"] = false := by
  have a : (("front" : Str) == z) = false := by simpa using fun e => h1 e.symm
  have b : (("back" : Str) == z) = false := by simpa using fun e => h2 e.symm
  show ((("front" : Str) == z) || ((("back" : Str) == z) || false)) = false
  rw [a, b]
  rfl
theorem ok_end {f : Addr} {fd : FuncData} (F : Fun K "asked_end" "asked_end" sEnd f fd) (T : HTxt K mg C CT CE CM aE) : FnOk P w K mg base (L2N.CX P w) 1 f fd ["end"] (spEnd K CE) := by
  refine Fun.okXN F scEnd (fun vs H Q E h => ?_) (fun cdv A outer s H vs Q E hr h => ?_)
  · rcases h with ⟨_, rfl, _⟩ | ⟨_, rfl, _⟩ <;> rfl
  · refine ⟨_, pss_one (ps_if (PW.pt (pw_or (pt_not (pt_val (pe_callB call_isi (by rfl) T.B.isi (by decide +kernel) (pa_cons (pv 0) (pa_cons (pe_bltn (v := .ty "str") (by rfl) T.B.str (by decide +kernel) rfl) pa_nil)))))
        (pw_or1 (pt_cmpR op_notIn_seq (pv 0) (pe_glob (v := .ref aE) rfl T.ends rfl) (by rfl)))))
      (pss_one (L2N.ps_raise rfl (L2N.takes_of rfl rfl rfl rfl) (L2N.pmk_own PySem.F.excBase_ValueError T.E.x T.E.g T.E.k (raises_own T.E.b T.E.t) (by exact rfl)))) pss_nil), ?_⟩
    rcases h with ⟨fr, rfl, q⟩ | ⟨x, rfl, ⟨n, ty, hn⟩ | ⟨z, rfl, h1, h2⟩, q⟩
    · refine ⟨_, rfl, _, _, _, _, true, rfl, .ty "str", .base (.str _), kit_ty (by decide +kernel), true, rfl, iteF ?_⟩
      refine ⟨_, rfl, aE, _, rfl, .inr (T.endsT H), rfl, rfl, false, ?_, iteF q⟩
      show V.bl (!inV (.str (endS fr)) [.str "front", .str "back"]) = V.bl false
      rw [inV_end]
      rfl
    · exact ⟨_, rfl, _, _, _, _, false, rfl, .ty "str", ty, kit_ty hn, false, rfl, iteT (iteT q)⟩
    · refine ⟨_, rfl, _, _, _, _, true, rfl, .ty "str", .base (.str _), kit_ty (by decide +kernel), true, rfl, iteF ?_⟩
      refine ⟨_, rfl, aE, _, rfl, .inr (T.endsT H), rfl, rfl, true, ?_, iteT q⟩
      show V.bl (!inV (.str z) [.str "front", .str "back"]) = V.bl true
      rw [inV_no h1 h2]
      rfl
theorem scHI : FnScope ["self"] ["self"] (defScope sHI) := ⟨rfl, rfl, rfl, by decide +kernel, rfl, by decide +kernel, by decide +kernel⟩
theorem hF_new (f b : Addr) : putF "steps" (.int 0) (putF "back" (.ref b) (putF "front" (.ref f) [])) = hF f b 0 := by
  have e1 : putF "back" (.ref b) (putF "front" (.ref f) []) = ([("front", .ref f), ("back", .ref b)] : List (Str × V)) := (put_past (by decide +kernel)).trans rfl
  rw [e1]
  exact (put_past (by decide +kernel)).trans (congrArg _ ((put_past (by decide +kernel)).trans rfl))
theorem ok_hi {f : Addr} {fd : FuncData} (F : Fun K "__init__" "Halfline.__init__" sHI f fd) (T : HTxt K mg C CT CE CM aE) : FnOk P w K mg base CX0 1 f fd ["self"] (spInitH C) := by
  refine F.ok scHI (fun vs H Q E h => ?_) (fun cdv A outer s H vs Q E hr h => ?_)
  · obtain ⟨p, dx, rfl, _⟩ := h
    rfl
  · obtain ⟨p, dx, rfl, hp, k⟩ := h
    refine ⟨_, pss_cons (ps_fld (pv 0) (pe_lst pa_nil) rfl) (pss_cons (ps_fld (pv 0) (pe_lst pa_nil) rfl) (pss_one (ps_fld (pv 0) pe_int rfl))), ?_⟩
    refine ⟨(by show 0 ≤ sizeLine; decide), fun f1 n1 => ?_⟩
    have pf : p ≠ f1 := ne_of_none hp n1
    refine ⟨_, rfl, p, C, dx, [], rfl, (by rw [upd_ne pf]; exact hp), T.cl, T.nF, (by show 0 < 1000; decide), ?_⟩
    refine ⟨(by show 0 ≤ sizeLine; decide), fun b1 n2 => ?_⟩
    have pb : p ≠ b1 := ne_of_none upd_same n2
    have fb : f1 ≠ b1 := ne_of_none (by rw [upd_ne pf.symm]; exact upd_same) n2
    refine ⟨_, rfl, p, C, dx, _, rfl, (by rw [upd_ne pb]; exact upd_same), T.cl, T.nB, (by show 1 < 1000; decide), ?_⟩
    refine ⟨_, rfl, p, C, dx, _, rfl, upd_same, T.cl, T.nS, (by show 2 < 1000; decide), ?_⟩
    refine k _ [p, f1, b1] ⟨dx, f1, b1, rfl, Eq.trans upd_same (congrArg (fun q => some (HO.ins C dx q)) (hF_new f1 b1)), ?_, ?_, fb⟩ fun c o e hc => ?_
    · rw [upd_ne pf.symm, upd_ne pf.symm, upd_ne fb, upd_ne pf.symm]
      exact upd_same
    · rw [upd_ne pb.symm, upd_ne pb.symm]
      exact upd_same
    · have c1 : c ≠ f1 := ne_of_none e n1
      have c2 : c ≠ b1 := by
        refine ne_of_none (o := o) ?_ n2
        rw [upd_ne hc, upd_ne c1]
        exact e
      refine ⟨by rw [upd_ne hc, upd_ne hc, upd_ne c2, upd_ne hc, upd_ne c1]; exact e, by simp [hc, c1, c2]⟩
theorem scHPut : FnScope ["self", "end", "thing", "row"] ["self", "end", "thing"] (defScope sHPut) := ⟨rfl, rfl, rfl, by decide +kernel, rfl, by decide +kernel, by decide +kernel⟩
theorem dec_end (fr : Bool) : decide (V.str (endS fr) = V.str "front") = fr := by cases fr <;> decide +kernel
theorem dec_endB (fr : Bool) : decide (V.str (endS fr) = V.str "back") = !fr := by cases fr <;> decide +kernel
theorem ok_hput {f fT fE : Addr} {fd fdT fdE : FuncData} (F : Fun K "put" "Halfline.put" sHPut f fd) (T : HTxt K mg C CT CE CM aE)
    (FT : Fun K "asked_thing" "asked_thing" sThing fT fdT) (bT : Binds K fdT ["thing"] []) (gT : mg "asked_thing" = some (.ref fT))
    (FE : Fun K "asked_end" "asked_end" sEnd fE fdE) (bE : Binds K fdE ["end"] []) (gE : mg "asked_end" = some (.ref fE)) :
    FnOk P w K mg base (L2N.CX P w) 2 f fd ["self", "end", "thing"] (spPutH K C CT CE) := by
  have GT : FnOk P w K mg base (L2N.CX P w) 1 fT fdT ["thing"] (spThing K CT) := ok_thing FT T.B T.T
  have GE : FnOk P w K mg base (L2N.CX P w) 1 fE fdE ["end"] (spEnd K CE) := ok_end FE T
  refine Fun.okXN F scHPut (fun vs H Q E h => ?_) (fun cdv A outer s H vs Q E hr h => ?_)
  · obtain ⟨p, A, xs, ys, n, hA, ⟨fr, z, rfl, _⟩ | ⟨e, t, rfl, _⟩ | ⟨fr, t, rfl, _⟩⟩ := h <;> rfl
  · refine ⟨_, pss_cons (ps_expr (pe_callS GE hr rfl gE FE.kp bE (fun σ => L2N.passAt (L2N.takes_of rfl rfl rfl rfl) σ) (pa_cons (pv 1) pa_nil)))
      (pss_cons (ps_expr (pe_callS GT hr rfl gT FT.kp bT (fun σ => L2N.passAt (L2N.takes_of rfl rfl rfl rfl) σ) (pa_cons (pv 2) pa_nil)))
      (pss_cons (ps_set (i := 3) scHPut.nd rfl (Or.inl rfl) (pe_ifExp (pt_cmpR op_eq (pv 1) pe_str (nomark _)) (pe_fld (pv 0) rfl) (pe_fld (pv 0) rfl)))
      (pss_cons (ps_expr (pe_bm PySem.F.plainAttrs_list PySem.F.slot_list_append PySem.F.type_list_append mt_append (pv 3) (pa_cons (pv 2) pa_nil)))
      (pss_one (ps_fld (pv 0) (pe_op op_add (pe_fld (pv 0) rfl) pe_int) rfl))))), ?_⟩
    obtain ⟨p, A, xs, ys, n, hA, ⟨fr, z, rfl, hlen, k⟩ | ⟨e, t, rfl, he, k⟩ | ⟨fr, t, rfl, ht, k⟩⟩ := h
    · obtain ⟨dx, f1, b1, rfl, h1, h2, h3, h4⟩ := hA
      have pf : p ≠ f1 := ne_of h1 h2 (by intro q; cases q)
      have pb : p ≠ b1 := ne_of h1 h3 (by intro q; cases q)
      have hz : ∀ l : List Int, l.length < 1000000 → (l.map V.int).length < sizeLine := fun l hl => by
        rw [List.length_map, sizeLine_eq]
        omega
      refine ⟨_, rfl, .inl ⟨fr, rfl, ?_⟩⟩
      refine ⟨_, rfl, .inl ⟨z, rfl, ?_⟩⟩
      refine ⟨_, rfl, rfl, fr, congrArg V.bl (dec_end fr), ?_⟩
      cases fr with
      | true =>
        refine iteT ⟨_, rfl, p, C, dx, _, _, rfl, h1, T.cl, T.nF, hF_front _ _ _, ?_⟩
        refine ⟨_, rfl, .inl ⟨rfl, _, SqL.of h2⟩, _, rfl, f1, _, _, rfl, rfl, h2, hz xs (by omega), ?_⟩
        have h1' : upd H f1 (.lst (xs.map V.int ++ [V.int z])) p = some (.ins C dx (hF f1 b1 n)) := by rw [upd_ne pf]; exact h1
        refine ⟨_, rfl, p, C, dx, _, _, rfl, h1', T.cl, T.nS, hF_steps _ _ _, _, _, rfl, rfl, _, rfl, p, C, dx, _, rfl, h1', T.cl, T.nS, (by show 3 < 1000; decide), ?_⟩
        refine k _ [p, f1, b1] ⟨dx, f1, b1, rfl, Eq.trans upd_same (congrArg (fun q => some (HO.ins C dx q)) (put_steps _ _ _ _)), ?_, ?_, h4⟩ fun q o e hq => ?_
        · rw [upd_ne pf.symm, upd_same]
          simp [putX]
        · rw [upd_ne pb.symm, upd_ne h4.symm]
          exact h3
        · simp at hq
          refine ⟨by rw [upd_ne hq.1, upd_ne hq.2.1]; exact e, by simp [hq]⟩
      | false =>
        refine iteF ⟨_, rfl, p, C, dx, _, _, rfl, h1, T.cl, T.nB, hF_back _ _ _, ?_⟩
        refine ⟨_, rfl, .inl ⟨rfl, _, SqL.of h3⟩, _, rfl, b1, _, _, rfl, rfl, h3, hz ys (by omega), ?_⟩
        have h1' : upd H b1 (.lst (ys.map V.int ++ [V.int z])) p = some (.ins C dx (hF f1 b1 n)) := by rw [upd_ne pb]; exact h1
        refine ⟨_, rfl, p, C, dx, _, _, rfl, h1', T.cl, T.nS, hF_steps _ _ _, _, _, rfl, rfl, _, rfl, p, C, dx, _, rfl, h1', T.cl, T.nS, (by show 3 < 1000; decide), ?_⟩
        refine k _ [p, f1, b1] ⟨dx, f1, b1, rfl, Eq.trans upd_same (congrArg (fun q => some (HO.ins C dx q)) (put_steps _ _ _ _)), ?_, ?_, h4⟩ fun q o e hq => ?_
        · rw [upd_ne pf.symm, upd_ne h4]
          exact h2
        · rw [upd_ne pb.symm, upd_same]
          simp [putX]
        · simp at hq
          refine ⟨by rw [upd_ne hq.1, upd_ne hq.2.2]; exact e, by simp [hq]⟩
    · exact ⟨_, rfl, .inr ⟨e, rfl, he, k⟩⟩
    · exact ⟨_, rfl, .inl ⟨fr, rfl, _, rfl, .inr ⟨t, rfl, ht, k⟩⟩⟩
theorem scHLay : FnScope ["self", "full", "many", "over", "moved", "kept"] ["self", "full"] (defScope sHLay) := ⟨rfl, rfl, rfl, by decide +kernel, rfl, by decide +kernel, by decide +kernel⟩
theorem over_eq (n : Nat) : ((n : Int) + 1) / 2 = (overN n : Int) := by
  unfold overN
  omega
theorem overN_le (n : Nat) : overN n ≤ n ∨ n = 0 := by
  unfold overN
  omega
theorem ok_hlay {f : Addr} {fd : FuncData} (F : Fun K "lay_over" "Halfline.lay_over" sHLay f fd) (T : HTxt K mg C CT CE CM aE) : FnOk P w K mg base CX0 1 f fd ["self", "full"] (spLay C) := by
  refine F.ok scHLay (fun vs H Q E h => ?_) (fun cdv A outer s H vs Q E hr h => ?_)
  · obtain ⟨p, dx, f1, b1, l, n, xs, rfl, _⟩ := h
    rfl
  · obtain ⟨p, dx, f1, b1, l, n, xs, rfl, h1, h2, hlen, k⟩ := h
    refine ⟨_, pss_cons (ps_set (i := 2) scHLay.nd rfl (Or.inl rfl) (pe_callB call_len_seq (by rfl) T.B.len PySem.boot_len (pa_cons (pv 1) pa_nil)))
      (pss_cons (ps_set (i := 3) scHLay.nd rfl (Or.inl rfl) (pe_op op_fdiv (pe_op op_add (pv 2) pe_int) pe_int))
      (pss_cons (ps_set (i := 4) scHLay.nd rfl (Or.inl rfl) (pe_revL (pe_slice sl_list (pv 1) po_none (po_some (pv 3)))))
      (pss_cons (ps_set (i := 5) scHLay.nd rfl (Or.inl rfl) (pe_slice sl_list (pv 1) (po_some (pv 3)) po_none))
      (pss_cons (ps_fld (pv 0) (pe_op op_add (pe_op op_add (pe_fld (pv 0) rfl) (pv 3)) (pe_op op_mul pe_int (pe_op op_sub (pv 2) (pv 3)))) rfl)
      (pss_one (ps_ret (pe_tup (pa_cons (pv 4) (pa_cons (pv 5) pa_nil))))))))), ?_⟩
    have eo : ((((xs.map V.int).length : Nat) : Int) + 1) / 2 = (overN xs.length : Int) := by
      rw [List.length_map]
      exact over_eq _
    refine ⟨_, rfl, l, _, rfl, .inl (SqL.of h2), ?_⟩
    refine ⟨_, rfl, _, _, rfl, rfl, _, _, rfl, rfl, ⟨by decide, by decide⟩, ?_⟩
    refine ⟨_, rfl, _, rfl, _, rfl, l, _, rfl, SqL.of h2, fun u nu => ?_⟩
    refine ⟨u, _, rfl, SqL.of upd_same, fun m nm => ?_⟩
    have lu : l ≠ u := ne_of_none h2 nu
    have lm : l ≠ m := ne_of_none (by rw [upd_ne lu]; exact h2) nm
    have pu : p ≠ u := ne_of_none h1 nu
    have pm : p ≠ m := ne_of_none (by rw [upd_ne pu]; exact h1) nm
    refine ⟨_, rfl, _, rfl, _, rfl, l, _, rfl, SqL.of (by rw [upd_ne lm, upd_ne lu]; exact h2), fun k1 nk => ?_⟩
    have nm0 : H m = Option.none := Same.free (Same.new nu) nm
    have nk0 : H k1 = Option.none := Same.free ((Same.new nu).trans (Same.new nm)) nk
    have pk : p ≠ k1 := ne_of_none (by rw [upd_ne pm, upd_ne pu]; exact h1) nk
    have mk : m ≠ k1 := ne_of_none upd_same nk
    have hp3 : ∀ x y z, (upd (upd (upd H u x) m y) k1 z) p = some (.ins C dx (hF f1 b1 n)) := fun x y z => by
      rw [upd_ne pk, upd_ne pm, upd_ne pu]
      exact h1
    refine ⟨_, rfl, p, C, dx, _, _, rfl, hp3 _ _ _, T.cl, T.nS, hF_steps _ _ _, _, rfl, _, _, rfl, rfl, _, rfl, _, rfl, _, _, rfl, rfl, _, _, rfl, rfl, .inl ⟨by decide, by decide⟩, _, _, rfl, rfl, _, rfl, p, C, dx, _, rfl, hp3 _ _ _, T.cl, T.nS, (by show 3 < 1000; decide), ?_⟩
    refine ⟨_, rfl, _, rfl, (by show 2 ≤ sizeLine; decide), fun q nq => ?_⟩
    have es : n + ((((xs.map V.int).length : Nat) : Int) + 1) / 2 + 2 * ((((xs.map V.int).length : Nat) : Int) - ((((xs.map V.int).length : Nat) : Int) + 1) / 2) = n + layS xs := by
      rw [eo, List.length_map]
      unfold layS
      omega
    have qp : p ≠ q := ne_of_none upd_same nq
    have qm : m ≠ q := ne_of_none (by rw [upd_ne pm.symm, upd_ne mk]; exact upd_same) nq
    have qk : k1 ≠ q := ne_of_none (by rw [upd_ne pk.symm]; exact upd_same) nq
    refine k _ m k1 q ?_ ?_ ?_ upd_same mk nm0 nk0 fun c o e hc => ?_
    · rw [upd_ne qp, upd_same]
      exact congrArg (fun q => some (HO.ins C dx q)) ((put_steps _ _ _ _).trans (congrArg _ es))
    · rw [upd_ne qm, upd_ne pm.symm, upd_ne mk, upd_same]
      unfold layM
      rw [List.map_reverse, List.map_take, ← cut_to, ← eo]
    · rw [upd_ne qk, upd_ne pk.symm, upd_same]
      unfold layK
      rw [List.map_drop, ← cut_from, ← eo]
    · have cu : c ≠ u := ne_of_none e nu
      have cm : c ≠ m := ne_of_none e nm0
      have ck : c ≠ k1 := ne_of_none e nk0
      have cq : c ≠ q := ne_of_none (o := o) (by rw [upd_ne hc, upd_ne ck, upd_ne cm, upd_ne cu]; exact e) nq
      rw [upd_ne cq, upd_ne hc, upd_ne ck, upd_ne cm, upd_ne cu]
      exact e
end
end Hf
/-! ## Halfline: take, turn, what is told -/
namespace Hf
open PySem PySem.Spec PyProof.Rows L2
section
variable {P : Program} {w : World} {K : PySem.W.Frag} {mg : Str → Option Value} {base : Heap} {C CT CE CM aE : Addr}
section
variable {σ : L2.St} {H : Hp} {p : Addr} {A : List Addr} {xs ys : List Int} {n : Int}
theorem rd_nilF {Q : Bool → Hp → Prop} (T : HTxt K mg C CT CE CM aE) (h0 : σ[0]? = some (some (.ref p))) (h : HalfAt C H p A xs ys n) (k : ∀ H1, Same H H1 → Q (decide (xs = [])) H1) :
    tTest (tOp (rEqI K) (tFld K (tVar 0) "front") (tLst tNil)) σ H Q := by
  obtain ⟨dx, f, b, rfl, h1, h2, h3, h4⟩ := h
  refine ⟨_, h0, p, C, dx, _, _, rfl, h1, T.cl, T.nF, hF_front _ _ _, ?_⟩
  refine ⟨(by show 0 ≤ sizeLine; decide), fun e ne => ?_⟩
  exact ⟨f, e, xs, [], rfl, rfl, SqL.of (Same.new ne _ _ h2), SqL.of upd_same, _, rfl, k _ (Same.new ne)⟩
theorem rd_nilB {Q : Bool → Hp → Prop} (T : HTxt K mg C CT CE CM aE) (h0 : σ[0]? = some (some (.ref p))) (h : HalfAt C H p A xs ys n) (k : ∀ H1, Same H H1 → Q (decide (ys = [])) H1) :
    tTest (tOp (rEqI K) (tFld K (tVar 0) "back") (tLst tNil)) σ H Q := by
  obtain ⟨dx, f, b, rfl, h1, h2, h3, h4⟩ := h
  refine ⟨_, h0, p, C, dx, _, _, rfl, h1, T.cl, T.nB, hF_back _ _ _, ?_⟩
  refine ⟨(by show 0 ≤ sizeLine; decide), fun e ne => ?_⟩
  exact ⟨b, e, ys, [], rfl, rfl, SqL.of (Same.new ne _ _ h3), SqL.of upd_same, _, rfl, k _ (Same.new ne)⟩
/-- self.front, self.back = self.lay_over(self.back) -/
def t_layF (K : PySem.W.Frag) (C : Addr) : TS := tAsg (tMeth C "lay_over" (spLay C) [] E0 (tVar 0) (tCons (tFld K (tVar 0) "back") tNil)) (gTup K 2 (gCons (gFld K (tVar 0) "front") (gCons (gFld K (tVar 0) "back") gNil)))
def t_layB (K : PySem.W.Frag) (C : Addr) : TS := tAsg (tMeth C "lay_over" (spLay C) [] E0 (tVar 0) (tCons (tFld K (tVar 0) "front") tNil)) (gTup K 2 (gCons (gFld K (tVar 0) "back") (gCons (gFld K (tVar 0) "front") gNil)))
theorem rd_layF {D : Ends} (T : HTxt K mg C CT CE CM aE) (h0 : σ[0]? = some (some (.ref p))) (h : HalfAt C H p A xs ys n) (hl : ys.length < 1000000)
    (k : ∀ (H1 : Hp) (A1 : List Addr), HalfAt C H1 p A1 (layM ys) (layK ys) (n + layS ys) → Step H A H1 A1 → D.nx σ H1) : t_layF K C D σ H := by
  obtain ⟨dx, f, b, rfl, h1, h2, h3, h4⟩ := h
  refine ⟨_, h0, p, dx, _, rfl, h1, hF_no _ _ _ (by decide +kernel) (by decide +kernel) (by decide +kernel), _, h0, p, C, dx, _, _, rfl, h1, T.cl, T.nB, hF_back _ _ _, ?_⟩
  refine ⟨p, dx, f, b, b, n, ys, rfl, h1, h3, hl, fun H' m k1 q e1 e2 e3 e4 mk nm nk kp => ?_⟩
  have pm : p ≠ m := ne_of e1 e2 (by intro z; cases z)
  have pk : p ≠ k1 := ne_of e1 e3 (by intro z; cases z)
  have pq : p ≠ q := ne_of e1 e4 (by intro z; cases z)
  refine ⟨q, _, rfl, SqT.of e4, rfl, _, _, rfl, _, h0, p, C, dx, _, rfl, e1, T.cl, T.nF, (by show 3 < 1000; decide), ?_⟩
  refine ⟨_, _, rfl, _, h0, p, C, dx, _, rfl, upd_same, T.cl, T.nB, (by show 3 < 1000; decide), rfl, ?_⟩
  refine k _ [p, m, k1] ⟨dx, m, k1, rfl, Eq.trans upd_same (congrArg (fun q => some (HO.ins C dx q)) ?_), ?_, ?_, mk⟩ fun c o e hc => ?_
  · rw [put_front, put_back]
  · rw [upd_ne pm.symm, upd_ne pm.symm]
    exact e2
  · rw [upd_ne pk.symm, upd_ne pk.symm]
    exact e3
  · simp at hc
    have cm : c ≠ m := ne_of_none e nm
    have ck : c ≠ k1 := ne_of_none e nk
    refine ⟨?_, by simp [hc.1, cm, ck]⟩
    rw [upd_ne hc.1, upd_ne hc.1]
    exact kp c o e hc.1
theorem rd_layB {D : Ends} (T : HTxt K mg C CT CE CM aE) (h0 : σ[0]? = some (some (.ref p))) (h : HalfAt C H p A xs ys n) (hl : xs.length < 1000000)
    (k : ∀ (H1 : Hp) (A1 : List Addr), HalfAt C H1 p A1 (layK xs) (layM xs) (n + layS xs) → Step H A H1 A1 → D.nx σ H1) : t_layB K C D σ H := by
  obtain ⟨dx, f, b, rfl, h1, h2, h3, h4⟩ := h
  refine ⟨_, h0, p, dx, _, rfl, h1, hF_no _ _ _ (by decide +kernel) (by decide +kernel) (by decide +kernel), _, h0, p, C, dx, _, _, rfl, h1, T.cl, T.nF, hF_front _ _ _, ?_⟩
  refine ⟨p, dx, f, b, f, n, xs, rfl, h1, h2, hl, fun H' m k1 q e1 e2 e3 e4 mk nm nk kp => ?_⟩
  have pm : p ≠ m := ne_of e1 e2 (by intro z; cases z)
  have pk : p ≠ k1 := ne_of e1 e3 (by intro z; cases z)
  have pq : p ≠ q := ne_of e1 e4 (by intro z; cases z)
  refine ⟨q, _, rfl, SqT.of e4, rfl, _, _, rfl, _, h0, p, C, dx, _, rfl, e1, T.cl, T.nB, (by show 3 < 1000; decide), ?_⟩
  refine ⟨_, _, rfl, _, h0, p, C, dx, _, rfl, upd_same, T.cl, T.nF, (by show 3 < 1000; decide), rfl, ?_⟩
  refine k _ [p, k1, m] ⟨dx, k1, m, rfl, Eq.trans upd_same (congrArg (fun q => some (HO.ins C dx q)) ?_), ?_, ?_, mk.symm⟩ fun c o e hc => ?_
  · rw [put_back, put_front]
  · rw [upd_ne pk.symm, upd_ne pk.symm]
    exact e3
  · rw [upd_ne pm.symm, upd_ne pm.symm]
    exact e2
  · simp at hc
    have cm : c ≠ m := ne_of_none e nm
    have ck : c ≠ k1 := ne_of_none e nk
    refine ⟨?_, by simp [hc.1, cm, ck]⟩
    rw [upd_ne hc.1, upd_ne hc.1]
    exact kp c o e hc.1
/-- self.steps = self.steps + 1; return self.front.pop() if end == 'front' else self.back.pop() -/
def t_tend (K : PySem.W.Frag) : TS := tSeq (sFld K (tVar 0) (tOp (rI0 fun i j => .int (i + j)) (tFld K (tVar 0) "steps") (tC (.int 1))) "steps")
  (tRet (tIf (tTest (tOp rEq (tVar 1) (tC (.str "front")))) (tBM0 K "list" rPop (tFld K (tVar 0) "front")) (tBM0 K "list" rPop (tFld K (tVar 0) "back"))))
theorem last_map {l : List Int} (h : l ≠ []) : (l.map V.int)[(l.map V.int).length - 1]? = some (V.int (l.getLastD 0)) := by
  have e : l = l.dropLast ++ [l.getLast h] := (List.dropLast_concat_getLast h).symm
  have e2 : l.getLastD 0 = l.getLast h := by
    cases l with
    | nil => exact absurd rfl h
    | cons a r => rfl
  rw [List.getElem?_map, List.length_map, ← List.getLast?_eq_getElem?, List.getLast?_eq_some_getLast h, e2]
  rfl
theorem map_dropLast' (l : List Int) : (l.map V.int).dropLast = l.dropLast.map V.int := by
  rw [List.map_dropLast]
theorem rd_tend {D : Ends} {fr : Bool} (T : HTxt K mg C CT CE CM aE) (h0 : σ[0]? = some (some (.ref p))) (h1' : σ[1]? = some (some (.str (endS fr)))) (h : HalfAt C H p A xs ys n) (hne : (if fr then xs else ys) ≠ [])
    (k : ∀ (H1 : Hp) (A1 : List Addr), HalfAt C H1 p A1 (if fr then xs.dropLast else xs) (if fr then ys else ys.dropLast) (n + 1) → Step H A H1 A1 → D.rt (.int ((if fr then xs else ys).getLastD 0)) H1) : t_tend K D σ H := by
  obtain ⟨dx, f, b, rfl, h1, h2, h3, h4⟩ := h
  have pf : p ≠ f := ne_of h1 h2 (by intro q; cases q)
  have pb : p ≠ b := ne_of h1 h3 (by intro q; cases q)
  refine ⟨_, h0, p, C, dx, _, _, rfl, h1, T.cl, T.nS, hF_steps _ _ _, _, _, rfl, rfl, _, h0, p, C, dx, _, rfl, h1, T.cl, T.nS, (by show 3 < 1000; decide), ?_⟩
  have g1 : upd H p (.ins C dx (putF "steps" (.int (n + 1)) (hF f b n))) p = some (.ins C dx (hF f b (n + 1))) := by
    rw [put_steps]
    exact upd_same
  have g2 : upd H p (.ins C dx (putF "steps" (.int (n + 1)) (hF f b n))) f = some (.lst (xs.map V.int)) := by rw [upd_ne pf.symm]; exact h2
  have g3 : upd H p (.ins C dx (putF "steps" (.int (n + 1)) (hF f b n))) b = some (.lst (ys.map V.int)) := by rw [upd_ne pb.symm]; exact h3
  refine ⟨_, h1', rfl, fr, congrArg V.bl (dec_end fr), ?_⟩
  cases fr with
  | true =>
    refine iteT ⟨_, h0, p, C, dx, _, _, rfl, g1, T.cl, T.nF, hF_front _ _ _, .inl ⟨rfl, _, SqL.of g2⟩, f, _, _, rfl, rfl, g2, last_map hne, ?_⟩
    refine k _ [p, f, b] ⟨dx, f, b, rfl, ?_, ?_, ?_, h4⟩ fun q o e hq => ?_
    · rw [upd_ne pf]
      exact g1
    · rw [upd_same, map_dropLast']
      rfl
    · rw [upd_ne h4.symm]
      exact g3
    · simp at hq
      exact ⟨by rw [upd_ne hq.2.1, upd_ne hq.1]; exact e, by simp [hq]⟩
  | false =>
    refine iteF ⟨_, h0, p, C, dx, _, _, rfl, g1, T.cl, T.nB, hF_back _ _ _, .inl ⟨rfl, _, SqL.of g3⟩, b, _, _, rfl, rfl, g3, last_map hne, ?_⟩
    refine k _ [p, f, b] ⟨dx, f, b, rfl, ?_, ?_, ?_, h4⟩ fun q o e hq => ?_
    · rw [upd_ne pb]
      exact g1
    · rw [upd_ne h4]
      exact g2
    · rw [upd_same, map_dropLast']
      rfl
    · simp at hq
      exact ⟨by rw [upd_ne hq.2.2, upd_ne hq.1]; exact e, by simp [hq]⟩
end
theorem scHTake : FnScope ["self", "end"] ["self", "end"] (defScope sHTake) := ⟨rfl, rfl, rfl, by decide +kernel, rfl, by decide +kernel, by decide +kernel⟩
theorem ok_htake {f fE fL : Addr} {fd fdE fdL : FuncData} (F : Fun K "take" "Halfline.take" sHTake f fd) (T : HTxt K mg C CT CE CM aE)
    (FE : Fun K "asked_end" "asked_end" sEnd fE fdE) (bE : Binds K fdE ["end"] []) (gE : mg "asked_end" = some (.ref fE))
    (FL : Fun K "lay_over" "Halfline.lay_over" sHLay fL fdL) (bL : Binds K fdL ["self", "full"] []) (mL : Meth K C "lay_over" fL) :
    FnOk P w K mg base (L2N.CX P w) 2 f fd ["self", "end"] (spTakeH K C CE CM) := by
  have GE : FnOk P w K mg base (L2N.CX P w) 1 fE fdE ["end"] (spEnd K CE) := ok_end FE T
  have GL : FnOk P w K mg base CX0 1 fL fdL ["self", "full"] (spLay C) := ok_hlay FL T
  refine Fun.okXN F scHTake (fun vs H Q E h => ?_) (fun cdv A outer s H vs Q E hr h => ?_)
  · obtain ⟨p, A, xs, ys, n, hA, hl, ⟨fr, rfl, _⟩ | ⟨fr, rfl, _⟩ | ⟨e, rfl, _⟩⟩ := h <;> rfl
  · refine ⟨_, pss_cons (ps_expr (pe_callS GE hr rfl gE FE.kp bE (fun σ => L2N.passAt (L2N.takes_of rfl rfl rfl rfl) σ) (pa_cons (pv 1) pa_nil)))
      (pss_cons (ps_if (PW.pt (pw_and (pt_cmpR (op_eqI hr.units) (pe_fld (pv 0) rfl) (pe_lst pa_nil) (nomark _)) (pw_and1 (pt_cmpR (op_eqI hr.units) (pe_fld (pv 0) rfl) (pe_lst pa_nil) (nomark _)))))
        (pss_one (L2N.ps_raise rfl (L2N.takes_of rfl rfl rfl rfl) (L2N.pmk_own PySem.F.excBase_ValueError T.M.x T.M.g T.M.k (raises_own T.M.b T.M.t) (by exact rfl)))) pss_nil)
      (pss_cons (ps_if (PW.pt (pw_and (pt_cmpR op_eq (pv 1) pe_str (nomark _)) (pw_and1 (pt_cmpR (op_eqI hr.units) (pe_fld (pv 0) rfl) (pe_lst pa_nil) (nomark _)))))
        (pss_one (ps_asg (pe_meth (pv 0) T.cl mL GL hr bL .nil pass0 (pa_cons (pe_fld (pv 0) rfl) pa_nil)) (pg_tup rfl (pgs_cons (pg_fld (pv 0)) (pgs_cons (pg_fld (pv 0)) pgs_nil))))) pss_nil)
      (pss_cons (ps_if (PW.pt (pw_and (pt_cmpR op_eq (pv 1) pe_str (nomark _)) (pw_and1 (pt_cmpR (op_eqI hr.units) (pe_fld (pv 0) rfl) (pe_lst pa_nil) (nomark _)))))
        (pss_one (ps_asg (pe_meth (pv 0) T.cl mL GL hr bL .nil pass0 (pa_cons (pe_fld (pv 0) rfl) pa_nil)) (pg_tup rfl (pgs_cons (pg_fld (pv 0)) (pgs_cons (pg_fld (pv 0)) pgs_nil))))) pss_nil)
      (pss_cons (ps_fld (pv 0) (pe_op op_add (pe_fld (pv 0) rfl) pe_int) rfl)
      (pss_one (ps_ret (pe_ifExp (pt_cmpR op_eq (pv 1) pe_str (nomark _)) (pe_bm0 PySem.F.plainAttrs_list PySem.F.slot_list_pop PySem.F.type_list_pop mt_pop (pe_fld (pv 0) rfl)) (pe_bm0 PySem.F.plainAttrs_list PySem.F.slot_list_pop PySem.F.type_list_pop mt_pop (pe_fld (pv 0) rfl))))))))), ?_⟩
    obtain ⟨p, A, xs, ys, n, hA, hlen, ⟨fr, rfl, hx, hy, k⟩ | ⟨fr, rfl, hne, k⟩ | ⟨e, rfl, he, k⟩⟩ := h
    · refine ⟨_, rfl, .inl ⟨fr, rfl, ?_⟩⟩
      refine rd_nilF (p := p) T rfl hA fun H1 s1 => ?_
      rw [decide_eq_true hx]
      refine iteT (rd_nilB (p := p) T rfl (hA.same s1) fun H2 s2 => ?_)
      rw [decide_eq_true hy]
      exact iteT (k _ (s1.trans s2))
    · refine ⟨_, rfl, .inl ⟨fr, rfl, ?_⟩⟩
      -- behind the first if
      suffices h3 : ∀ H1, Same H H1 → tSeq (tIfS (tAnd (tTest (tOp rEq (tVar 1) (tC (.str "front")))) (tTest (tOp (rEqI K) (tFld K (tVar 0) "front") (tLst tNil)))) (t_layF K C) tNext)
          (tSeq (tIfS (tAnd (tTest (tOp rEq (tVar 1) (tC (.str "back")))) (tTest (tOp (rEqI K) (tFld K (tVar 0) "back") (tLst tNil)))) (t_layB K C) tNext) (t_tend K)) { nx := fun _ H' => Q .non H', rt := Q } (start ["self", "end"] [.ref p, .str (endS fr)]) H1 by
        refine rd_nilF (p := p) T rfl hA fun H1 s1 => ?_
        by_cases hx : xs = []
        · rw [decide_eq_true hx]
          have hy : ys ≠ [] := hne.resolve_left fun z => z hx
          refine iteT (rd_nilB (p := p) T rfl (hA.same s1) fun H2 s2 => ?_)
          rw [decide_eq_false hy]
          exact iteF (h3 _ (s1.trans s2))
        · rw [decide_eq_false hx]
          exact iteF (iteF (h3 _ s1))
      intro H1 s1
      have hA1 := hA.same s1
      refine ⟨_, rfl, rfl, fr, congrArg V.bl (dec_end fr), ?_⟩
      cases fr with
      | true =>
        refine iteT (rd_nilF (p := p) T rfl hA1 fun H2 s2 => ?_)
        have hA2 := hA1.same s2
        have s12 : Step H A H2 A := Step.ofSame (s1.trans s2)
        -- behind both ifs
        suffices h4 : ∀ (H3 : Hp) (A3 : List Addr), HalfAt C H3 p A3 (laid xs ys).1 (laid xs ys).2.1 (n + (laid xs ys).2.2) → Step H A H3 A3 → tSeq (tIfS (tAnd (tTest (tOp rEq (tVar 1) (tC (.str "back")))) (tTest (tOp (rEqI K) (tFld K (tVar 0) "back") (tLst tNil)))) (t_layB K C) tNext) (t_tend K) { nx := fun _ H' => Q .non H', rt := Q } (start ["self", "end"] [.ref p, .str (endS true)]) H3 by
          by_cases hx : xs = []
          · rw [decide_eq_true hx]
            refine iteT (rd_layF (p := p) T rfl hA2 (by omega) fun H3 A3 h5 s5 => ?_)
            refine h4 H3 A3 ?_ (s12.trans s5)
            unfold laid
            rw [if_pos hx]
            exact h5
          · rw [decide_eq_false hx]
            refine iteF (h4 H2 A ?_ s12)
            unfold laid
            rw [if_neg hx]
            show HalfAt C H2 p A xs ys (n + 0)
            rw [Int.add_zero]
            exact hA2
        intro H3 A3 h5 s5
        refine ⟨_, rfl, rfl, false, congrArg V.bl (dec_endB true), iteF (iteF ?_)⟩
        refine rd_tend (fr := true) (p := p) T rfl rfl h5 (laid_ne hne) fun H4 A4 h6 s6 => ?_
        refine k H4 A4 ?_ (s5.trans s6)
        have e : n + takeN true xs ys = n + (laid xs ys).2.2 + 1 := by
          show n + ((laid xs ys).2.2 + 1) = n + (laid xs ys).2.2 + 1
          omega
        rw [e]
        exact h6
      | false =>
        refine iteF (iteF ⟨_, rfl, rfl, true, congrArg V.bl (dec_endB false), iteT (rd_nilB (p := p) T rfl hA1 fun H2 s2 => ?_)⟩)
        have hA2 := hA1.same s2
        have s12 : Step H A H2 A := Step.ofSame (s1.trans s2)
        suffices h4 : ∀ (H3 : Hp) (A3 : List Addr), HalfAt C H3 p A3 (laid ys xs).2.1 (laid ys xs).1 (n + (laid ys xs).2.2) → Step H A H3 A3 → t_tend K { nx := fun _ H' => Q .non H', rt := Q } (start ["self", "end"] [.ref p, .str (endS false)]) H3 by
          by_cases hx : ys = []
          · rw [decide_eq_true hx]
            refine iteT (rd_layB (p := p) T rfl hA2 (by omega) fun H3 A3 h5 s5 => ?_)
            refine h4 H3 A3 ?_ (s12.trans s5)
            unfold laid
            rw [if_pos hx]
            exact h5
          · rw [decide_eq_false hx]
            refine iteF (h4 H2 A ?_ s12)
            unfold laid
            rw [if_neg hx]
            show HalfAt C H2 p A xs ys (n + 0)
            rw [Int.add_zero]
            exact hA2
        intro H3 A3 h5 s5
        refine rd_tend (fr := false) (p := p) T rfl rfl h5 (laid_ne hne.symm) fun H4 A4 h6 s6 => ?_
        refine k H4 A4 ?_ (s5.trans s6)
        have e : n + takeN false xs ys = n + (laid ys xs).2.2 + 1 := by
          show n + ((laid ys xs).2.2 + 1) = n + (laid ys xs).2.2 + 1
          omega
        rw [e]
        exact h6
    · exact ⟨_, rfl, .inr ⟨e, rfl, he, k⟩⟩
theorem scHThings : FnScope ["self"] ["self"] (defScope sHThings) := ⟨rfl, rfl, rfl, by decide +kernel, rfl, by decide +kernel, by decide +kernel⟩
theorem ok_hthings {f : Addr} {fd : FuncData} (F : Fun K "things" "Halfline.things" sHThings f fd) (T : HTxt K mg C CT CE CM aE) : FnOk P w K mg base CX0 1 f fd ["self"] (spThingsH C) := by
  refine F.ok scHThings (fun vs H Q E h => ?_) (fun cdv A outer s H vs Q E hr h => ?_)
  · obtain ⟨p, A, xs, ys, n, rfl, _⟩ := h
    rfl
  · obtain ⟨p, A, xs, ys, n, rfl, ⟨dx, f1, b1, rfl, h1, h2, h3, h4⟩, hlen, k⟩ := h
    refine ⟨_, pss_one (ps_ret (pe_op op_cat (pe_revL (pe_fld (pv 0) rfl)) (pe_fld (pv 0) rfl))), ?_⟩
    refine ⟨_, rfl, p, C, dx, _, _, rfl, h1, T.cl, T.nF, hF_front _ _ _, f1, _, rfl, SqL.of h2, fun l nl => ?_⟩
    have s1 := Same.new (o := .lst (xs.map V.int).reverse) nl
    refine ⟨_, rfl, p, C, dx, _, _, rfl, s1 _ _ h1, T.cl, T.nB, hF_back _ _ _, l, b1, _, _, rfl, rfl, upd_same, s1 _ _ h3, ?_, fun q nq => ?_⟩
    · rw [List.length_reverse, List.length_map, List.length_map, sizeLine_eq]
      omega
    · refine k _ q (s1.trans (Same.new nq)) (s1.free nq) ?_
      rw [upd_same, List.map_append, List.map_reverse]
theorem scHTurn : FnScope ["self"] ["self"] (defScope sHTurn) := ⟨rfl, rfl, rfl, by decide +kernel, rfl, by decide +kernel, by decide +kernel⟩
end
end Hf
/-! ## Halfline: turn, steps, halves, purse -/
namespace Hf
open PySem PySem.Spec PyProof.Rows L2
section
variable {P : Program} {w : World} {K : PySem.W.Frag} {mg : Str → Option Value} {base : Heap} {C CT CE CM aE : Addr}
theorem scHSteps : FnScope ["self"] ["self"] (defScope sHSteps) := ⟨rfl, rfl, rfl, by decide +kernel, rfl, by decide +kernel, by decide +kernel⟩
theorem ok_hsteps {f : Addr} {fd : FuncData} (F : Fun K "steps_so_far" "Halfline.steps_so_far" sHSteps f fd) (T : HTxt K mg C CT CE CM aE) : FnOk P w K mg base CX0 1 f fd ["self"] (spStepsH C) := by
  refine F.ok scHSteps (fun vs H Q E h => ?_) (fun cdv A outer s H vs Q E hr h => ?_)
  · obtain ⟨p, A, xs, ys, n, rfl, _⟩ := h
    rfl
  · obtain ⟨p, A, xs, ys, n, rfl, ⟨dx, f1, b1, rfl, h1, h2, h3, h4⟩, k⟩ := h
    refine ⟨_, pss_one (ps_ret (pe_fld (pv 0) rfl)), ?_⟩
    exact ⟨_, rfl, p, C, dx, _, _, rfl, h1, T.cl, T.nS, hF_steps _ _ _, k⟩
theorem scHHalves : FnScope ["self"] ["self"] (defScope sHHalves) := ⟨rfl, rfl, rfl, by decide +kernel, rfl, by decide +kernel, by decide +kernel⟩
theorem ok_hhalves {f : Addr} {fd : FuncData} (F : Fun K "halves" "Halfline.halves" sHHalves f fd) (T : HTxt K mg C CT CE CM aE) : FnOk P w K mg base CX0 1 f fd ["self"] (spHalvesH C) := by
  refine F.ok scHHalves (fun vs H Q E h => ?_) (fun cdv A outer s H vs Q E hr h => ?_)
  · obtain ⟨p, A, xs, ys, n, rfl, _⟩ := h
    rfl
  · obtain ⟨p, A, xs, ys, n, rfl, ⟨dx, f1, b1, rfl, h1, h2, h3, h4⟩, k⟩ := h
    refine ⟨_, pss_one (ps_ret (pe_tup (pa_cons (pe_callB call_len_seq (by rfl) T.B.len PySem.boot_len (pa_cons (pe_fld (pv 0) rfl) pa_nil)) (pa_cons (pe_callB call_len_seq (by rfl) T.B.len PySem.boot_len (pa_cons (pe_fld (pv 0) rfl) pa_nil)) pa_nil)))), ?_⟩
    refine ⟨_, rfl, p, C, dx, _, _, rfl, h1, T.cl, T.nF, hF_front _ _ _, f1, _, rfl, .inl (SqL.of h2), ?_⟩
    refine ⟨_, rfl, p, C, dx, _, _, rfl, h1, T.cl, T.nB, hF_back _ _ _, b1, _, rfl, .inl (SqL.of h3), (by show 2 ≤ sizeLine; decide), fun t nt => ?_⟩
    refine k _ t (Same.new nt) nt ?_
    rw [upd_same, List.length_map, List.length_map]
end
end Hf
/-! ## Halfline: purse -/
namespace Hf
open PySem PySem.Spec PyProof.Rows L2
section
variable {P : Program} {w : World} {K : PySem.W.Frag} {mg : Str → Option Value} {base : Heap} {C CT CE CM aE : Addr}
theorem scHPurse : FnScope ["self"] ["self"] (defScope sHPurse) := ⟨rfl, rfl, rfl, by decide +kernel, rfl, by decide +kernel, by decide +kernel⟩
theorem ok_hpurse {f : Addr} {fd : FuncData} (F : Fun K "purse" "Halfline.purse" sHPurse f fd) (T : HTxt K mg C CT CE CM aE) : FnOk P w K mg base CX0 1 f fd ["self"] (spPurseH C) := by
  refine F.ok scHPurse (fun vs H Q E h => ?_) (fun cdv A outer s H vs Q E hr h => ?_)
  · obtain ⟨p, A, xs, ys, n, rfl, _⟩ := h
    rfl
  · obtain ⟨p, A, xs, ys, n, rfl, ⟨dx, f1, b1, rfl, h1, h2, h3, h4⟩, k⟩ := h
    refine ⟨_, pss_one (ps_ret (pe_op op_mul pe_int (pe_callB call_abs (by rfl) T.B.abs (by decide +kernel) (pa_cons (pe_op op_sub (pe_callB call_len_seq (by rfl) T.B.len PySem.boot_len (pa_cons (pe_fld (pv 0) rfl) pa_nil)) (pe_callB call_len_seq (by rfl) T.B.len PySem.boot_len (pa_cons (pe_fld (pv 0) rfl) pa_nil))) pa_nil)))), ?_⟩
    refine ⟨_, rfl, p, C, dx, _, _, rfl, h1, T.cl, T.nF, hF_front _ _ _, f1, _, rfl, .inl (SqL.of h2), ?_⟩
    refine ⟨_, rfl, p, C, dx, _, _, rfl, h1, T.cl, T.nB, hF_back _ _ _, b1, _, rfl, .inl (SqL.of h3), _, _, rfl, rfl, _, rfl, _, _, rfl, rfl, .inl ⟨by decide, by decide⟩, ?_⟩
    rw [← List.length_map (as := xs) V.int, ← List.length_map (as := ys) V.int] at k
    exact k
end
end Hf
/-! ## Halfline: turn -/
namespace Hf
open PySem PySem.Spec PyProof.Rows L2
section
variable {P : Program} {w : World} {K : PySem.W.Frag} {mg : Str → Option Value} {base : Heap} {C CT CE CM aE : Addr}
theorem ok_hturn {f : Addr} {fd : FuncData} (F : Fun K "turn" "Halfline.turn" sHTurn f fd) (T : HTxt K mg C CT CE CM aE) : FnOk P w K mg base CX0 1 f fd ["self"] (spTurnH C) := by
  refine F.ok scHTurn (fun vs H Q E h => ?_) (fun cdv A outer s H vs Q E hr h => ?_)
  · obtain ⟨p, A, xs, ys, n, rfl, _⟩ := h
    rfl
  · obtain ⟨p, A, xs, ys, n, rfl, ⟨dx, f1, b1, rfl, h1, h2, h3, h4⟩, k⟩ := h
    have pf : p ≠ f1 := ne_of h1 h2 (by intro q; cases q)
    have pb : p ≠ b1 := ne_of h1 h3 (by intro q; cases q)
    refine ⟨_, pss_one (ps_asg (pe_tup (pa_cons (pe_fld (pv 0) rfl) (pa_cons (pe_fld (pv 0) rfl) pa_nil))) (pg_tup rfl (pgs_cons (pg_fld (pv 0)) (pgs_cons (pg_fld (pv 0)) pgs_nil)))), ?_⟩
    refine ⟨_, rfl, p, C, dx, _, _, rfl, h1, T.cl, T.nB, hF_back _ _ _, _, rfl, p, C, dx, _, _, rfl, h1, T.cl, T.nF, hF_front _ _ _, (by show 2 ≤ sizeLine; decide), fun t nt => ?_⟩
    have s1 := Same.new (o := .tup [.ref b1, .ref f1]) nt
    refine ⟨t, _, rfl, SqT.of upd_same, rfl, _, _, rfl, _, rfl, p, C, dx, _, rfl, s1 _ _ h1, T.cl, T.nF, (by show 3 < 1000; decide), ?_⟩
    refine ⟨_, _, rfl, _, rfl, p, C, dx, _, rfl, upd_same, T.cl, T.nB, (by show 3 < 1000; decide), rfl, ?_⟩
    refine k _ [p, b1, f1] ⟨dx, b1, f1, rfl, Eq.trans upd_same (congrArg (fun q => some (HO.ins C dx q)) ?_), ?_, ?_, h4.symm⟩ fun c o e hc => ?_
    · rw [put_front, put_back]
    · rw [upd_ne pb.symm, upd_ne pb.symm]
      exact s1 _ _ h3
    · rw [upd_ne pf.symm, upd_ne pf.symm]
      exact s1 _ _ h2
    · simp at hc
      exact ⟨by rw [upd_ne hc.1, upd_ne hc.1]; exact s1 _ _ e, by simp [hc]⟩
end
end Hf
/-! ## Evenline: the mirror -/
namespace Hf
structure EV where
  front : List Int
  top : Int
  back : List Int
  waiting : List Int
  left : Int
  turned : List Int
  spare : List Int
  reading : Int
  good : Int
  st : Nat
  last : Int
def doneE (e : EV) : EV := { e with front := e.turned, top := (e.turned.length : Int) - 1, waiting := [], turned := [], spare := [], st := 0 }
def moveE (e : EV) : EV :=
  if e.st = 1 then
    if 0 ≤ e.reading then { e with spare := e.spare ++ [e.front.getD e.reading.toNat 0], reading := e.reading - 1, good := e.good + 1, left := e.left - 1, turned := e.turned ++ [e.waiting.getD (e.left - 1).toNat 0], last := e.last + 2 }
    else { e with left := e.left - 1, turned := e.turned ++ [e.waiting.getD (e.left - 1).toNat 0], last := e.last + 1, st := 2 }
  else if e.st = 2 then
    if 0 < e.good then { e with spare := e.spare.dropLast, turned := e.turned ++ [e.spare.getLastD 0], good := e.good - 1, last := e.last + 1 }
    else doneE e
  else e
def startE (e : EV) : EV :=
  if e.st = 0 ∧ e.top + 1 < (e.back.length : Int) then { e with waiting := e.back, back := [], left := (e.back.length : Int), good := 0, turned := [], spare := [], reading := e.top, st := 1 } else e
def checkE (e : EV) : EV :=
  let u := moveE (moveE (startE e))
  if u.st = 2 ∧ u.good = 0 then doneE u else u
def putE (e : EV) (z : Int) : EV := checkE { e with last := 0, back := e.back ++ [z] }
def takeE (e : EV) : EV := checkE { e with last := 0, top := e.top - 1, good := if e.st = 0 then e.good else e.good - 1 }
def newE : EV := ⟨[], -1, [], [], 0, [], [], -1, 0, 0, 0⟩
/-- all things, from the first on -/
def thingsE (e : EV) : List Int := (e.front.take (e.top + 1).toNat).reverse ++ (if e.st = 0 then [] else e.waiting) ++ e.back
/-- what a bit of turning about needs -/
structure MoveOk (e : EV) : Prop where
  st : e.st ≤ 2
  rd : e.st = 1 → 0 ≤ e.reading → e.reading.toNat < e.front.length
  lf : e.st = 1 → 1 ≤ e.left ∧ (e.left - 1).toNat < e.waiting.length
  sp : e.st = 2 → 0 < e.good → e.spare ≠ []
  szT : e.turned.length < 1000000
  szS : e.spare.length < 1000000
/-- nothing is being turned about: a things in front -/
structure Idl (e : EV) (a : Nat) : Prop where
  st : e.st = 0
  top : e.top = (a : Int) - 1
  len : a ≤ e.front.length
/-- rows are read: r of n are still to be read; a things in front -/
structure Rev (e : EV) (n r a : Nat) : Prop where
  st : e.st = 1
  top : e.top = (a : Int) - 1
  reading : e.reading = (r : Int) - 1
  left : e.left = (r : Int) + 1
  good : e.good = (a : Int) - (r : Int)
  ra : r ≤ a
  an : a ≤ n
  len : n ≤ e.front.length
  wl : e.waiting.length = n + 1
  spare : e.spare = ((e.front.take n).drop r).reverse
  turned : e.turned = (e.waiting.drop (r + 1)).reverse
/-- rows are laid together: j are laid; a things in front -/
structure App (e : EV) (n j a : Nat) : Prop where
  st : e.st = 2
  top : e.top = (a : Int) - 1
  good : e.good = (a : Int) - (j : Int)
  ja : j ≤ a
  an : a ≤ n
  len : n ≤ e.front.length
  wl : e.waiting.length = n + 1
  spare : e.spare = ((e.front.take n).drop j).reverse
  turned : e.turned = e.waiting.reverse ++ e.front.take j
theorem Rev.ok {e : EV} {n r a : Nat} (h : Rev e n r a) (hn : n < 100000) : MoveOk e := by
  refine ⟨by rw [h.st]; decide, fun _ h0 => ?_, fun _ => ⟨?_, ?_⟩, fun h2 => ?_, ?_, ?_⟩
  · have := h.reading; have := h.ra; have := h.an; have := h.len
    omega
  · have := h.left
    omega
  · have := h.left; have := h.wl; have := h.ra; have := h.an
    omega
  · rw [h.st] at h2
    cases h2
  · rw [h.turned, List.length_reverse, List.length_drop, h.wl]
    omega
  · rw [h.spare, List.length_reverse, List.length_drop, List.length_take]
    have := h.len
    omega
theorem App.ok {e : EV} {n j a : Nat} (h : App e n j a) (hn : n < 100000) : MoveOk e := by
  refine ⟨by rw [h.st]; decide, fun h1 => ?_, fun h1 => ?_, fun _ h0 => ?_, ?_, ?_⟩
  · rw [h.st] at h1
    cases h1
  · rw [h.st] at h1
    cases h1
  · intro hs
    have := congrArg List.length hs
    rw [h.spare, List.length_reverse, List.length_drop, List.length_take, List.length_nil] at this
    have := h.good; have := h.an; have := h.len
    omega
  · rw [h.turned, List.length_append, List.length_reverse, List.length_take, h.wl]
    have := h.ja; have := h.an
    omega
  · rw [h.spare, List.length_reverse, List.length_drop, List.length_take]
    have := h.len
    omega
theorem Idl.ok {e : EV} {a : Nat} (h : Idl e a) (hT : e.turned.length < 1000000) (hS : e.spare.length < 1000000) : MoveOk e :=
  ⟨by rw [h.st]; decide, fun h1 => (by rw [h.st] at h1; cases h1), fun h1 => (by rw [h.st] at h1; cases h1), fun h1 => (by rw [h.st] at h1; cases h1), hT, hS⟩
theorem drop_snoc {l : List Int} {r : Nat} (h : r < l.length) : (l.drop (r + 1)).reverse ++ [l.getD r 0] = (l.drop r).reverse := by
  have e : l.drop r = l.getD r 0 :: l.drop (r + 1) := by
    rw [List.drop_eq_getElem_cons h]
    simp [List.getD_eq_getElem?_getD, h]
  rw [e, List.reverse_cons]
theorem take_getD {l : List Int} {n r : Nat} (h : r < n) : (l.take n).getD r 0 = l.getD r 0 := by
  simp [List.getD_eq_getElem?_getD, List.getElem?_take, h]
/-- one is read of each row -/
theorem Rev.next {e : EV} {n r a : Nat} (h : Rev e n (r + 1) a) : Rev (moveE e) n r a ∧ thingsE (moveE e) = thingsE e ∧ (moveE e).back = e.back ∧ (moveE e).last = e.last + 2 := by
  have h0 : (0 : Int) ≤ e.reading := by
    have := h.reading
    omega
  have er : e.reading.toNat = r := by
    have := h.reading
    omega
  have el : (e.left - 1).toNat = r + 1 := by
    have := h.left
    omega
  have em : moveE e = { e with spare := e.spare ++ [e.front.getD r 0], reading := e.reading - 1, good := e.good + 1, left := e.left - 1, turned := e.turned ++ [e.waiting.getD (r + 1) 0], last := e.last + 2 } := by
    unfold moveE
    rw [if_pos h.st, if_pos h0, er, el]
  rw [em]
  have := h.ra; have := h.an; have hl := h.len
  refine ⟨⟨h.st, h.top, ?_, ?_, ?_, by omega, h.an, h.len, h.wl, ?_, ?_⟩, rfl, rfl, rfl⟩
  · have := h.reading
    show e.reading - 1 = (r : Int) - 1
    omega
  · have := h.left
    show e.left - 1 = (r : Int) + 1
    omega
  · have := h.good
    show e.good + 1 = (a : Int) - (r : Int)
    omega
  · show e.spare ++ [e.front.getD r 0] = ((e.front.take n).drop r).reverse
    rw [h.spare, ← drop_snoc (r := r) (by rw [List.length_take]; omega), take_getD (by omega)]
  · show e.turned ++ [e.waiting.getD (r + 1) 0] = (e.waiting.drop (r + 1)).reverse
    rw [h.turned, ← drop_snoc (r := r + 1) (by rw [h.wl]; omega)]
/-- the last one is read -/
theorem Rev.last' {e : EV} {n a : Nat} (h : Rev e n 0 a) : App (moveE e) n 0 a ∧ thingsE (moveE e) = thingsE e ∧ (moveE e).back = e.back ∧ (moveE e).last = e.last + 1 := by
  have h0 : ¬ (0 : Int) ≤ e.reading := by
    have := h.reading
    omega
  have el : (e.left - 1).toNat = 0 := by
    have := h.left
    omega
  have em : moveE e = { e with left := e.left - 1, turned := e.turned ++ [e.waiting.getD 0 0], last := e.last + 1, st := 2 } := by
    unfold moveE
    rw [if_pos h.st, if_neg h0, el]
  rw [em]
  refine ⟨⟨rfl, h.top, ?_, by omega, h.an, h.len, h.wl, ?_, ?_⟩, ?_, rfl, rfl⟩
  · have := h.good
    show e.good = (a : Int) - ((0 : Nat) : Int)
    omega
  · exact h.spare
  · show e.turned ++ [e.waiting.getD 0 0] = e.waiting.reverse ++ e.front.take 0
    rw [h.turned, drop_snoc (r := 0) (by rw [h.wl]; omega)]
    simp
  · unfold thingsE
    rw [if_neg (by show ¬ (2 : Nat) = 0; decide), if_neg (by rw [h.st]; decide)]
/-- one is laid -/
theorem App.next {e : EV} {n j a : Nat} (h : App e n j a) (hj : j < a) : App (moveE e) n (j + 1) a ∧ thingsE (moveE e) = thingsE e ∧ (moveE e).back = e.back ∧ (moveE e).last = e.last + 1 := by
  have h0 : (0 : Int) < e.good := by
    have := h.good
    omega
  have hs : e.st ≠ 1 := by
    rw [h.st]
    decide
  have em : moveE e = { e with spare := e.spare.dropLast, turned := e.turned ++ [e.spare.getLastD 0], good := e.good - 1, last := e.last + 1 } := by
    unfold moveE
    rw [if_neg hs, if_pos h.st, if_pos h0]
  rw [em]
  have := h.an; have := h.len
  have hlt : j < (e.front.take n).length := by
    rw [List.length_take]
    omega
  have e2 : e.spare = ((e.front.take n).drop (j + 1)).reverse ++ [(e.front.take n).getD j 0] := by rw [h.spare, drop_snoc hlt]
  refine ⟨⟨h.st, h.top, ?_, by omega, h.an, h.len, h.wl, ?_, ?_⟩, rfl, rfl, rfl⟩
  · have := h.good
    show e.good - 1 = (a : Int) - ((j + 1 : Nat) : Int)
    omega
  · show e.spare.dropLast = _
    rw [e2, List.dropLast_concat]
  · show e.turned ++ [e.spare.getLastD 0] = _
    have e3 : e.spare.getLastD 0 = e.front.getD j 0 := by
      rw [e2, take_getD (by omega)]
      simp
    rw [e3, h.turned, List.append_assoc]
    congr 1
    rw [List.take_add_one]
    have hlt2 : j < e.front.length := by omega
    simp [List.getD_eq_getElem?_getD, hlt2]
/-- all are laid: what was turned about is the row to take from -/
theorem App.done {e : EV} {n a : Nat} (h : App e n a a) : Idl (doneE e) (n + 1 + a) ∧ thingsE (doneE e) = thingsE e ∧ (doneE e).back = e.back ∧ (doneE e).last = e.last ∧ (doneE e).turned = [] ∧ (doneE e).spare = [] := by
  have := h.an; have := h.len
  have hl : e.turned.length = n + 1 + a := by
    rw [h.turned, List.length_append, List.length_reverse, List.length_take, h.wl]
    omega
  refine ⟨⟨rfl, ?_, ?_⟩, ?_, rfl, rfl, rfl, rfl⟩
  · show (e.turned.length : Int) - 1 = _
    rw [hl]
  · show _ ≤ e.turned.length
    omega
  · unfold thingsE
    rw [if_neg (show ¬ e.st = 0 by rw [h.st]; decide)]
    show (e.turned.take ((e.turned.length : Int) - 1 + 1).toNat).reverse ++ (if (0 : Nat) = 0 then [] else []) ++ e.back = _
    have e1 : ((e.turned.length : Int) - 1 + 1).toNat = e.turned.length := by omega
    have e2 : (e.top + 1).toNat = a := by
      have := h.top
      omega
    rw [if_pos rfl, e1, e2, List.take_length, h.turned]
    simp
theorem App.move_done {e : EV} {n a : Nat} (h : App e n a a) : moveE e = doneE e := by
  have h0 : ¬ (0 : Int) < e.good := by
    have := h.good
    omega
  have hs : e.st ≠ 1 := by
    rw [h.st]
    decide
  unfold moveE
  rw [if_neg hs, if_pos h.st, if_neg h0]
theorem Idl.move {e : EV} {a : Nat} (h : Idl e a) : moveE e = e := by
  unfold moveE
  rw [if_neg (by rw [h.st]; decide), if_neg (by rw [h.st]; decide)]
/-- how an evenline stands behind each deed -/
inductive Good (e : EV) : Prop
  | idl (a : Nat) (h : Idl e a) (hb : e.back.length ≤ a) (hT : e.turned = []) (hS : e.spare = [])
  | rev (n r a : Nat) (h : Rev e n r a) (hr : r + 2 ≤ a) (hb : 2 * e.back.length + n + r + 2 ≤ 2 * a)
  | app (n j a : Nat) (h : App e n j a) (hj : j < a) (hb : 2 * e.back.length + n + 1 ≤ 2 * a + j)
theorem good_new : Good newE ∧ thingsE newE = [] ∧ newE.last = 0 := ⟨.idl 0 ⟨rfl, rfl, Nat.le_refl _⟩ (Nat.le_refl _) rfl rfl, rfl, rfl⟩
/-- what a deed's turning about makes of it -/
structure Chk (e : EV) : Prop where
  ok1 : MoveOk (startE e)
  ok2 : MoveOk (moveE (startE e))
  good : Good (checkE e)
  same : thingsE (checkE e) = thingsE e
  lo : e.last ≤ (checkE e).last
  hi : (checkE e).last ≤ e.last + 4
theorem start_no {e : EV} (h : e.st ≠ 0) : startE e = e := by
  unfold startE
  rw [if_neg fun z => h z.1]
theorem check_stop {e : EV} (h : ¬ ((moveE (moveE (startE e))).st = 2 ∧ (moveE (moveE (startE e))).good = 0)) : checkE e = moveE (moveE (startE e)) := if_neg h
theorem check_done {e : EV} (h : (moveE (moveE (startE e))).st = 2 ∧ (moveE (moveE (startE e))).good = 0) : checkE e = doneE (moveE (moveE (startE e))) := if_pos h
/-- what follows when both bits are done and the row stands at App -/
theorem chk_app {e : EV} {n j a : Nat} (o1 : MoveOk (startE e)) (o2 : MoveOk (moveE (startE e))) (h : App (moveE (moveE (startE e))) n j a) (ht : thingsE (moveE (moveE (startE e))) = thingsE e) (hl : e.last ≤ (moveE (moveE (startE e))).last) (hh : (moveE (moveE (startE e))).last ≤ e.last + 4)
    (hb : 2 * (moveE (moveE (startE e))).back.length + n + 1 ≤ 2 * a + j) : Chk e := by
  by_cases hj : j = a
  · subst hj
    have hg := h.good
    have d := check_done (e := e) ⟨h.st, by omega⟩
    obtain ⟨d1, d2, d3, d4, d5, d6⟩ := h.done
    refine ⟨o1, o2, ?_, ?_, ?_, ?_⟩
    · rw [d]
      refine .idl _ d1 ?_ d5 d6
      rw [d3]
      have := h.an
      omega
    · rw [d, d2, ht]
    · rw [d, d4]
      exact hl
    · rw [d, d4]
      exact hh
  · have hg := h.good
    have hja := h.ja
    have d := check_stop (e := e) (fun z => by omega)
    refine ⟨o1, o2, ?_, ?_, ?_, ?_⟩
    · rw [d]
      exact .app n j a h (by omega) hb
    · rw [d, ht]
    · rw [d]
      exact hl
    · rw [d]
      exact hh
theorem chk_rev {e : EV} {n r a : Nat} (o1 : MoveOk (startE e)) (o2 : MoveOk (moveE (startE e))) (h : Rev (moveE (moveE (startE e))) n r a) (ht : thingsE (moveE (moveE (startE e))) = thingsE e) (hl : e.last ≤ (moveE (moveE (startE e))).last) (hh : (moveE (moveE (startE e))).last ≤ e.last + 4)
    (hr : r + 2 ≤ a) (hb : 2 * (moveE (moveE (startE e))).back.length + n + r + 2 ≤ 2 * a) : Chk e := by
  have hs := h.st
  have d := check_stop (e := e) (fun z => by omega)
  exact ⟨o1, o2, by rw [d]; exact .rev n r a h hr hb, by rw [d, ht], by rw [d]; exact hl, by rw [d]; exact hh⟩
theorem chk_idl {e : EV} {a : Nat} (o1 : MoveOk (startE e)) (o2 : MoveOk (moveE (startE e))) (h : Idl (moveE (moveE (startE e))) a) (ht : thingsE (moveE (moveE (startE e))) = thingsE e) (hl : e.last ≤ (moveE (moveE (startE e))).last) (hh : (moveE (moveE (startE e))).last ≤ e.last + 4)
    (hb : (moveE (moveE (startE e))).back.length ≤ a) (hT : (moveE (moveE (startE e))).turned = []) (hS : (moveE (moveE (startE e))).spare = []) : Chk e := by
  have hs := h.st
  have d := check_stop (e := e) (fun z => by omega)
  exact ⟨o1, o2, by rw [d]; exact .idl a h hb hT hS, by rw [d, ht], by rw [d]; exact hl, by rw [d]; exact hh⟩
/-- two bits from Rev: b2 is twice what was put behind so far -/
theorem chk_of_rev {e : EV} {n r a : Nat} (h : Rev (startE e) n r a) (hn : n < 100000) (ht : thingsE (startE e) = thingsE e) (hl : (startE e).last = e.last) (hr : r ≤ a) (hb : 2 * (startE e).back.length + n + r ≤ 2 * a) : Chk e := by
  have o1 := h.ok hn
  match r, h, hr, hb with
  | r + 2, h, hr, hb =>
    obtain ⟨a1, a2, a3, a4⟩ := h.next
    obtain ⟨b1, b2, b3, b4⟩ := a1.next
    refine chk_rev o1 (a1.ok hn) b1 (b2.trans (a2.trans ht)) (by omega) (by omega) (by omega) ?_
    rw [b3, a3]
    omega
  | 1, h, hr, hb =>
    obtain ⟨a1, a2, a3, a4⟩ := h.next
    obtain ⟨b1, b2, b3, b4⟩ := a1.last'
    refine chk_app o1 (a1.ok hn) b1 (b2.trans (a2.trans ht)) (by omega) (by omega) ?_
    rw [b3, a3]
    omega
  | 0, h, hr, hb =>
    obtain ⟨a1, a2, a3, a4⟩ := h.last'
    by_cases ha : a = 0
    · subst ha
      have em := a1.move_done
      obtain ⟨d1, d2, d3, d4, d5, d6⟩ := a1.done
      rw [← em] at d1 d2 d3 d4 d5 d6
      refine chk_idl o1 (a1.ok hn) d1 (d2.trans (a2.trans ht)) (by omega) (by omega) ?_ d5 d6
      rw [d3, a3]
      omega
    · obtain ⟨b1, b2, b3, b4⟩ := a1.next (by omega)
      refine chk_app o1 (a1.ok hn) b1 (b2.trans (a2.trans ht)) (by omega) (by omega) ?_
      rw [b3, a3]
      omega
/-- two bits from App -/
theorem chk_of_app {e : EV} {n j a : Nat} (h : App (startE e) n j a) (hn : n < 100000) (ht : thingsE (startE e) = thingsE e) (hl : (startE e).last = e.last) (hb : 2 * (startE e).back.length + n ≤ 2 * a + j + 1) : Chk e := by
  have o1 := h.ok hn
  have hja := h.ja
  have han := h.an
  by_cases h1 : j = a
  · subst h1
    have em := h.move_done
    obtain ⟨d1, d2, d3, d4, d5, d6⟩ := h.done
    rw [← em] at d1 d2 d3 d4 d5 d6
    have e2 := d1.move
    refine chk_idl (a := n + 1 + j) o1 (d1.ok (by rw [d5]; decide) (by rw [d6]; decide)) (by rw [e2]; exact d1) (by rw [e2]; exact d2.trans ht) (by rw [e2]; omega) (by rw [e2]; omega) ?_ (by rw [e2]; exact d5) (by rw [e2]; exact d6)
    rw [e2, d3]
    omega
  · obtain ⟨a1, a2, a3, a4⟩ := h.next (by omega)
    by_cases h2 : j + 1 = a
    · subst h2
      have em := a1.move_done
      obtain ⟨d1, d2, d3, d4, d5, d6⟩ := a1.done
      rw [← em] at d1 d2 d3 d4 d5 d6
      refine chk_idl o1 (a1.ok hn) d1 (d2.trans (a2.trans ht)) (by omega) (by omega) ?_ d5 d6
      rw [d3, a3]
      omega
    · obtain ⟨b1, b2, b3, b4⟩ := a1.next (by omega)
      refine chk_app o1 (a1.ok hn) b1 (b2.trans (a2.trans ht)) (by omega) (by omega) ?_
      rw [b3, a3]
      omega
/-- two bits from Idl: turning about may begin -/
theorem chk_of_idl {e : EV} {a : Nat} (h : Idl e a) (ha : a < 100000) (hb : e.back.length ≤ a + 1) (hT : e.turned = []) (hS : e.spare = []) : Chk e := by
  have htop := h.top
  by_cases hgo : e.back.length = a + 1
  · have es : startE e = { e with waiting := e.back, back := [], left := (e.back.length : Int), good := 0, turned := [], spare := [], reading := e.top, st := 1 } := if_pos ⟨h.st, by omega⟩
    have hR : Rev (startE e) a a a := by
      rw [es]
      refine ⟨rfl, h.top, h.top, ?_, ?_, Nat.le_refl _, Nat.le_refl _, h.len, hgo, ?_, ?_⟩
      · show (e.back.length : Int) = _
        omega
      · show (0 : Int) = _
        omega
      · show [] = _
        rw [List.drop_of_length_le (by rw [List.length_take]; omega)]
        rfl
      · show [] = (e.back.drop (a + 1)).reverse
        rw [List.drop_of_length_le (by omega)]
        rfl
    refine chk_of_rev hR ha ?_ (by rw [es]) (Nat.le_refl _) ?_
    · rw [es]
      unfold thingsE
      rw [if_pos h.st, if_neg (by show ¬ (1 : Nat) = 0; decide)]
      show (e.front.take (e.top + 1).toNat).reverse ++ e.back ++ [] = (e.front.take (e.top + 1).toNat).reverse ++ [] ++ e.back
      simp
    · rw [es]
      show 2 * 0 + a + a ≤ 2 * a
      omega
  · have es : startE e = e := if_neg (fun z => by omega)
    have em : moveE (startE e) = e := by rw [es]; exact h.move
    have em2 : moveE (moveE (startE e)) = e := by rw [em]; exact h.move
    have o := h.ok (by rw [hT]; decide) (by rw [hS]; decide)
    refine chk_idl (a := a) (by rw [es]; exact o) (by rw [em]; exact o) (by rw [em2]; exact h) (by rw [em2]) (by rw [em2]; omega) (by rw [em2]; omega) ?_ (by rw [em2]; exact hT) (by rw [em2]; exact hS)
    rw [em2]
    omega
theorem Good.len {e : EV} (h : Good e) : (thingsE e).length = (e.top + 1).toNat + (if e.st = 0 then 0 else e.waiting.length) + e.back.length ∧ (e.top + 1).toNat ≤ e.front.length ∧ -1 ≤ e.top := by
  have key : (e.top + 1).toNat ≤ e.front.length ∧ -1 ≤ e.top := by
    cases h with
    | idl a h _ _ _ => have := h.top; have := h.len; omega
    | rev n r a h _ _ => have := h.top; have := h.len; have := h.an; omega
    | app n j a h _ _ => have := h.top; have := h.len; have := h.an; omega
  refine ⟨?_, key⟩
  unfold thingsE
  rw [List.length_append, List.length_append, List.length_reverse, List.length_take]
  split <;> simp <;> omega
theorem Good.put {e : EV} (h : Good e) (z : Int) (hl : (thingsE e).length < 90000) : Chk { e with last := 0, back := e.back ++ [z] } := by
  have hlen := h.len.1
  cases h with
  | idl a h hb hT hS =>
    have := h.top
    rw [if_pos h.st] at hlen
    exact chk_of_idl ⟨h.st, h.top, h.len⟩ (by omega) (by simp; omega) hT hS
  | rev n r a h hr hb =>
    have es : startE { e with last := 0, back := e.back ++ [z] } = { e with last := 0, back := e.back ++ [z] } := start_no (by show ¬ e.st = 0; rw [h.st]; decide)
    rw [if_neg (by rw [h.st]; decide), h.wl] at hlen
    refine chk_of_rev (n := n) (r := r) (a := a) (by rw [es]; exact ⟨h.st, h.top, h.reading, h.left, h.good, h.ra, h.an, h.len, h.wl, h.spare, h.turned⟩) (by omega) (by rw [es]) (by rw [es]) h.ra ?_
    rw [es]
    show 2 * (e.back ++ [z]).length + n + r ≤ 2 * a
    simp
    omega
  | app n j a h hj hb =>
    have es : startE { e with last := 0, back := e.back ++ [z] } = { e with last := 0, back := e.back ++ [z] } := start_no (by show ¬ e.st = 0; rw [h.st]; decide)
    rw [if_neg (by rw [h.st]; decide), h.wl] at hlen
    refine chk_of_app (n := n) (j := j) (a := a) (by rw [es]; exact ⟨h.st, h.top, h.good, h.ja, h.an, h.len, h.wl, h.spare, h.turned⟩) (by omega) (by rw [es]) (by rw [es]) ?_
    rw [es]
    show 2 * (e.back ++ [z]).length + n ≤ 2 * a + j + 1
    simp
    omega
theorem put_thingsE (e : EV) (z : Int) : thingsE { e with last := 0, back := e.back ++ [z] } = thingsE e ++ [z] := by
  unfold thingsE
  simp
/-- where nothing is in front nothing is there -/
theorem Good.front {e : EV} (h : Good e) : e.top < 0 ↔ thingsE e = [] := by
  cases h with
  | idl a h hb hT hS =>
    have ht := h.top
    have hf := h.len
    constructor
    · intro hz
      have ha : a = 0 := by omega
      subst ha
      have hb0 : e.back = [] := List.length_eq_zero_iff.mp (by omega)
      unfold thingsE
      rw [if_pos h.st, hb0, ht]
      simp
    · intro hz
      have := congrArg List.length hz
      unfold thingsE at this
      rw [if_pos h.st] at this
      simp at this
      have hm : min (e.top + 1).toNat e.front.length = 0 := by
        rcases this with ⟨q, _⟩
        rcases q with q | q
        · omega
        · rw [q]
          simp
      omega
  | rev n r a h hr hb =>
    have ht := h.top
    constructor
    · intro hz
      omega
    · intro hz
      unfold thingsE at hz
      rw [if_neg (by rw [h.st]; decide)] at hz
      have hw := h.wl
      rw [(List.append_eq_nil_iff.mp (List.append_eq_nil_iff.mp hz).1).2] at hw
      simp at hw
  | app n j a h hj hb =>
    have ht := h.top
    constructor
    · intro hz
      omega
    · intro hz
      unfold thingsE at hz
      rw [if_neg (by rw [h.st]; decide)] at hz
      have hw := h.wl
      rw [(List.append_eq_nil_iff.mp (List.append_eq_nil_iff.mp hz).1).2] at hw
      simp at hw
theorem take_revE {l : List Int} {a : Nat} (h : a < l.length) : (l.take (a + 1)).reverse = l.getD a 0 :: (l.take a).reverse := by
  rw [List.take_add_one]
  simp [List.getD_eq_getElem?_getD, h]
theorem take_thingsE {e : EV} (h : Good e) (h0 : 0 ≤ e.top) (g : Int) : thingsE e = e.front.getD e.top.toNat 0 :: thingsE { e with last := 0, top := e.top - 1, good := g } := by
  have hl := h.len.2.1
  unfold thingsE
  show (e.front.take (e.top + 1).toNat).reverse ++ _ ++ _ = e.front.getD e.top.toNat 0 :: ((e.front.take (e.top - 1 + 1).toNat).reverse ++ _ ++ _)
  have e1 : (e.top + 1).toNat = e.top.toNat + 1 := by omega
  have e2 : (e.top - 1 + 1).toNat = e.top.toNat := by omega
  rw [e1, e2, take_revE (by omega)]
  rfl
theorem Good.take {e : EV} (h : Good e) (h0 : 0 ≤ e.top) (hl : (thingsE e).length < 90000) : Chk { e with last := 0, top := e.top - 1, good := if e.st = 0 then e.good else e.good - 1 } := by
  have hlen := h.len.1
  cases h with
  | idl a h hb hT hS =>
    have ht := h.top
    rw [if_pos h.st] at hlen
    have hf := h.len
    refine chk_of_idl (a := a - 1) ⟨h.st, ?_, ?_⟩ (by omega) ?_ hT hS
    · show e.top - 1 = _
      omega
    · show a - 1 ≤ e.front.length
      omega
    · show e.back.length ≤ _
      omega
  | rev n r a h hr hb =>
    have ht := h.top
    have es : startE { e with last := 0, top := e.top - 1, good := if e.st = 0 then e.good else e.good - 1 } = { e with last := 0, top := e.top - 1, good := if e.st = 0 then e.good else e.good - 1 } := start_no (by show ¬ e.st = 0; rw [h.st]; decide)
    rw [if_neg (by rw [h.st]; decide), h.wl] at hlen
    have han := h.an
    refine chk_of_rev (n := n) (r := r) (a := a - 1) (by
        rw [es]
        refine ⟨h.st, ?_, h.reading, h.left, ?_, by omega, by omega, h.len, h.wl, h.spare, h.turned⟩
        · show e.top - 1 = _
          omega
        · show (if e.st = 0 then e.good else e.good - 1) = _
          rw [if_neg (by rw [h.st]; decide), h.good]
          omega) (by omega) (by rw [es]) (by rw [es]) (by omega) ?_
    rw [es]
    show 2 * e.back.length + n + r ≤ 2 * (a - 1)
    omega
  | app n j a h hj hb =>
    have ht := h.top
    have es : startE { e with last := 0, top := e.top - 1, good := if e.st = 0 then e.good else e.good - 1 } = { e with last := 0, top := e.top - 1, good := if e.st = 0 then e.good else e.good - 1 } := start_no (by show ¬ e.st = 0; rw [h.st]; decide)
    rw [if_neg (by rw [h.st]; decide), h.wl] at hlen
    have han := h.an
    refine chk_of_app (n := n) (j := j) (a := a - 1) (by
        rw [es]
        refine ⟨h.st, ?_, ?_, by omega, by omega, h.len, h.wl, h.spare, h.turned⟩
        · show e.top - 1 = _
          omega
        · show (if e.st = 0 then e.good else e.good - 1) = _
          rw [if_neg (by rw [h.st]; decide), h.good]
          omega) (by omega) (by rw [es]) (by rw [es]) ?_
    rw [es]
    show 2 * e.back.length + n ≤ 2 * (a - 1) + j + 1
    omega
end Hf
/-! ## Evenline: the heap -/
namespace Hf
open PySem PySem.Spec PyProof.Rows L2
inductive LF where
  | front | back | waiting | turned | spare
deriving DecidableEq
inductive NK where
  | top | left | reading | good | last
deriving DecidableEq
abbrev LF.name : LF → Str
  | .front => "front" | .back => "back" | .waiting => "waiting" | .turned => "turned" | .spare => "spare"
abbrev NK.name : NK → Str
  | .top => "top" | .left => "left" | .reading => "reading" | .good => "good" | .last => "last"
abbrev EV.row (e : EV) : LF → List Int
  | .front => e.front | .back => e.back | .waiting => e.waiting | .turned => e.turned | .spare => e.spare
abbrev EV.setR (e : EV) : LF → List Int → EV
  | .front, l => { e with front := l } | .back, l => { e with back := l } | .waiting, l => { e with waiting := l } | .turned, l => { e with turned := l } | .spare, l => { e with spare := l }
abbrev EV.num (e : EV) : NK → Int
  | .top => e.top | .left => e.left | .reading => e.reading | .good => e.good | .last => e.last
abbrev EV.setN (e : EV) : NK → Int → EV
  | .top, v => { e with top := v } | .left, v => { e with left := v } | .reading, v => { e with reading := v } | .good, v => { e with good := v } | .last, v => { e with last := v }
def stS (n : Nat) : Str := if n = 0 then "idle" else if n = 1 then "reversing" else "appending"
def eF (L : LF → Addr) (e : EV) : List (Str × V) := [("front", .ref (L .front)), ("top", .int e.top), ("back", .ref (L .back)), ("waiting", .ref (L .waiting)), ("left", .int e.left), ("turned", .ref (L .turned)),
  ("spare", .ref (L .spare)), ("reading", .int e.reading), ("good", .int e.good), ("state", .str (stS e.st)), ("last", .int e.last)]
def setL (L : LF → Addr) (x : LF) (l : Addr) : LF → Addr := fun y => if y = x then l else L y
theorem eF_row (L : LF → Addr) (e : EV) (x : LF) : (eF L e).lookup x.name = some (.ref (L x)) := by
  cases x <;> (unfold eF; repeat (first | exact lk_here | refine (lk_past (by decide +kernel)).trans ?_))
theorem eF_num (L : LF → Addr) (e : EV) (x : NK) : (eF L e).lookup x.name = some (.int (e.num x)) := by
  cases x <;> (unfold eF; repeat (first | exact lk_here | refine (lk_past (by decide +kernel)).trans ?_))
theorem eF_st (L : LF → Addr) (e : EV) : (eF L e).lookup ("state" : Str) = some (.str (stS e.st)) := by
  unfold eF; repeat (first | exact lk_here | refine (lk_past (by decide +kernel)).trans ?_)
theorem eF_no (L : LF → Addr) (e : EV) {m : Str} (h : (["front", "top", "back", "waiting", "left", "turned", "spare", "reading", "good", "state", "last"] : List Str).all (fun f => !(m == f)) = true) : (eF L e).lookup m = none := by
  simp only [List.all_cons, List.all_nil, Bool.and_eq_true, Bool.not_eq_true'] at h
  obtain ⟨h1, h2, h3, h4, h5, h6, h7, h8, h9, h10, h11, _⟩ := h
  exact (lk_past h1).trans ((lk_past h2).trans ((lk_past h3).trans ((lk_past h4).trans ((lk_past h5).trans ((lk_past h6).trans ((lk_past h7).trans ((lk_past h8).trans ((lk_past h9).trans ((lk_past h10).trans ((lk_past h11).trans rfl))))))))))
theorem eF_putN (L : LF → Addr) (e : EV) (x : NK) (v : Int) : putF x.name (.int v) (eF L e) = eF L (e.setN x v) := by
  cases x <;> (unfold eF; repeat (first | exact put_here | refine (put_past (by decide +kernel)).trans (congrArg _ ?_)))
theorem eF_putS (L : LF → Addr) (e : EV) (n : Nat) : putF "state" (.str (stS n)) (eF L e) = eF L { e with st := n } := by
  unfold eF; repeat (first | exact put_here | refine (put_past (by decide +kernel)).trans (congrArg _ ?_))
theorem eF_putL (L : LF → Addr) (e : EV) (x : LF) (l : Addr) : putF x.name (.ref l) (eF L e) = eF (setL L x l) e := by
  cases x <;> (unfold eF setL; repeat (first | exact put_here | refine (put_past (by decide +kernel)).trans (congrArg _ ?_)))
theorem eF_setR (L : LF → Addr) (e : EV) (x : LF) (l : List Int) : eF L (e.setR x l) = eF L e := by cases x <;> rfl
theorem row_setN (e : EV) (x : NK) (v : Int) (y : LF) : (e.setN x v).row y = e.row y := by cases x <;> cases y <;> rfl
theorem row_setR (e : EV) (x : LF) (l : List Int) (y : LF) : (e.setR x l).row y = if y = x then l else e.row y := by cases x <;> cases y <;> rfl
/-- an Evenline stands at p, its rows at L -/
structure Ev0 (C : Addr) (H : Hp) (p : Addr) (L : LF → Addr) (e : EV) : Prop where
  ins : ∃ dx, H p = some (.ins C dx (eF L e))
  row : ∀ x, H (L x) = some (.lst ((e.row x).map V.int))
/-- and no two of its rows are one -/
def EvAt (C : Addr) (H : Hp) (p : Addr) (L : LF → Addr) (e : EV) : Prop := Ev0 C H p L e ∧ ∀ x y, L x = L y → x = y
def own (p : Addr) (L : LF → Addr) : List Addr := [p, L .front, L .back, L .waiting, L .turned, L .spare]
theorem mem_own {p q : Addr} {L : LF → Addr} : q ∈ own p L ↔ q = p ∨ ∃ x, q = L x := by
  constructor
  · intro h
    simp only [own, List.mem_cons, List.not_mem_nil, or_false] at h
    rcases h with h | h | h | h | h | h
    · exact .inl h
    · exact .inr ⟨_, h⟩
    · exact .inr ⟨_, h⟩
    · exact .inr ⟨_, h⟩
    · exact .inr ⟨_, h⟩
    · exact .inr ⟨_, h⟩
  · intro h
    rcases h with h | ⟨x, h⟩
    · subst h
      simp [own]
    · subst h
      cases x <;> simp [own]
section
variable {C : Addr} {H : Hp} {p : Addr} {L : LF → Addr} {e : EV}
theorem Ev0.ne (h : Ev0 C H p L e) (x : LF) : p ≠ L x := by
  obtain ⟨dx, hp⟩ := h.ins
  exact ne_of hp (h.row x) (by intro q; cases q)
theorem Ev0.same {H' : Hp} (h : Ev0 C H p L e) (s : Same H H') : Ev0 C H' p L e := by
  obtain ⟨dx, hp⟩ := h.ins
  exact ⟨⟨dx, s _ _ hp⟩, fun x => s _ _ (h.row x)⟩
theorem EvAt.same {H' : Hp} (h : EvAt C H p L e) (s : Same H H') : EvAt C H' p L e := ⟨h.1.same s, h.2⟩
theorem EvAt.keep {H' : Hp} (h : EvAt C H p L e) (s : ∀ q o, q ∈ own p L → H q = some o → H' q = some o) : EvAt C H' p L e := by
  obtain ⟨⟨⟨dx, hp⟩, hr⟩, hi⟩ := h
  exact ⟨⟨⟨dx, s _ _ (mem_own.mpr (.inl rfl)) hp⟩, fun x => s _ _ (mem_own.mpr (.inr ⟨x, rfl⟩)) (hr x)⟩, hi⟩
theorem Ev0.trk (h : Ev0 C H p L e) : ∀ q, q ∈ own p L → ∃ o, H q = some o := fun q hq => by
  rcases mem_own.mp hq with rfl | ⟨x, rfl⟩
  · obtain ⟨dx, hp⟩ := h.ins
    exact ⟨_, hp⟩
  · exact ⟨_, h.row x⟩
theorem Ev0.setN {dx : Addr} (h : Ev0 C H p L e) (x : NK) (v : Int) : Ev0 C (upd H p (.ins C dx (putF x.name (.int v) (eF L e)))) p L (e.setN x v) :=
  ⟨⟨dx, by rw [upd_same, eF_putN]⟩, fun y => by rw [upd_ne (h.ne y).symm, row_setN]; exact h.row y⟩
theorem Ev0.setS {dx : Addr} (h : Ev0 C H p L e) (n : Nat) : Ev0 C (upd H p (.ins C dx (putF "state" (.str (stS n)) (eF L e)))) p L { e with st := n } :=
  ⟨⟨dx, by rw [upd_same, eF_putS]⟩, fun y => by rw [upd_ne (h.ne y).symm]; exact h.row y⟩
theorem Ev0.setL {dx l : Addr} {xs : List Int} (h : Ev0 C H p L e) (hp : H p = some (.ins C dx (eF L e))) (x : LF) (hl : H l = some (.lst (xs.map V.int))) : Ev0 C (upd H p (.ins C dx (putF x.name (.ref l) (eF L e)))) p (setL L x l) (e.setR x xs) :=
  ⟨⟨dx, by rw [upd_same, eF_putL, eF_setR]⟩, fun y => by
    rw [row_setR]
    unfold Hf.setL
    by_cases c : y = x
    · rw [if_pos c, if_pos c, upd_ne (ne_of hl hp (by intro q; cases q))]
      exact hl
    · rw [if_neg c, if_neg c, upd_ne (h.ne y).symm]
      exact h.row y⟩
theorem EvAt.setR (h : EvAt C H p L e) (x : LF) (xs : List Int) : EvAt C (upd H (L x) (.lst (xs.map V.int))) p L (e.setR x xs) := by
  obtain ⟨h, hi⟩ := h
  obtain ⟨dx, hp⟩ := h.ins
  refine ⟨⟨⟨dx, by rw [upd_ne (h.ne x), eF_setR]; exact hp⟩, fun y => ?_⟩, hi⟩
  rw [row_setR]
  by_cases c : y = x
  · rw [if_pos c, c]
    exact upd_same
  · rw [if_neg c, upd_ne (fun z => c (hi y x z))]
    exact h.row y
theorem step_p {o : HO} : Step H (own p L) (upd H p o) (own p L) := fun q u hq hn => ⟨by rw [upd_ne (fun z => hn (mem_own.mpr (.inl z)))]; exact hq, hn⟩
theorem step_row {o : HO} (x : LF) : Step H (own p L) (upd H (L x) o) (own p L) := fun q u hq hn => ⟨by rw [upd_ne (fun z => hn (mem_own.mpr (.inr ⟨x, z⟩)))]; exact hq, hn⟩
end
/-- an Evenline with the things ts; l: what the last deed moved; A: the addresses that are its own -/
def EvenAt (C : Addr) (H : Hp) (p : Addr) (A : List Addr) (ts : List Int) (l : Int) : Prop := ∃ L e, A = own p L ∧ EvAt C H p L e ∧ Good e ∧ thingsE e = ts ∧ e.last = l
section
variable {C : Addr} {H H' : Hp} {p : Addr} {A : List Addr} {ts : List Int} {l : Int}
theorem EvenAt.same (h : EvenAt C H p A ts l) (s : Same H H') : EvenAt C H' p A ts l := by
  obtain ⟨L, e, h1, h2, h3⟩ := h
  exact ⟨L, e, h1, h2.same s, h3⟩
theorem EvenAt.keep (h : EvenAt C H p A ts l) (s : ∀ q o, q ∈ A → H q = some o → H' q = some o) : EvenAt C H' p A ts l := by
  obtain ⟨L, e, rfl, h2, h3⟩ := h
  exact ⟨L, e, rfl, h2.keep s, h3⟩
theorem EvenAt.trk (h : EvenAt C H p A ts l) : ∀ q, q ∈ A → ∃ o, H q = some o := by
  obtain ⟨L, e, rfl, h2, h3⟩ := h
  exact h2.1.trk
theorem EvenAt.fresh (h : EvenAt C H p A ts l) {m : Addr} (hm : H m = none) : m ∉ A := fun q => by
  obtain ⟨o, e⟩ := h.trk m q
  rw [hm] at e
  cases e
end
/-! ### the promises -/
def spDone (C : Addr) : Sp := fun vs H Q _ => ∃ (p : Addr) (L : LF → Addr) (e : EV), vs = [.ref p] ∧ EvAt C H p L e ∧ ∀ (H' : Hp) (L' : LF → Addr), EvAt C H' p L' (doneE e) → Step H (own p L) H' (own p L') → Q .non H'
def spMove (C : Addr) : Sp := fun vs H Q _ => ∃ (p : Addr) (L : LF → Addr) (e : EV), vs = [.ref p] ∧ EvAt C H p L e ∧ MoveOk e ∧ ∀ (H' : Hp) (L' : LF → Addr), EvAt C H' p L' (moveE e) → Step H (own p L) H' (own p L') → Q .non H'
def spCheck (C : Addr) : Sp := fun vs H Q _ => ∃ (p : Addr) (L : LF → Addr) (e : EV), vs = [.ref p] ∧ EvAt C H p L e ∧ Chk e ∧ e.st ≤ 2 ∧ ∀ (H' : Hp) (L' : LF → Addr), EvAt C H' p L' (checkE e) → Step H (own p L) H' (own p L') → Q .non H'
def spInitE (C : Addr) : Sp := fun vs H Q _ => ∃ (p dx : Addr), vs = [.ref p] ∧ H p = some (.ins C dx []) ∧
  ∀ (H' : Hp) (A : List Addr), EvenAt C H' p A [] 0 → (∀ b o, H b = some o → b ≠ p → H' b = some o ∧ b ∉ A) → Q .non H'
def spPutE (K : PySem.W.Frag) (C CT : Addr) : Sp := fun vs H Q E => ∃ (p : Addr) (A : List Addr) (ts : List Int) (l : Int), EvenAt C H p A ts l ∧
  ((∃ z : Int, vs = [.ref p, .int z] ∧ ts.length < 90000 ∧ ∀ (H' : Hp) (A' : List Addr) (l' : Int), EvenAt C H' p A' (ts ++ [z]) l' → 0 ≤ l' → l' ≤ 4 → Step H A H' A' → Q .non H') ∨
   (∃ t, vs = [.ref p, t] ∧ NoThing K H t ∧ E (.ref CT) none H))
def spTakeE (C CM : Addr) : Sp := fun vs H Q E => ∃ (p : Addr) (A : List Addr) (ts : List Int) (l : Int), vs = [.ref p] ∧ EvenAt C H p A ts l ∧ ts.length < 90000 ∧
  ((ts = [] ∧ ∀ H', EvenAt C H' p A [] 0 → Step H A H' A → E (.ref CM) none H') ∨
   (∃ z r, ts = z :: r ∧ ∀ (H' : Hp) (A' : List Addr) (l' : Int), EvenAt C H' p A' r l' → 0 ≤ l' → l' ≤ 4 → Step H A H' A' → Q (.int z) H'))
def spFirstE (C CM : Addr) : Sp := fun vs H Q E => ∃ (p : Addr) (A : List Addr) (ts : List Int) (l : Int), vs = [.ref p] ∧ EvenAt C H p A ts l ∧
  ((ts = [] ∧ E (.ref CM) none H) ∨ (∃ z r, ts = z :: r ∧ Q (.int z) H))
def spThingsE (C : Addr) : Sp := fun vs H Q _ => ∃ (p : Addr) (A : List Addr) (ts : List Int) (l : Int), vs = [.ref p] ∧ EvenAt C H p A ts l ∧ ts.length < 90000 ∧
  ∀ (H' : Hp) (m : Addr), Same H H' → H m = none → H' m = some (.lst (ts.map V.int)) → Q (.ref m) H'
def spMovedE (C : Addr) : Sp := fun vs H Q _ => ∃ (p : Addr) (A : List Addr) (ts : List Int) (l : Int), vs = [.ref p] ∧ EvenAt C H p A ts l ∧ Q (.int l) H
structure VTxt (K : PySem.W.Frag) (mg : Str → Option Value) (C CT CM : Addr) : Prop where
  cl : Cls K C
  nR : ∀ x : LF, NoAttr K C x.name
  nN : ∀ x : NK, NoAttr K C x.name
  nS : NoAttr K C "state"
  gC : mg "Evenline" = some (.ref C)
  T : ETxt K mg "BadThing" CT
  M : ETxt K mg "Empty" CM
  B : BTxt mg
/-! ### readings -/
theorem last_mapE {l : List Int} (h : l ≠ []) : (l.map V.int)[(l.map V.int).length - 1]? = some (V.int (l.getLastD 0)) := by
  have e2 : l.getLastD 0 = l.getLast h := by
    cases l with
    | nil => exact absurd rfl h
    | cons a r => rfl
  rw [List.getElem?_map, List.length_map, ← List.getLast?_eq_getElem?, List.getLast?_eq_some_getLast h, e2]
  rfl
section
variable {K : PySem.W.Frag} {mg : Str → Option Value} {C CT CM : Addr} {H : Hp} {p : Addr} {L : LF → Addr} {e : EV} {σ : L2.St} {Q : VK} {D : Ends}
theorem rd_num {j : Nat} (T : VTxt K mg C CT CM) (x : NK) (h0 : σ[j]? = some (some (.ref p))) (h : Ev0 C H p L e) (k : Q (.int (e.num x)) H) : tFld K (tVar j) x.name σ H Q := by
  obtain ⟨dx, hp⟩ := h.ins
  exact ⟨_, h0, p, C, dx, _, _, rfl, hp, T.cl, T.nN x, eF_num L e x, k⟩
theorem rd_row {j : Nat} (T : VTxt K mg C CT CM) (x : LF) (h0 : σ[j]? = some (some (.ref p))) (h : Ev0 C H p L e) (k : Q (.ref (L x)) H) : tFld K (tVar j) x.name σ H Q := by
  obtain ⟨dx, hp⟩ := h.ins
  exact ⟨_, h0, p, C, dx, _, _, rfl, hp, T.cl, T.nR x, eF_row L e x, k⟩
theorem rd_st {j : Nat} (T : VTxt K mg C CT CM) (h0 : σ[j]? = some (some (.ref p))) (h : Ev0 C H p L e) (k : Q (.str (stS e.st)) H) : tFld K (tVar j) "state" σ H Q := by
  obtain ⟨dx, hp⟩ := h.ins
  exact ⟨_, h0, p, C, dx, _, _, rfl, hp, T.cl, T.nS, eF_st L e, k⟩
/-- self.x = a number -/
theorem rd_setN {te : TE} (T : VTxt K mg C CT CM) (x : NK) (v : Int) (h0 : σ[0]? = some (some (.ref p))) (h : EvAt C H p L e) (ht : ∀ R : V → Hp → Prop, R (.int v) H → te σ H R)
    (k : ∀ H1, EvAt C H1 p L (e.setN x v) → Step H (own p L) H1 (own p L) → D.nx σ H1) : sFld K (tVar 0) te x.name D σ H := by
  obtain ⟨dx, hp⟩ := h.1.ins
  exact ht _ ⟨_, h0, p, C, dx, _, rfl, hp, T.cl, T.nN x, (by show 11 < 1000; decide), k _ ⟨h.1.setN x v, h.2⟩ step_p⟩
theorem rd_setS (T : VTxt K mg C CT CM) (n : Nat) (h0 : σ[0]? = some (some (.ref p))) (h : EvAt C H p L e)
    (k : ∀ H1, EvAt C H1 p L { e with st := n } → Step H (own p L) H1 (own p L) → D.nx σ H1) : sFld K (tVar 0) (tC (.str (stS n))) "state" D σ H := by
  obtain ⟨dx, hp⟩ := h.1.ins
  exact ⟨_, h0, p, C, dx, _, rfl, hp, T.cl, T.nS, (by show 11 < 1000; decide), k _ ⟨h.1.setS n, h.2⟩ step_p⟩
/-- self.x as one of several targets: a number -/
theorem rd_gN {R : L2.St → Hp → Prop} (T : VTxt K mg C CT CM) (x : NK) (v : Int) (h0 : σ[0]? = some (some (.ref p))) (h : Ev0 C H p L e)
    (k : ∀ H1, Ev0 C H1 p L (e.setN x v) → (∀ q o, H q = some o → q ≠ p → H1 q = some o) → R σ H1) : gFld K (tVar 0) x.name (.int v) σ H R := by
  obtain ⟨dx, hp⟩ := h.ins
  exact ⟨_, h0, p, C, dx, _, rfl, hp, T.cl, T.nN x, (by show 11 < 1000; decide), k _ (h.setN x v) fun q o e n => by rw [upd_ne n]; exact e⟩
/-- .. a row -/
theorem rd_gL {R : L2.St → Hp → Prop} {l : Addr} {xs : List Int} (T : VTxt K mg C CT CM) (x : LF) (h0 : σ[0]? = some (some (.ref p))) (h : Ev0 C H p L e) (hl : H l = some (.lst (xs.map V.int)))
    (k : ∀ H1, Ev0 C H1 p (setL L x l) (e.setR x xs) → (∀ q o, H q = some o → q ≠ p → H1 q = some o) → R σ H1) : gFld K (tVar 0) x.name (.ref l) σ H R := by
  obtain ⟨dx, hp⟩ := h.ins
  exact ⟨_, h0, p, C, dx, _, rfl, hp, T.cl, T.nR x, (by show 11 < 1000; decide), k _ (h.setL hp x hl) fun q o e n => by rw [upd_ne n]; exact e⟩
/-- self.x.append(..) -/
theorem rd_app {te : TE} {e1 : EV} {v : Int} (T : VTxt K mg C CT CM) (x : LF) (h0 : σ[0]? = some (some (.ref p))) (h : EvAt C H p L e)
    (ht : ∀ R : V → Hp → Prop, (∀ H1, EvAt C H1 p L e1 → Step H (own p L) H1 (own p L) → R (.int v) H1) → te σ H R) (hl : (e1.row x).length < 1000000)
    (k : ∀ H2, EvAt C H2 p L (e1.setR x (e1.row x ++ [v])) → Step H (own p L) H2 (own p L) → D.nx σ H2) : tDrop (tBM K "list" rAppend (tFld K (tVar 0) x.name) (tCons te tNil)) D σ H := by
  show tFld K (tVar 0) x.name σ H (fun y H1 => tyV K "list" y H1 ∧ tCons te tNil σ H1 fun xs H2 => rAppend y xs H2 fun _ H3 => D.nx σ H3)
  refine rd_row T x h0 h.1 ?_
  refine ⟨.inl ⟨rfl, _, SqL.of (h.1.row x)⟩, ht _ fun H1 h1 s1 => ?_⟩
  refine ⟨L x, _, _, rfl, rfl, h1.1.row x, ?_, ?_⟩
  · rw [List.length_map, sizeLine_eq]
    omega
  · have e2 : (e1.row x).map V.int ++ [V.int v] = (e1.row x ++ [v]).map V.int := by simp
    rw [e2]
    exact k _ (h1.setR x _) (s1.trans (step_row x))
/-- self.x.pop() -/
theorem rd_pop (T : VTxt K mg C CT CM) (x : LF) (h0 : σ[0]? = some (some (.ref p))) (h : EvAt C H p L e) (hne : e.row x ≠ [])
    (k : ∀ H1, EvAt C H1 p L (e.setR x (e.row x).dropLast) → Step H (own p L) H1 (own p L) → Q (.int ((e.row x).getLastD 0)) H1) : tBM0 K "list" rPop (tFld K (tVar 0) x.name) σ H Q := by
  show tFld K (tVar 0) x.name σ H (fun y H1 => tyV K "list" y H1 ∧ rPop y [] H1 Q)
  refine rd_row T x h0 h.1 ?_
  refine ⟨.inl ⟨rfl, _, SqL.of (h.1.row x)⟩, L x, _, _, rfl, rfl, h.1.row x, last_mapE hne, ?_⟩
  rw [← List.map_dropLast]
  exact k _ (h.setR x _) (step_row x)
/-- self.x[self.y] -/
theorem rd_at {j : Nat} (T : VTxt K mg C CT CM) (x : LF) (y : NK) (i : Nat) (h0 : σ[j]? = some (some (.ref p))) (h : Ev0 C H p L e) (hi : e.num y = (i : Int)) (hl : i < (e.row x).length)
    (k : Q (.int ((e.row x).getD i 0)) H) : tOp (rIxL K) (tFld K (tVar j) x.name) (tFld K (tVar j) y.name) σ H Q := by
  refine rd_row T x h0 h (rd_num T y h0 h ⟨L x, _, _, _, rfl, rfl, SqL.of (h.row x), ?_, k⟩)
  rw [hi]
  refine atI_nat ?_
  rw [List.getElem?_map, List.getElem?_eq_getElem hl, List.getD_eq_getElem?_getD, List.getElem?_eq_getElem hl]
  rfl
end
end Hf
/-! ## Evenline: the bodies -/
namespace Hf
open PySem PySem.Spec PyProof.Rows L2
abbrev sVI : Stmt := inClass (top 11) 0
abbrev sVMove : Stmt := inClass (top 11) 1
abbrev sVDone : Stmt := inClass (top 11) 2
abbrev sVCheck : Stmt := inClass (top 11) 3
abbrev sVPut : Stmt := inClass (top 11) 4
abbrev sVTake : Stmt := inClass (top 11) 5
abbrev sVFirst : Stmt := inClass (top 11) 6
abbrev sVThings : Stmt := inClass (top 11) 7
abbrev sVMoved : Stmt := inClass (top 11) 8
/-! ### further readings -/
section
variable {K : PySem.W.Frag} {mg : Str → Option Value} {C CT CM : Addr} {H : Hp} {p : Addr} {L : LF → Addr} {e : EV} {σ : L2.St} {Q : VK} {D : Ends}
theorem st_dec {n m : Nat} (hn : n ≤ 2) (hm : m ≤ 2) : decide (V.str (stS n) = V.str (stS m)) = decide (n = m) := by
  match n, m, hn, hm with
  | 0, 0, _, _ => decide +kernel
  | 0, 1, _, _ => decide +kernel
  | 0, 2, _, _ => decide +kernel
  | 1, 0, _, _ => decide +kernel
  | 1, 1, _, _ => decide +kernel
  | 1, 2, _, _ => decide +kernel
  | 2, 0, _, _ => decide +kernel
  | 2, 1, _, _ => decide +kernel
  | 2, 2, _, _ => decide +kernel
  | n + 3, _, h, _ => omega
  | _, m + 3, _, h => omega
theorem rd_is {Q : Bool → Hp → Prop} {s : Str} (T : VTxt K mg C CT CM) (m : Nat) (h0 : σ[0]? = some (some (.ref p))) (h : Ev0 C H p L e) (h2 : e.st ≤ 2) (k : Q (decide (e.st = m)) H) (hm : m ≤ 2 := by decide) (hs : stS m = s := by rfl) :
    tTest (tOp rEq (tFld K (tVar 0) "state") (tC (.str s))) σ H Q := by
  obtain ⟨dx, hp⟩ := h.ins
  subst hs
  exact ⟨_, h0, p, C, dx, _, _, rfl, hp, T.cl, T.nS, eF_st L e, rfl, _, congrArg V.bl (st_dec h2 hm), k⟩
theorem rd_isnt {Q : Bool → Hp → Prop} {s : Str} (T : VTxt K mg C CT CM) (m : Nat) (h0 : σ[0]? = some (some (.ref p))) (h : Ev0 C H p L e) (h2 : e.st ≤ 2) (k : Q (!decide (e.st = m)) H) (hm : m ≤ 2 := by decide) (hs : stS m = s := by rfl) :
    tTest (tOp rNe (tFld K (tVar 0) "state") (tC (.str s))) σ H Q := by
  obtain ⟨dx, hp⟩ := h.ins
  subst hs
  exact ⟨_, h0, p, C, dx, _, _, rfl, hp, T.cl, T.nS, eF_st L e, rfl, _, congrArg (fun b => V.bl (!b)) (st_dec h2 hm), k⟩
/-- self.x .. another number -/
theorem rd_opN {r : R2} {te : TE} (T : VTxt K mg C CT CM) (x : NK) (h0 : σ[0]? = some (some (.ref p))) (h : Ev0 C H p L e) (k : te σ H fun y H2 => r (.int (e.num x)) y H2 Q) : tOp r (tFld K (tVar 0) x.name) te σ H Q := by
  obtain ⟨dx, hp⟩ := h.ins
  exact ⟨_, h0, p, C, dx, _, _, rfl, hp, T.cl, T.nN x, eF_num L e x, k⟩
theorem rd_tN {Q : Bool → Hp → Prop} {r : R2} {te : TE} (T : VTxt K mg C CT CM) (x : NK) (h0 : σ[0]? = some (some (.ref p))) (h : Ev0 C H p L e) (k : te σ H fun y H2 => r (.int (e.num x)) y H2 fun z H3 => ∃ b, z = .bl b ∧ Q b H3) : tTest (tOp r (tFld K (tVar 0) x.name) te) σ H Q := by
  obtain ⟨dx, hp⟩ := h.ins
  exact ⟨_, h0, p, C, dx, _, _, rfl, hp, T.cl, T.nN x, eF_num L e x, k⟩
def rLenS (K : PySem.W.Frag) : List V → Hp → VK → Prop := fun xs H Q => ∃ p ys, xs = [.ref p] ∧ (SqL K H p ys ∨ SqT K H p ys) ∧ Q (.int ys.length) H
theorem rd_len (T : VTxt K mg C CT CM) (x : LF) (h0 : σ[0]? = some (some (.ref p))) (h : Ev0 C H p L e) (k : Q (.int ((e.row x).length : Nat)) H) : tCB (rLenS K) (tCons (tFld K (tVar 0) x.name) tNil) σ H Q := by
  obtain ⟨dx, hp⟩ := h.ins
  refine ⟨_, h0, p, C, dx, _, _, rfl, hp, T.cl, T.nR x, eF_row L e x, L x, _, rfl, .inl (SqL.of (h.row x)), ?_⟩
  rw [List.length_map]
  exact k
theorem rd_setN0 {te : TE} (T : VTxt K mg C CT CM) (x : NK) (v : Int) (h0 : σ[0]? = some (some (.ref p))) (h : Ev0 C H p L e) (ht : ∀ R : V → Hp → Prop, R (.int v) H → te σ H R)
    (k : ∀ H1, Ev0 C H1 p L (e.setN x v) → (∀ q o, H q = some o → q ≠ p → H1 q = some o) → D.nx σ H1) : sFld K (tVar 0) te x.name D σ H := by
  obtain ⟨dx, hp⟩ := h.ins
  exact ht _ ⟨_, h0, p, C, dx, _, rfl, hp, T.cl, T.nN x, (by show 11 < 1000; decide), k _ (h.setN x v) fun q o e n => by rw [upd_ne n]; exact e⟩
theorem rd_setS0 {s : Str} (T : VTxt K mg C CT CM) (n : Nat) (h0 : σ[0]? = some (some (.ref p))) (h : Ev0 C H p L e)
    (k : ∀ H1, Ev0 C H1 p L { e with st := n } → (∀ q o, H q = some o → q ≠ p → H1 q = some o) → D.nx σ H1) (hs : stS n = s := by rfl) : sFld K (tVar 0) (tC (.str s)) "state" D σ H := by
  obtain ⟨dx, hp⟩ := h.ins
  subst hs
  exact ⟨_, h0, p, C, dx, _, rfl, hp, T.cl, T.nS, (by show 11 < 1000; decide), k _ (h.setS n) fun q o e n => by rw [upd_ne n]; exact e⟩
theorem rd_setL0 {te : TE} {l : Addr} {xs : List Int} (T : VTxt K mg C CT CM) (x : LF) (h0 : σ[0]? = some (some (.ref p))) (h : Ev0 C H p L e) (hl : H l = some (.lst (xs.map V.int))) (ht : ∀ R : V → Hp → Prop, R (.ref l) H → te σ H R)
    (k : ∀ H1, Ev0 C H1 p (setL L x l) (e.setR x xs) → (∀ q o, H q = some o → q ≠ p → H1 q = some o) → D.nx σ H1) : sFld K (tVar 0) te x.name D σ H := by
  obtain ⟨dx, hp⟩ := h.ins
  exact ht _ ⟨_, h0, p, C, dx, _, rfl, hp, T.cl, T.nR x, (by show 11 < 1000; decide), k _ (h.setL hp x hl) fun q o e n => by rw [upd_ne n]; exact e⟩
/-- self.x = self.x + d, self.x - d -/
theorem rd_add (T : VTxt K mg C CT CM) (x : NK) (d : Int) (h0 : σ[0]? = some (some (.ref p))) (h : EvAt C H p L e)
    (k : ∀ H1, EvAt C H1 p L (e.setN x (e.num x + d)) → Step H (own p L) H1 (own p L) → D.nx σ H1) : sFld K (tVar 0) (tOp (rI0 fun i j => .int (i + j)) (tFld K (tVar 0) x.name) (tC (.int d))) x.name D σ H :=
  rd_setN T x _ h0 h (fun R q => rd_opN T x h0 h.1 ⟨_, _, rfl, rfl, q⟩) k
theorem rd_sub (T : VTxt K mg C CT CM) (x : NK) (d : Int) (h0 : σ[0]? = some (some (.ref p))) (h : EvAt C H p L e)
    (k : ∀ H1, EvAt C H1 p L (e.setN x (e.num x - d)) → Step H (own p L) H1 (own p L) → D.nx σ H1) : sFld K (tVar 0) (tOp (rI0 fun i j => .int (i - j)) (tFld K (tVar 0) x.name) (tC (.int d))) x.name D σ H :=
  rd_setN T x _ h0 h (fun R q => rd_opN T x h0 h.1 ⟨_, _, rfl, rfl, q⟩) k
theorem rd_zero (T : VTxt K mg C CT CM) (x : NK) (d : Int) (h0 : σ[0]? = some (some (.ref p))) (h : EvAt C H p L e)
    (k : ∀ H1, EvAt C H1 p L (e.setN x d) → Step H (own p L) H1 (own p L) → D.nx σ H1) : sFld K (tVar 0) (tC (.int d)) x.name D σ H :=
  rd_setN T x _ h0 h (fun R q => q) k
theorem rd_move (h0 : σ[0]? = some (some (.ref p))) (h : EvAt C H p L e) (ok : MoveOk e) (k : ∀ (H' : Hp) (L' : LF → Addr), EvAt C H' p L' (moveE e) → Step H (own p L) H' (own p L') → Q .non H') :
    tMeth C "move" (spMove C) [] E0 (tVar 0) tNil σ H Q := by
  obtain ⟨dx, hp⟩ := h.1.ins
  exact ⟨_, h0, p, dx, _, rfl, hp, eF_no _ _ (by decide +kernel), p, L, e, rfl, h, ok, k⟩
theorem rd_done (h0 : σ[0]? = some (some (.ref p))) (h : EvAt C H p L e) (k : ∀ (H' : Hp) (L' : LF → Addr), EvAt C H' p L' (doneE e) → Step H (own p L) H' (own p L') → Q .non H') :
    tMeth C "done" (spDone C) [] E0 (tVar 0) tNil σ H Q := by
  obtain ⟨dx, hp⟩ := h.1.ins
  exact ⟨_, h0, p, dx, _, rfl, hp, eF_no _ _ (by decide +kernel), p, L, e, rfl, h, k⟩
theorem rd_check (h0 : σ[0]? = some (some (.ref p))) (h : EvAt C H p L e) (ok : Chk e) (h2 : e.st ≤ 2) (k : ∀ (H' : Hp) (L' : LF → Addr), EvAt C H' p L' (checkE e) → Step H (own p L) H' (own p L') → Q .non H') :
    tMeth C "check" (spCheck C) [] E0 (tVar 0) tNil σ H Q := by
  obtain ⟨dx, hp⟩ := h.1.ins
  exact ⟨_, h0, p, dx, _, rfl, hp, eF_no _ _ (by decide +kernel), p, L, e, rfl, h, ok, h2, k⟩
end
/-! ### __init__ -/
/-- while it is being made: the fields fs so far, the empty rows as -/
structure Pre (C : Addr) (H0 H : Hp) (p dx : Addr) (fs : List (Str × V)) (as : List Addr) : Prop where
  ins : H p = some (.ins C dx fs)
  row : ∀ a ∈ as, H a = some (.lst [])
  nod : as.Nodup
  kp : ∀ b o, H0 b = some o → b ≠ p → H b = some o ∧ b ∉ as
theorem putF_new {f : Str} {v : V} : ∀ (fs : List (Str × V)) (ks : List Str), fs.map Prod.fst = ks → ks.all (fun g => !decide (g = f)) = true → putF f v fs = fs ++ [(f, v)]
  | [], _, _, _ => rfl
  | (g, x) :: r, ks, e, h => by
    subst e
    simp only [List.map_cons, List.all_cons, Bool.and_eq_true, Bool.not_eq_true', decide_eq_false_iff_not] at h
    rw [put_past h.1, putF_new r _ rfl h.2]
    rfl
section
variable {P : Program} {w : World} {K : PySem.W.Frag} {mg : Str → Option Value} {base : Heap} {C CT CM : Addr} {H0 H : Hp} {p dx : Addr} {fs : List (Str × V)} {as : List Addr} {σ : L2.St} {D : Ends}
theorem rd_iL {f : Str} (ks : List Str) (cl : Cls K C) (na : NoAttr K C f) (h0 : σ[0]? = some (some (.ref p))) (h : Pre C H0 H p dx fs as) (hk : fs.map Prod.fst = ks) (hf : ks.all (fun g => !decide (g = f)) = true) (hl : fs.length < 1000)
    (k : ∀ H1 a, Pre C H0 H1 p dx (fs ++ [(f, .ref a)]) (a :: as) → D.nx σ H1) : sFld K (tVar 0) (tLst tNil) f D σ H := by
  refine ⟨(by show 0 ≤ sizeLine; decide), fun a na' => ?_⟩
  have pa : p ≠ a := ne_of_none h.ins na'
  refine ⟨_, h0, p, C, dx, fs, rfl, (by rw [upd_ne pa]; exact h.ins), cl, na, hl, ?_⟩
  rw [putF_new fs ks hk hf]
  have nea : ∀ b ∈ as, b ≠ a := fun b hb => ne_of_none (h.row b hb) na'
  have nep : ∀ b ∈ as, b ≠ p := fun b hb => ne_of (h.row b hb) h.ins (by intro q; cases q)
  refine k _ a ⟨upd_same, fun b hb => ?_, List.nodup_cons.mpr ⟨fun z => nea a z rfl, h.nod⟩, fun b o e hb => ?_⟩
  · rcases List.mem_cons.mp hb with rfl | hb
    · rw [upd_ne pa.symm]
      exact upd_same
    · rw [upd_ne (nep b hb), upd_ne (nea b hb)]
      exact h.row b hb
  · have h1 := h.kp b o e hb
    have ba : b ≠ a := ne_of_none h1.1 na'
    exact ⟨by rw [upd_ne hb, upd_ne ba]; exact h1.1, fun z => (List.mem_cons.mp z).elim ba h1.2⟩
theorem rd_iV {f : Str} {te : TE} (v : V) (ks : List Str) (cl : Cls K C) (na : NoAttr K C f) (h0 : σ[0]? = some (some (.ref p))) (h : Pre C H0 H p dx fs as) (hk : fs.map Prod.fst = ks) (hf : ks.all (fun g => !decide (g = f)) = true) (hl : fs.length < 1000) (ht : ∀ R : V → Hp → Prop, R v H → te σ H R)
    (k : ∀ H1, Pre C H0 H1 p dx (fs ++ [(f, v)]) as → D.nx σ H1) : sFld K (tVar 0) te f D σ H := by
  refine ht _ ⟨_, h0, p, C, dx, fs, rfl, h.ins, cl, na, hl, ?_⟩
  rw [putF_new fs ks hk hf]
  have nep : ∀ b ∈ as, b ≠ p := fun b hb => ne_of (h.row b hb) h.ins (by intro q; cases q)
  exact k _ ⟨upd_same, fun b hb => by rw [upd_ne (nep b hb)]; exact h.row b hb, h.nod, fun b o e hb => ⟨by rw [upd_ne hb]; exact (h.kp b o e hb).1, (h.kp b o e hb).2⟩⟩
theorem scVI : FnScope ["self"] ["self"] (defScope sVI) := ⟨rfl, rfl, rfl, by decide +kernel, rfl, by decide +kernel, by decide +kernel⟩
theorem ok_vi {f : Addr} {fd : FuncData} (F : Fun K "__init__" "Evenline.__init__" sVI f fd) (T : VTxt K mg C CT CM) : FnOk P w K mg base CX0 1 f fd ["self"] (spInitE C) := by
  refine F.ok scVI (fun vs H Q E h => ?_) (fun cdv A outer s H vs Q E hr h => ?_)
  · obtain ⟨p, dx, rfl, _⟩ := h
    rfl
  · obtain ⟨p, dx, rfl, hp, k⟩ := h
    refine ⟨_, pss_cons (ps_fld (pv 0) (pe_lst pa_nil) rfl) (pss_cons (ps_fld (pv 0) (pe_un un_neg pe_int) rfl) (pss_cons (ps_fld (pv 0) (pe_lst pa_nil) rfl) (pss_cons (ps_fld (pv 0) (pe_lst pa_nil) rfl)
      (pss_cons (ps_fld (pv 0) pe_int rfl) (pss_cons (ps_fld (pv 0) (pe_lst pa_nil) rfl) (pss_cons (ps_fld (pv 0) (pe_lst pa_nil) rfl) (pss_cons (ps_fld (pv 0) (pe_un un_neg pe_int) rfl)
      (pss_cons (ps_fld (pv 0) pe_int rfl) (pss_cons (ps_fld (pv 0) pe_str rfl) (pss_one (ps_fld (pv 0) pe_int rfl)))))))))))  , ?_⟩
    have h0 : Pre C H H p dx [] [] := ⟨hp, fun a ha => absurd ha (by simp), List.nodup_nil, fun b o e hb => ⟨e, by simp⟩⟩
    refine rd_iL [] T.cl (T.nR .front) rfl h0 rfl rfl (by decide) fun H1 a1 h1 => ?_
    refine rd_iV (te := tUn (rU fun i => .int (-i)) (tC (.int 1))) (.int (-1)) ["front"] T.cl (T.nN .top) rfl h1 rfl (by decide +kernel) (by show 1 < 1000; decide) (fun R q => ⟨_, rfl, q⟩) fun H2 h2 => ?_
    refine rd_iL ["front", "top"] T.cl (T.nR .back) rfl h2 rfl (by decide +kernel) (by show 2 < 1000; decide) fun H3 a3 h3 => ?_
    refine rd_iL ["front", "top", "back"] T.cl (T.nR .waiting) rfl h3 rfl (by decide +kernel) (by show 3 < 1000; decide) fun H4 a4 h4 => ?_
    refine rd_iV (te := tC (.int 0)) (.int 0) ["front", "top", "back", "waiting"] T.cl (T.nN .left) rfl h4 rfl (by decide +kernel) (by show 4 < 1000; decide) (fun R q => q) fun H5 h5 => ?_
    refine rd_iL ["front", "top", "back", "waiting", "left"] T.cl (T.nR .turned) rfl h5 rfl (by decide +kernel) (by show 5 < 1000; decide) fun H6 a6 h6 => ?_
    refine rd_iL ["front", "top", "back", "waiting", "left", "turned"] T.cl (T.nR .spare) rfl h6 rfl (by decide +kernel) (by show 6 < 1000; decide) fun H7 a7 h7 => ?_
    refine rd_iV (te := tUn (rU fun i => .int (-i)) (tC (.int 1))) (.int (-1)) ["front", "top", "back", "waiting", "left", "turned", "spare"] T.cl (T.nN .reading) rfl h7 rfl (by decide +kernel) (by show 7 < 1000; decide) (fun R q => ⟨_, rfl, q⟩) fun H8 h8 => ?_
    refine rd_iV (te := tC (.int 0)) (.int 0) ["front", "top", "back", "waiting", "left", "turned", "spare", "reading"] T.cl (T.nN .good) rfl h8 rfl (by decide +kernel) (by show 8 < 1000; decide) (fun R q => q) fun H9 h9 => ?_
    refine rd_iV (te := tC (.str "idle")) (.str "idle") ["front", "top", "back", "waiting", "left", "turned", "spare", "reading", "good"] T.cl T.nS rfl h9 rfl (by decide +kernel) (by show 9 < 1000; decide) (fun R q => q) fun H10 h10 => ?_
    refine rd_iV (te := tC (.int 0)) (.int 0) ["front", "top", "back", "waiting", "left", "turned", "spare", "reading", "good", "state"] T.cl (T.nN .last) rfl h10 rfl (by decide +kernel) (by show 10 < 1000; decide) (fun R q => q) fun H11 h11 => ?_
    let L : LF → Addr := fun x => match x with | .front => a1 | .back => a3 | .waiting => a4 | .turned => a6 | .spare => a7
    have hn := h11.nod
    simp only [List.nodup_cons, List.mem_cons, List.not_mem_nil, or_false, not_or] at hn
    refine k H11 (own p L) ⟨L, newE, rfl, ⟨⟨⟨dx, h11.ins⟩, fun x => ?_⟩, fun x y e => ?_⟩, good_new.1, good_new.2.1, rfl⟩ fun b o e hb => ?_
    · cases x <;> exact h11.row _ (by simp [L])
    · obtain ⟨⟨n1, n2, n3, n4⟩, ⟨n5, n6, n7⟩, ⟨n8, n9⟩, n10, _⟩ := hn
      cases x <;> cases y <;> first | rfl | exact absurd e n1 | exact absurd e.symm n1 | exact absurd e n2 | exact absurd e.symm n2 | exact absurd e n3 | exact absurd e.symm n3 | exact absurd e n4 | exact absurd e.symm n4 | exact absurd e n5 | exact absurd e.symm n5 | exact absurd e n6 | exact absurd e.symm n6 | exact absurd e n7 | exact absurd e.symm n7 | exact absurd e n8 | exact absurd e.symm n8 | exact absurd e n9 | exact absurd e.symm n9 | exact absurd e n10 | exact absurd e.symm n10
    · have h1 := h11.kp b o e hb
      refine ⟨h1.1, fun z => ?_⟩
      rcases mem_own.mp z with z | ⟨x, z⟩
      · exact hb z
      · refine h1.2 ?_
        rw [z]
        cases x <;> simp [L]
end
/-! ### done, move, check -/
section
variable {P : Program} {w : World} {K : PySem.W.Frag} {mg : Str → Option Value} {base : Heap} {C CT CM : Addr}
theorem scVDone : FnScope ["self"] ["self"] (defScope sVDone) := ⟨rfl, rfl, rfl, by decide +kernel, rfl, by decide +kernel, by decide +kernel⟩
theorem ok_vdone {f : Addr} {fd : FuncData} (F : Fun K "done" "Evenline.done" sVDone f fd) (T : VTxt K mg C CT CM) : FnOk P w K mg base CX0 1 f fd ["self"] (spDone C) := by
  refine F.ok scVDone (fun vs H Q E h => ?_) (fun cdv A outer s H vs Q E hr h => ?_)
  · obtain ⟨p, L, e, rfl, _⟩ := h
    rfl
  · obtain ⟨p, L, e, rfl, hE, k⟩ := h
    refine ⟨_, pss_cons (ps_fld (pv 0) (pe_fld (pv 0) rfl) rfl)
      (pss_cons (ps_fld (pv 0) (pe_op op_sub (pe_callB call_len_seq (by rfl) T.B.len PySem.boot_len (pa_cons (pe_fld (pv 0) rfl) pa_nil)) pe_int) rfl)
      (pss_cons (ps_asg (pe_tup (pa_cons (pe_lst pa_nil) (pa_cons (pe_lst pa_nil) (pa_cons (pe_lst pa_nil) pa_nil)))) (pg_tup rfl (pgs_cons (pg_fld (pv 0)) (pgs_cons (pg_fld (pv 0)) (pgs_cons (pg_fld (pv 0)) pgs_nil)))))
      (pss_one (ps_fld (pv 0) pe_str rfl)))), ?_⟩
    refine rd_setL0 T .front rfl hE.1 (hE.1.row .turned) (fun R q => rd_row T .turned rfl hE.1 q) fun H1 h1 c1 => ?_
    refine rd_setN0 (te := tOp (rI0 fun i j => .int (i - j)) (tCB (rLenS K) (tCons (tFld K (tVar 0) "turned") tNil)) (tC (.int 1))) T .top ((e.turned.length : Int) - 1) rfl h1 (fun R q => ?_) fun H2 h2 c2 => ?_
    · exact rd_len (Q := fun y H1 => tC (.int 1) _ H1 fun y2 H2 => rI0 (fun i j => .int (i - j)) y y2 H2 R) T .turned rfl h1 ⟨_, _, rfl, rfl, q⟩
    have c12 : ∀ q o, H q = some o → q ≠ p → H2 q = some o := fun q o e n => c2 q o (c1 q o e n) n
    refine ⟨(by show 0 ≤ sizeLine; decide), fun a1 n1 => ⟨(by show 0 ≤ sizeLine; decide), fun a2 n2 => ⟨(by show 0 ≤ sizeLine; decide), fun a3 n3 => ⟨(by show 3 ≤ sizeLine; decide), fun t nt => ?_⟩⟩⟩⟩
    have s1 : Same H2 (upd H2 a1 (.lst [])) := Same.new n1
    have s2 : Same (upd H2 a1 (.lst [])) (upd (upd H2 a1 (.lst [])) a2 (.lst [])) := Same.new n2
    have s3 : Same (upd (upd H2 a1 (.lst [])) a2 (.lst [])) (upd (upd (upd H2 a1 (.lst [])) a2 (.lst [])) a3 (.lst [])) := Same.new n3
    have s4 := Same.new (o := .tup [.ref a1, .ref a2, .ref a3]) nt
    have g1 := s4 _ _ (s3 _ _ (s2 _ _ (upd_same (H := H2) (a := a1) (o := .lst []))))
    have g2 := s4 _ _ (s3 _ _ (upd_same (H := upd H2 a1 (.lst [])) (a := a2) (o := .lst [])))
    have g3 := s4 _ _ (upd_same (H := upd (upd H2 a1 (.lst [])) a2 (.lst [])) (a := a3) (o := .lst []))
    have h4 := (((h2.same s1).same s2).same s3).same s4
    have p4 := h4.ins
    obtain ⟨dx, p4⟩ := p4
    have pa1 : p ≠ a1 := ne_of p4 g1 (by intro q; cases q)
    have pa2 : p ≠ a2 := ne_of p4 g2 (by intro q; cases q)
    have pa3 : p ≠ a3 := ne_of p4 g3 (by intro q; cases q)
    refine ⟨t, _, rfl, SqT.of upd_same, rfl, _, _, rfl, rd_gL (xs := []) T .waiting rfl h4 g1 fun H5 h5 c5 => ⟨_, _, rfl, rd_gL (xs := []) T .turned rfl h5 (c5 _ _ g2 pa2.symm) fun H6 h6 c6 => ⟨_, _, rfl, rd_gL (xs := []) T .spare rfl h6 (c6 _ _ (c5 _ _ g3 pa3.symm) pa3.symm) fun H7 h7 c7 => ⟨rfl, ?_⟩⟩⟩⟩
    refine rd_setS0 T 0 rfl h7 fun H8 h8 c8 => ?_
    have tr : ∀ q o, H q = some o → q ≠ p → H2 q = some o ∧ q ≠ a1 ∧ q ≠ a2 ∧ q ≠ a3 ∧ H8 q = some o := fun q o eq n => by
      have e2 := c12 q o eq n
      have q1 : q ≠ a1 := ne_of_none e2 n1
      have q2 : q ≠ a2 := ne_of_none (s1 _ _ e2) n2
      have q3 : q ≠ a3 := ne_of_none (s2 _ _ (s1 _ _ e2)) n3
      exact ⟨e2, q1, q2, q3, c8 _ _ (c7 _ _ (c6 _ _ (c5 _ _ (s4 _ _ (s3 _ _ (s2 _ _ (s1 _ _ e2)))) n) n) n) n⟩
    have rT := tr _ _ (hE.1.row .turned) (hE.1.ne .turned).symm
    have rB := tr _ _ (hE.1.row .back) (hE.1.ne .back).symm
    have nTB : L .turned ≠ L .back := fun z => by cases hE.2 _ _ z
    have n12 : a1 ≠ a2 := ne_of_none (upd_same (H := H2)) n2
    have n13 : a1 ≠ a3 := ne_of_none (s2 _ _ (upd_same (H := H2) (a := a1) (o := .lst []))) n3
    have n23 : a2 ≠ a3 := ne_of_none (upd_same (H := upd H2 a1 (.lst []))) n3
    refine k H8 (setL (setL (setL (setL L .front (L .turned)) .waiting a1) .turned a2) .spare a3) ⟨h8, fun x y ez => ?_⟩ fun q o eq hq => ?_
    · cases x <;> cases y <;> first | rfl | exact absurd ez nTB | exact absurd ez.symm nTB | exact absurd ez rT.2.1 | exact absurd ez.symm rT.2.1 | exact absurd ez rT.2.2.1 | exact absurd ez.symm rT.2.2.1 | exact absurd ez rT.2.2.2.1 | exact absurd ez.symm rT.2.2.2.1 | exact absurd ez rB.2.1 | exact absurd ez.symm rB.2.1 | exact absurd ez rB.2.2.1 | exact absurd ez.symm rB.2.2.1 | exact absurd ez rB.2.2.2.1 | exact absurd ez.symm rB.2.2.2.1 | exact absurd ez n12 | exact absurd ez.symm n12 | exact absurd ez n13 | exact absurd ez.symm n13 | exact absurd ez n23 | exact absurd ez.symm n23
    · have qp : q ≠ p := fun z => hq (mem_own.mpr (.inl z))
      have r := tr q o eq qp
      refine ⟨r.2.2.2.2, fun z => ?_⟩
      rcases mem_own.mp z with z | ⟨x, z⟩
      · exact qp z
      · cases x with
        | front => exact hq (mem_own.mpr (.inr ⟨.turned, z⟩))
        | back => exact hq (mem_own.mpr (.inr ⟨.back, z⟩))
        | waiting => exact r.2.1 z
        | turned => exact r.2.2.1 z
        | spare => exact r.2.2.2.1 z
end
end Hf
/-! ## Evenline: move, check, put, take, what is told -/
namespace Hf
open PySem PySem.Spec PyProof.Rows L2
section
variable {P : Program} {w : World} {K : PySem.W.Frag} {mg : Str → Option Value} {base : Heap} {C CT CM : Addr}
theorem scVMove : FnScope ["self"] ["self"] (defScope sVMove) := ⟨rfl, rfl, rfl, by decide +kernel, rfl, by decide +kernel, by decide +kernel⟩
theorem ok_vmove {f fO : Addr} {fd fdO : FuncData} (F : Fun K "move" "Evenline.move" sVMove f fd) (T : VTxt K mg C CT CM)
    (FO : Fun K "done" "Evenline.done" sVDone fO fdO) (bO : Binds K fdO ["self"] []) (mO : Meth K C "done" fO) : FnOk P w K mg base CX0 2 f fd ["self"] (spMove C) := by
  have GO : FnOk P w K mg base CX0 1 fO fdO ["self"] (spDone C) := ok_vdone FO T
  refine F.ok scVMove (fun vs H Q E h => ?_) (fun cdv A outer s H vs Q E hr h => ?_)
  · obtain ⟨p, L, e, rfl, _⟩ := h
    rfl
  · obtain ⟨p, L, e, rfl, hE, ok, k⟩ := h
    refine ⟨_, pss_one (ps_if (PW.pt (pw_and (pt_cmpR op_eq (pe_fld (pv 0) rfl) pe_str (nomark _)) (pw_and1 (pt_cmpR op_ge (pe_fld (pv 0) rfl) pe_int (nomark _)))))
      (pss_cons (ps_expr (pe_bm PySem.F.plainAttrs_list PySem.F.slot_list_append PySem.F.type_list_append mt_append (pe_fld (pv 0) rfl) (pa_cons (pe_ix ix_list (pe_fld (pv 0) rfl) (pe_fld (pv 0) rfl) (fun _ _ => rfl)) pa_nil)))
      (pss_cons (ps_fld (pv 0) (pe_op op_sub (pe_fld (pv 0) rfl) pe_int) rfl)
      (pss_cons (ps_fld (pv 0) (pe_op op_add (pe_fld (pv 0) rfl) pe_int) rfl)
      (pss_cons (ps_fld (pv 0) (pe_op op_sub (pe_fld (pv 0) rfl) pe_int) rfl)
      (pss_cons (ps_expr (pe_bm PySem.F.plainAttrs_list PySem.F.slot_list_append PySem.F.type_list_append mt_append (pe_fld (pv 0) rfl) (pa_cons (pe_ix ix_list (pe_fld (pv 0) rfl) (pe_fld (pv 0) rfl) (fun _ _ => rfl)) pa_nil)))
      (pss_one (ps_fld (pv 0) (pe_op op_add (pe_fld (pv 0) rfl) pe_int) rfl)))))))
      (pss_one (ps_if (pt_cmpR op_eq (pe_fld (pv 0) rfl) pe_str (nomark _))
        (pss_cons (ps_fld (pv 0) (pe_op op_sub (pe_fld (pv 0) rfl) pe_int) rfl)
        (pss_cons (ps_expr (pe_bm PySem.F.plainAttrs_list PySem.F.slot_list_append PySem.F.type_list_append mt_append (pe_fld (pv 0) rfl) (pa_cons (pe_ix ix_list (pe_fld (pv 0) rfl) (pe_fld (pv 0) rfl) (fun _ _ => rfl)) pa_nil)))
        (pss_cons (ps_fld (pv 0) (pe_op op_add (pe_fld (pv 0) rfl) pe_int) rfl)
        (pss_one (ps_fld (pv 0) pe_str rfl)))))
        (pss_one (ps_if (PW.pt (pw_and (pt_cmpR op_eq (pe_fld (pv 0) rfl) pe_str (nomark _)) (pw_and1 (pt_cmpR op_gt (pe_fld (pv 0) rfl) pe_int (nomark _)))))
          (pss_cons (ps_expr (pe_bm PySem.F.plainAttrs_list PySem.F.slot_list_append PySem.F.type_list_append mt_append (pe_fld (pv 0) rfl) (pa_cons (pe_bm0 PySem.F.plainAttrs_list PySem.F.slot_list_pop PySem.F.type_list_pop mt_pop (pe_fld (pv 0) rfl)) pa_nil)))
          (pss_cons (ps_fld (pv 0) (pe_op op_sub (pe_fld (pv 0) rfl) pe_int) rfl)
          (pss_one (ps_fld (pv 0) (pe_op op_add (pe_fld (pv 0) rfl) pe_int) rfl))))
          (pss_one (ps_if (pt_cmpR op_eq (pe_fld (pv 0) rfl) pe_str (nomark _)) (pss_one (ps_expr (pe_meth0 (pv 0) T.cl mO GO hr bO .nil pass0))) pss_nil))))))), ?_⟩
    have hnn : ∀ n : Nat, n ≤ 2 → n = 0 ∨ n = 1 ∨ n = 2 := fun n h => by omega
    refine rd_is T 1 rfl hE.1 ok.st ?_
    rcases hnn e.st ok.st with c | c | c
    · rw [decide_eq_false (by omega : ¬ e.st = 1)]
      refine iteF (iteF (rd_is T 1 rfl hE.1 ok.st ?_))
      rw [decide_eq_false (by omega : ¬ e.st = 1)]
      refine iteF (rd_is T 2 rfl hE.1 ok.st ?_)
      rw [decide_eq_false (by omega : ¬ e.st = 2)]
      refine iteF (iteF (rd_is T 2 rfl hE.1 ok.st ?_))
      rw [decide_eq_false (by omega : ¬ e.st = 2)]
      have em : moveE e = e := by
        unfold moveE
        rw [if_neg (by omega), if_neg (by omega)]
      exact iteF (k H L (by rw [em]; exact hE) (Step.refl _ _))
    · rw [decide_eq_true c]
      refine iteT (rd_tN T .reading rfl hE.1 ⟨_, _, rfl, rfl, _, rfl, ?_⟩)
      have hlf := ok.lf c
      refine ite2 (fun h => ?_) fun h => ?_
      · have h : (0 : Int) ≤ e.reading := of_decide_eq_true h
        have hrd := ok.rd c h
        refine rd_app (te := tOp (rIxL K) (tFld K (tVar 0) "front") (tFld K (tVar 0) "reading")) (v := e.front.getD e.reading.toNat 0) T .spare rfl hE (fun R q => rd_at T .front .reading e.reading.toNat rfl hE.1 (by show e.reading = _; omega) hrd (q H hE (Step.refl _ _))) ok.szS fun H1 h1 s1 => ?_
        refine rd_sub T .reading 1 rfl h1 fun H2 h2 s2 => ?_
        refine rd_add T .good 1 rfl h2 fun H3 h3 s3 => ?_
        refine rd_sub T .left 1 rfl h3 fun H4 h4 s4 => ?_
        refine rd_app (te := tOp (rIxL K) (tFld K (tVar 0) "waiting") (tFld K (tVar 0) "left")) (v := e.waiting.getD (e.left - 1).toNat 0) T .turned rfl h4 (fun R q => rd_at T .waiting .left (e.left - 1).toNat rfl h4.1 (by show e.left - 1 = _; omega) hlf.2 (q H4 h4 (Step.refl _ _))) ok.szT fun H5 h5 s5 => ?_
        refine rd_add T .last 2 rfl h5 fun H6 h6 s6 => ?_
        refine k H6 L ?_ ((((s1.trans s2).trans s3).trans s4).trans (s5.trans s6))
        unfold moveE
        rw [if_pos c, if_pos h]
        exact h6
      · have h : ¬ (0 : Int) ≤ e.reading := of_decide_eq_false (by simpa using h)
        refine rd_is T 1 rfl hE.1 ok.st ?_
        rw [decide_eq_true c]
        refine iteT (rd_sub T .left 1 rfl hE fun H4 h4 s4 => ?_)
        refine rd_app (te := tOp (rIxL K) (tFld K (tVar 0) "waiting") (tFld K (tVar 0) "left")) (v := e.waiting.getD (e.left - 1).toNat 0) T .turned rfl h4 (fun R q => rd_at T .waiting .left (e.left - 1).toNat rfl h4.1 (by show e.left - 1 = _; omega) hlf.2 (q H4 h4 (Step.refl _ _))) ok.szT fun H5 h5 s5 => ?_
        refine rd_add T .last 1 rfl h5 fun H6 h6 s6 => ?_
        refine rd_setS (L := L) T 2 rfl h6 fun H7 h7 s7 => ?_
        refine k H7 L ?_ ((s4.trans s5).trans (s6.trans s7))
        unfold moveE
        rw [if_pos c, if_neg h]
        exact h7
    · rw [decide_eq_false (by omega : ¬ e.st = 1)]
      refine iteF (iteF (rd_is T 1 rfl hE.1 ok.st ?_))
      rw [decide_eq_false (by omega : ¬ e.st = 1)]
      refine iteF (rd_is T 2 rfl hE.1 ok.st ?_)
      rw [decide_eq_true c]
      refine iteT (rd_tN T .good rfl hE.1 ⟨_, _, rfl, rfl, _, rfl, ?_⟩)
      refine ite2 (fun h => ?_) fun h => ?_
      · have h : (0 : Int) < e.good := of_decide_eq_true h
        refine rd_app (te := tBM0 K "list" rPop (tFld K (tVar 0) "spare")) (e1 := e.setR .spare e.spare.dropLast) (v := e.spare.getLastD 0) T .turned rfl hE (fun R q => rd_pop T .spare rfl hE (ok.sp c h) q) ok.szT fun H5 h5 s5 => ?_
        refine rd_sub T .good 1 rfl h5 fun H6 h6 s6 => ?_
        refine rd_add T .last 1 rfl h6 fun H7 h7 s7 => ?_
        refine k H7 L ?_ ((s5.trans s6).trans s7)
        unfold moveE
        rw [if_neg (by omega), if_pos c, if_pos h]
        exact h7
      · have h : ¬ (0 : Int) < e.good := of_decide_eq_false (by simpa using h)
        refine rd_is T 2 rfl hE.1 ok.st ?_
        rw [decide_eq_true c]
        refine iteT (rd_done (p := p) rfl hE fun H1 L1 h1 s1 => ?_)
        refine k H1 L1 ?_ s1
        unfold moveE
        rw [if_neg (by omega), if_pos c, if_neg h]
        exact h1
theorem scVCheck : FnScope ["self", "ahead"] ["self"] (defScope sVCheck) := ⟨rfl, rfl, rfl, by decide +kernel, rfl, by decide +kernel, by decide +kernel⟩
theorem ok_vcheck {f fO fM : Addr} {fd fdO fdM : FuncData} (F : Fun K "check" "Evenline.check" sVCheck f fd) (T : VTxt K mg C CT CM)
    (FO : Fun K "done" "Evenline.done" sVDone fO fdO) (bO : Binds K fdO ["self"] []) (mO : Meth K C "done" fO)
    (FM : Fun K "move" "Evenline.move" sVMove fM fdM) (bM : Binds K fdM ["self"] []) (mM : Meth K C "move" fM) : FnOk P w K mg base CX0 3 f fd ["self"] (spCheck C) := by
  have GO : FnOk P w K mg base CX0 1 fO fdO ["self"] (spDone C) := ok_vdone FO T
  have GM : FnOk P w K mg base CX0 2 fM fdM ["self"] (spMove C) := ok_vmove FM T FO bO mO
  refine F.ok scVCheck (fun vs H Q E h => ?_) (fun cdv A outer s H vs Q E hr h => ?_)
  · obtain ⟨p, L, e, rfl, _⟩ := h
    rfl
  · obtain ⟨p, L, e, rfl, hE, ck, hst, k⟩ := h
    have hr1 : Room 1 _ := hr.mono (by decide)
    refine ⟨_, C8.pss_cut (ps_set (i := 1) scVCheck.nd rfl (Or.inl rfl) (pe_op op_add (pe_op op_add (pe_fld (pv 0) rfl) pe_int) (pe_ifExp (pt_cmpR op_ne (pe_fld (pv 0) rfl) pe_str (nomark _)) (pe_callB call_len_seq (by rfl) T.B.len PySem.boot_len (pa_cons (pe_fld (pv 0) rfl) pa_nil)) pe_int)))
      (C8.pss_cut (ps_if (PW.pt (pw_and (pt_cmpR op_eq (pe_fld (pv 0) rfl) pe_str (nomark _)) (pw_and1 (pt_cmpR op_gt (pe_callB call_len_seq (by rfl) T.B.len PySem.boot_len (pa_cons (pe_fld (pv 0) rfl) pa_nil)) (pv 1) (nomark _)))))
        (pss_cons (ps_asg (pe_tup (pa_cons (pe_fld (pv 0) rfl) (pa_cons (pe_lst pa_nil) pa_nil))) (pg_tup rfl (pgs_cons (pg_fld (pv 0)) (pgs_cons (pg_fld (pv 0)) pgs_nil))))
        (pss_cons (ps_asg (pe_tup (pa_cons (pe_callB call_len_seq (by rfl) T.B.len PySem.boot_len (pa_cons (pe_fld (pv 0) rfl) pa_nil)) (pa_cons pe_int pa_nil))) (pg_tup rfl (pgs_cons (pg_fld (pv 0)) (pgs_cons (pg_fld (pv 0)) pgs_nil))))
        (pss_cons (ps_asg (pe_tup (pa_cons (pe_lst pa_nil) (pa_cons (pe_lst pa_nil) pa_nil))) (pg_tup rfl (pgs_cons (pg_fld (pv 0)) (pgs_cons (pg_fld (pv 0)) pgs_nil))))
        (pss_cons (ps_fld (pv 0) (pe_fld (pv 0) rfl) rfl)
        (pss_one (ps_fld (pv 0) pe_str rfl)))))) pss_nil)
      (pss_cons (ps_expr (pe_meth0 (pv 0) T.cl mM GM hr bM .nil pass0))
      (pss_cons (ps_expr (pe_meth0 (pv 0) T.cl mM GM hr bM .nil pass0))
      (pss_one (ps_if (PW.pt (pw_and (pt_cmpR op_eq (pe_fld (pv 0) rfl) pe_str (nomark _)) (pw_and1 (pt_cmpR op_eq (pe_fld (pv 0) rfl) pe_int (nomark _)))))
        (pss_one (ps_expr (pe_meth0 (pv 0) T.cl mO GO hr1 bO .nil pass0))) pss_nil))))), ?_⟩
    obtain ⟨dx, hp⟩ := hE.1.ins
    refine ⟨fun σ' H' => ∃ ah : Int, σ' = [some (.ref p), some (.int ah)] ∧ H' = H ∧ (e.st = 0 → ah = e.top + 1), ?_, ?_⟩
    · refine ⟨_, rfl, p, C, dx, _, _, rfl, hp, T.cl, T.nN .top, eF_num _ _ .top, _, _, rfl, rfl, rd_isnt T 0 rfl hE.1 hst ?_⟩
      by_cases c : e.st = 0
      · rw [decide_eq_true c]
        exact iteF ⟨_, _, rfl, rfl, _, rfl, rfl, fun _ => Int.add_zero _⟩
      · rw [decide_eq_false c]
        refine iteT (rd_len T .waiting rfl hE.1 ⟨_, _, rfl, rfl, _, rfl, rfl, fun z => absurd z c⟩)
    rintro σ1 H1 ⟨ah, rfl, rfl, hah⟩
    refine ⟨fun σ' H' => ∃ (L1 : LF → Addr), σ' = [some (.ref p), some (.int ah)] ∧ EvAt C H' p L1 (startE e) ∧ Step H1 (own p L) H' (own p L1), ?_, ?_⟩
    · refine rd_is T 0 rfl hE.1 hst ?_
      by_cases c : e.st = 0
      rotate_left
      · rw [decide_eq_false c]
        have es : startE e = e := start_no c
        exact iteF (iteF ⟨L, rfl, by rw [es]; exact hE, Step.refl _ _⟩)
      rw [decide_eq_true c]
      have hah := hah c
      refine iteT (rd_len (Q := fun y H1 => tVar 1 _ H1 fun y2 H2 => rI0 (fun i j => .bl (decide (j < i))) y y2 H2 _) T .back rfl hE.1 ⟨_, rfl, _, _, rfl, rfl, _, rfl, ite2 (fun h => ?_) fun h => ?_⟩)
      rotate_left
      · have h : ¬ ah < ((e.back.length : Nat) : Int) := of_decide_eq_false (by simpa using h)
        have es : startE e = e := if_neg (fun z => by omega)
        exact ⟨L, rfl, by rw [es]; exact hE, Step.refl _ _⟩
      have h : ah < ((e.back.length : Nat) : Int) := of_decide_eq_true h
      -- turning about begins
      refine ⟨_, rfl, p, C, dx, _, _, rfl, hp, T.cl, T.nR .back, eF_row _ _ .back, (by show 0 ≤ sizeLine; decide), fun a1 n1 => ⟨(by show 2 ≤ sizeLine; decide), fun t1 nt1 => ?_⟩⟩
      have s1 := (Same.new (o := .lst []) n1).trans (Same.new (o := .tup [.ref (L .back), .ref a1]) nt1)
      have h2 := hE.1.same s1
      have g1 : upd (upd H1 a1 (.lst [])) t1 (.tup [.ref (L .back), .ref a1]) a1 = some (.lst (([] : List Int).map V.int)) := Same.new nt1 _ _ upd_same
      have pa1 : p ≠ a1 := ne_of_none hp n1
      refine ⟨t1, _, rfl, SqT.of upd_same, rfl, _, _, rfl, rd_gL T .waiting rfl h2 (h2.row .back) fun H3 h3 c3 => ⟨_, _, rfl, rd_gL (xs := []) T .back rfl h3 (c3 _ _ g1 pa1.symm) fun H4 h4 c4 => ⟨rfl, ?_⟩⟩⟩
      obtain ⟨dx4, p4⟩ := h4.ins
      refine ⟨_, rfl, p, C, dx4, _, _, rfl, p4, T.cl, T.nR .waiting, eF_row _ _ .waiting, _, _, rfl, .inl (SqL.of (h4.row .waiting)), ?_⟩
      rw [List.length_map]
      refine ⟨(by show 2 ≤ sizeLine; decide), fun t2 nt2 => ?_⟩
      have s5 := Same.new (o := .tup [.int ((e.back.length : Nat) : Int), .int 0]) nt2
      have h5 := h4.same s5
      refine ⟨t2, _, rfl, SqT.of upd_same, rfl, _, _, rfl, rd_gN T .left _ rfl h5 fun H6 h6 c6 => ⟨_, _, rfl, rd_gN T .good _ rfl h6 fun H7 h7 c7 => ⟨rfl, ?_⟩⟩⟩
      refine ⟨(by show 0 ≤ sizeLine; decide), fun a2 n2 => ⟨(by show 0 ≤ sizeLine; decide), fun a3 n3 => ⟨(by show 2 ≤ sizeLine; decide), fun t3 nt3 => ?_⟩⟩⟩
      have s8 : Same H7 (upd H7 a2 (.lst [])) := Same.new n2
      have s9 : Same (upd H7 a2 (.lst [])) (upd (upd H7 a2 (.lst [])) a3 (.lst [])) := Same.new n3
      have s10 := Same.new (o := .tup [.ref a2, .ref a3]) nt3
      have g2 := s10 _ _ (s9 _ _ (upd_same (H := H7) (a := a2) (o := .lst [])))
      have g3 := s10 _ _ (upd_same (H := upd H7 a2 (.lst [])) (a := a3) (o := .lst []))
      have h10 := ((h7.same s8).same s9).same s10
      obtain ⟨dx10, p10⟩ := h10.ins
      have pa3 : p ≠ a3 := ne_of p10 g3 (by intro q; cases q)
      refine ⟨t3, _, rfl, SqT.of upd_same, rfl, _, _, rfl, rd_gL (xs := []) T .turned rfl h10 g2 fun H11 h11 c11 => ⟨_, _, rfl, rd_gL (xs := []) T .spare rfl h11 (c11 _ _ g3 pa3.symm) fun H12 h12 c12 => ⟨rfl, ?_⟩⟩⟩
      refine rd_setN0 (te := tFld K (tVar 0) "top") T .reading e.top rfl h12 (fun R q => rd_num T .top rfl h12 q) fun H13 h13 c13 => ?_
      refine rd_setS0 T 1 rfl h13 fun H14 h14 c14 => ?_
      have tr : ∀ q o, H1 q = some o → q ≠ p → q ≠ a1 ∧ q ≠ a2 ∧ q ≠ a3 ∧ H14 q = some o := fun q o eq n => by
        have q1 : q ≠ a1 := ne_of_none eq n1
        have e7 := c7 _ _ (c6 _ _ (s5 _ _ (c4 _ _ (c3 _ _ (s1 _ _ eq) n) n)) n) n
        have q2 : q ≠ a2 := ne_of_none e7 n2
        have q3 : q ≠ a3 := ne_of_none (s8 _ _ e7) n3
        exact ⟨q1, q2, q3, c14 _ _ (c13 _ _ (c12 _ _ (c11 _ _ (s10 _ _ (s9 _ _ (s8 _ _ e7))) n) n) n) n⟩
      have r1 : a1 ≠ a2 ∧ a1 ≠ a3 := by
        have e7 := c7 _ _ (c6 _ _ (s5 _ _ (c4 _ _ (c3 _ _ g1 pa1.symm) pa1.symm)) pa1.symm) pa1.symm
        exact ⟨ne_of_none e7 n2, ne_of_none (s8 _ _ e7) n3⟩
      have rB := tr _ _ (hE.1.row .back) (hE.1.ne .back).symm
      have rF := tr _ _ (hE.1.row .front) (hE.1.ne .front).symm
      have nFB : L .front ≠ L .back := fun z => by cases hE.2 _ _ z
      have n23 : a2 ≠ a3 := ne_of_none (upd_same (H := H7)) n3
      have es : startE e = { e with waiting := e.back, back := [], left := (e.back.length : Int), good := 0, turned := [], spare := [], reading := e.top, st := 1 } := if_pos ⟨c, by omega⟩
      refine ⟨setL (setL (setL (setL L .waiting (L .back)) .back a1) .turned a2) .spare a3, rfl, ⟨by rw [es]; exact h14, fun x y ez => ?_⟩, fun q o eq hq => ?_⟩
      · cases x <;> cases y <;> first | rfl | exact absurd ez nFB | exact absurd ez.symm nFB | exact absurd ez rB.1 | exact absurd ez.symm rB.1 | exact absurd ez rB.2.1 | exact absurd ez.symm rB.2.1 | exact absurd ez rB.2.2.1 | exact absurd ez.symm rB.2.2.1 | exact absurd ez rF.1 | exact absurd ez.symm rF.1 | exact absurd ez rF.2.1 | exact absurd ez.symm rF.2.1 | exact absurd ez rF.2.2.1 | exact absurd ez.symm rF.2.2.1 | exact absurd ez r1.1 | exact absurd ez.symm r1.1 | exact absurd ez r1.2 | exact absurd ez.symm r1.2 | exact absurd ez n23 | exact absurd ez.symm n23
      · have qp : q ≠ p := fun z => hq (mem_own.mpr (.inl z))
        have r := tr q o eq qp
        refine ⟨r.2.2.2, fun z => ?_⟩
        rcases mem_own.mp z with z | ⟨x, z⟩
        · exact qp z
        · cases x with
          | front => exact hq (mem_own.mpr (.inr ⟨.front, z⟩))
          | back => exact r.1 z
          | waiting => exact hq (mem_own.mpr (.inr ⟨.back, z⟩))
          | turned => exact r.2.1 z
          | spare => exact r.2.2.1 z
    rintro σ2 H2 ⟨L1, rfl, h1, st1⟩
    refine rd_move (p := p) rfl h1 ck.ok1 fun H3 L3 h3 st3 => ?_
    refine rd_move (p := p) rfl h3 ck.ok2 fun H4 L4 h4 st4 => ?_
    have st14 := (st1.trans st3).trans st4
    have hs4 : (moveE (moveE (startE e))).st ≤ 2 := by
      have := ck.ok2.st
      generalize moveE (startE e) = u at this ⊢
      unfold moveE
      split
      · split
        · exact this
        · exact Nat.le_refl 2
      · split
        · split
          · exact this
          · exact Nat.zero_le 2
        · exact this
    refine rd_is T 2 rfl h4.1 hs4 ?_
    by_cases c : (moveE (moveE (startE e))).st = 2
    · rw [decide_eq_true c]
      refine iteT (rd_tN T .good rfl h4.1 ⟨rfl, _, rfl, ite2 (fun h => ?_) fun h => ?_⟩)
      · have h : (moveE (moveE (startE e))).good = 0 := V.int.inj (of_decide_eq_true h)
        refine rd_done (p := p) rfl h4 fun H5 L5 h5 st5 => ?_
        refine k H5 L5 ?_ (st14.trans st5)
        rw [check_done ⟨c, h⟩]
        exact h5
      · have h : ¬ (moveE (moveE (startE e))).good = 0 := fun z => h (decide_eq_true (congrArg V.int z))
        refine k H4 L4 ?_ st14
        rw [check_stop (fun z => h z.2)]
        exact h4
    · rw [decide_eq_false c]
      refine iteF (iteF (k H4 L4 ?_ st14))
      rw [check_stop (fun z => c z.1)]
      exact h4
end
end Hf
/-! ## the law's deeds -/
namespace Hf
open PySem PySem.Spec PyProof.Rows L2
/-! ### how large -/
theorem bits_pow {n : Int} : n.natAbs < 2 ^ Builtin.Int.intBits n := by
  unfold Builtin.Int.intBits
  split
  · rename_i h
    have : n = 0 := by simpa using h
    subst this
    decide
  · exact Nat.lt_log2_self
theorem bd_mono {n : Int} {a b : Nat} (h : n.natAbs < 2 ^ a) (l : a ≤ b) : n.natAbs < 2 ^ b := Nat.lt_of_lt_of_le h (Nat.pow_le_pow_right (by decide) l)
theorem bd_add {x y : Int} {a : Nat} (hx : x.natAbs < 2 ^ a) (hy : y.natAbs < 2 ^ a) : (x + y).natAbs < 2 ^ (a + 1) := by
  have h := Int.natAbs_add_le x y
  rw [Nat.pow_succ]
  omega
def spNum : Sp := fun vs H Q _ => ∃ cell at_ whole : Int, vs = [.int cell, .int at_, .int whole] ∧ Builtin.Int.intBits cell ≤ 1048576 ∧ 0 ≤ at_ ∧ at_ < 1000 ∧ ∀ n : Int, Q (.int n) H
abbrev sNum : Stmt := top 13
abbrev sDeeds : Stmt := top 14
structure DTxt (mg : Str → Option Value) : Prop where
  abs : mg "abs" = none
  sum : mg "sum" = none
  enum : mg "enumerate" = none
  int : mg "int" = none
structure Deed where
  kind : Int
  fr : Bool
  thing : Int
def Deed.ok (d : Deed) : Prop := d.kind = 0 ∨ d.kind = 1
def dV (d : Deed) : List V := [.int d.kind, .str (endS d.fr), .int d.thing]
def DeedsAt (H : Hp) (l : Addr) (rs : List Addr) (ds : List Deed) : Prop := H l = some (.lst (rs.map V.ref)) ∧ rs.length = ds.length ∧ ∀ (i : Nat) (r : Addr), rs[i]? = some r → ∃ d, ds[i]? = some d ∧ H r = some (.tup (dV d))
theorem DeedsAt.same {H H' : Hp} {l : Addr} {rs : List Addr} {ds : List Deed} (h : DeedsAt H l rs ds) (s : Same H H') : DeedsAt H' l rs ds :=
  ⟨s _ _ h.1, h.2.1, fun i r e => let ⟨d, e1, e2⟩ := h.2.2 i r e; ⟨d, e1, s _ _ e2⟩⟩
/-- as long as neither the list nor the deeds are the object's own -/
theorem DeedsAt.step {H H' : Hp} {A A' : List Addr} {l : Addr} {rs : List Addr} {ds : List Deed} (h : DeedsAt H l rs ds) (s : Step H A H' A') (hl : l ∉ A) (hr : ∀ r ∈ rs, r ∉ A) : DeedsAt H' l rs ds :=
  ⟨(s _ _ h.1 hl).1, h.2.1, fun i r e => let ⟨d, e1, e2⟩ := h.2.2 i r e; ⟨d, e1, (s _ _ e2 (hr r (List.mem_of_getElem? e))).1⟩⟩
def spDeeds (K : PySem.W.Frag) : Sp := fun vs H Q _ => ∃ (a : Addr) (ns : List Int) (by_ : Int), vs = [.ref a, .int by_] ∧ SqL K H a (ns.map V.int) ∧ ns.length ≤ 63 ∧ (∀ n ∈ ns, Builtin.Int.intBits n ≤ 1048576) ∧ 0 ≤ by_ ∧ by_ ≤ 10 ∧
  ∀ (H' : Hp) (l : Addr) (rs : List Addr) (ds : List Deed), Same H H' → DeedsAt H' l rs ds → H l = none → (∀ r ∈ rs, H r = none) → (∀ d ∈ ds, d.ok) → ds.length ≤ 128 → Q (.ref l) H'
section
variable {P : Program} {w : World} {K : PySem.W.Frag} {mg : Str → Option Value} {base : Heap}
theorem scNum : FnScope ["_law_cell", "_law_at", "_law_whole", "_law_blend", "_law_more"] ["_law_cell", "_law_at", "_law_whole"] (defScope sNum) := ⟨rfl, rfl, rfl, by decide +kernel, rfl, by decide +kernel, by decide +kernel⟩
theorem ok_num {f : Addr} {fd : FuncData} (F : Fun K "_law_number" "_law_number" sNum f fd) : FnOk P w K mg base CX0 1 f fd ["_law_cell", "_law_at", "_law_whole"] spNum := by
  refine F.ok scNum (fun vs H Q E h => ?_) (fun cdv A outer s H vs Q E hr h => ?_)
  · obtain ⟨c, a, w, rfl, _⟩ := h
    rfl
  · obtain ⟨c, a, w, rfl, hb, h0, h1, k⟩ := h
    refine ⟨_, pss_cons (ps_if (pt_cmpR op_ge (pv 0) (pe_op op_pow pe_int pe_int) (nomark _)) (pss_one (ps_ret (pe_op op_fdiv (pv 0) (pe_op op_add pe_int (pe_op op_mod (pv 1) pe_int))))) pss_nil)
      (pss_cons (ps_set (i := 3) scNum.nd rfl (Or.inl rfl) (pe_op op_mod (pe_op op_add (pe_op op_mul (pe_op op_add (pv 0) (pe_op op_mul pe_int (pv 1))) pe_int) (pv 2)) pe_int))
      (pss_cons (ps_set (i := 4) scNum.nd rfl (Or.inl rfl) (pe_op op_mul (pv 3) (pe_op op_add (pe_op op_add (pv 0) (pe_op op_mul pe_int (pv 1))) pe_int)))
      (pss_one (ps_ret (pe_op op_fdiv (pe_op op_mul (pe_op op_mulX (pv 4) (pe_op op_add (pe_op op_add (pv 3) (pv 0)) pe_int)) (pe_op op_add (pe_op op_mul (pv 3) (pv 3)) pe_int)) (pe_op op_add pe_int (pv 1))))))), ?_⟩
    refine ⟨_, rfl, _, _, rfl, rfl, ⟨by decide, by decide, by decide⟩, _, _, rfl, rfl, _, rfl, ite2 (fun _ => ?_) fun _ => ?_⟩
    · have h7 := Int.emod_nonneg a (show (7 : Int) ≠ 0 by decide)
      have h8 := Int.emod_lt_of_pos a (show (0 : Int) < 7 by decide)
      exact ⟨_, rfl, _, rfl, _, _, rfl, rfl, (by show (0 : Int) < 7; decide), _, _, rfl, rfl, _, _, rfl, rfl, ⟨by omega, by omega⟩, k _⟩
    · refine ⟨_, rfl, _, rfl, _, _, rfl, rfl, .inl ⟨by decide, by decide⟩, _, _, rfl, rfl, _, _, rfl, rfl, .inr ⟨by decide, by decide⟩, _, rfl, _, _, rfl, rfl, _, _, rfl, rfl, (by show (0 : Int) < 2147483647; decide), ?_⟩
      have hm0 := Int.emod_nonneg ((c + 977 * a) * 48271 + w) (show (2147483647 : Int) ≠ 0 by decide)
      have hm1 := Int.emod_lt_of_pos ((c + 977 * a) * 48271 + w) (show (0 : Int) < 2147483647 by decide)
      generalize hg : ((c + 977 * a) * 48271 + w) % 2147483647 = bl at hm0 hm1
      refine ⟨_, rfl, _, rfl, _, rfl, _, _, rfl, rfl, .inl ⟨by decide, by decide⟩, _, _, rfl, rfl, _, _, rfl, rfl, _, _, rfl, rfl, .inl ⟨by rw [hg]; omega, by rw [hg]; omega⟩, ?_⟩
      have b0 : c.natAbs < 2 ^ (Builtin.Int.intBits c + 40) := bd_mono bits_pow (by omega)
      have sm : ∀ x : Int, x.natAbs < 2 ^ 40 → x.natAbs < 2 ^ (Builtin.Int.intBits c + 40) := fun x hx => bd_mono hx (by omega)
      have e40 : (2 : Nat) ^ 40 = 1099511627776 := by decide
      have b1 : (c + 31 * a + 7).natAbs < 2 ^ (Builtin.Int.intBits c + 40 + 1) := by
        rw [Int.add_assoc]
        exact bd_add b0 (sm _ (by rw [e40]; omega))
      have b2 : (bl * (c + 31 * a + 7)).natAbs < 2 ^ (40 + (Builtin.Int.intBits c + 40 + 1)) := wide_lt (by rw [e40]; omega) b1
      have b3 : (bl + c + 5).natAbs < 2 ^ (Builtin.Int.intBits c + 40 + 1) := by
        rw [show bl + c + 5 = c + (bl + 5) by omega]
        exact bd_add b0 (sm _ (by rw [e40]; omega))
      have hbb : bl * bl < 2 ^ 64 - 11 := by
        have : bl * bl ≤ 2147483647 * 2147483647 := Int.mul_le_mul (by omega) (by omega) hm0 (by decide)
        omega
      have hb0 : 0 ≤ bl * bl := Int.mul_nonneg hm0 hm0
      refine ⟨_, rfl, _, rfl, _, rfl, _, _, rfl, rfl, _, _, rfl, rfl, _, _, rfl, rfl, ?_, _, rfl, _, rfl, _, _, rfl, rfl, .inl ⟨by rw [hg]; omega, by rw [hg]; omega⟩, _, _, rfl, rfl, _, _, rfl, rfl, .inr ⟨by rw [hg]; omega, by rw [hg]; omega⟩, _, rfl, _, _, rfl, rfl, _, _, rfl, rfl, ⟨by omega, by omega⟩, k _⟩
      rw [hg]
      exact mulx_ok b2 b3 (by omega)
/-! ### _law_deeds -/
/-- script[:63] if script != [] else [5] -/
def t_base (K : PySem.W.Frag) : TE := tIf (tTest (tOp (rNeI K) (tVar 0) (tLst tNil))) (tSl (rSlL K) (tVar 0) tNoPart (tPart (tC (.int 63)))) (tLst (tCons (tC (.int 5)) tNil))
theorem cut63 {ns : List Int} (h : ns.length ≤ 63) : cutV (ns.map V.int) none (some (63 : Int)) = ns.map V.int := by
  have e := cut_to (ns.map V.int) 63
  rw [List.take_of_length_le (by rw [List.length_map]; exact h)] at e
  exact e
theorem rd_base {σ : L2.St} {H : Hp} {a : Addr} {ns : List Int} {Q : VK} (h0 : σ[0]? = some (some (.ref a))) (hS : SqL K H a (ns.map V.int)) (hl : ns.length ≤ 63) (hb : ∀ n ∈ ns, Builtin.Int.intBits n ≤ 1048576)
    (k : ∀ (H1 : Hp) (u : Addr) (bs : List Int), Same H H1 → H1 u = some (.lst (bs.map V.int)) → bs.length ≤ 63 → (∀ n ∈ bs, Builtin.Int.intBits n ≤ 1048576) → Q (.ref u) H1) : t_base K σ H Q := by
  refine ⟨_, h0, (by show 0 ≤ sizeLine; decide), fun e ne => ?_⟩
  have s1 := Same.new (o := .lst []) ne
  refine ⟨a, e, ns, [], rfl, rfl, s1.seq hS, SqL.of upd_same, _, rfl, ?_⟩
  by_cases c : ns = []
  · rw [decide_eq_true c]
    refine iteF ⟨(by show 1 ≤ sizeLine; decide), fun u nu => ?_⟩
    exact k _ u [5] (s1.trans (Same.new nu)) upd_same (by decide) (fun n hn => by simp at hn; subst hn; decide)
  · rw [decide_eq_false c]
    refine iteT ⟨_, h0, _, rfl, a, _, rfl, s1.seq hS, fun u nu => ?_⟩
    exact k _ u ns (s1.trans (Same.new nu)) (by rw [upd_same, cut63 hl]) hl hb
theorem scDeeds : FnScope ["_law_script", "_law_by", "_law_cells", "_law_whole", "_law_found", "_law_at", "_law_cell", "_law_number_here", "_law_kind", "_law_end"] ["_law_script", "_law_by"] (defScope sDeeds) := ⟨rfl, rfl, rfl, by decide +kernel, rfl, by decide +kernel, by decide +kernel⟩
theorem item_of {ns : List Int} {i : Nat} {y : V} (hi : (ns.map V.int)[i]? = some y) : ∃ z, ns[i]? = some z ∧ y = V.int z := by
  rw [List.getElem?_map] at hi
  cases e : ns[i]? with
  | none =>
    rw [e] at hi
    cases hi
  | some z =>
    rw [e] at hi
    exact ⟨z, rfl, (Option.some.inj hi).symm⟩
theorem item_ref {rs : List Addr} {i : Nat} {y : V} (hi : (rs.map V.ref)[i]? = some y) : ∃ z, rs[i]? = some z ∧ y = V.ref z := by
  rw [List.getElem?_map] at hi
  cases e : rs[i]? with
  | none =>
    rw [e] at hi
    cases hi
  | some z =>
    rw [e] at hi
    exact ⟨z, rfl, (Option.some.inj hi).symm⟩
theorem kind_at (nh wh : Int) (b c : Bool) : ∃ kd : Int, atI [V.int (nh % 2), V.int (if b then 1 else 0), V.int (nh % 4 / 2), V.int (if c then 1 else 0)] (wh % 4) = some (V.int kd) ∧ (kd = 0 ∨ kd = 1) := by
  have h : wh % 4 = 0 ∨ wh % 4 = 1 ∨ wh % 4 = 2 ∨ wh % 4 = 3 := by omega
  rcases h with h | h | h | h <;> rw [h]
  · exact ⟨nh % 2, rfl, by omega⟩
  · exact ⟨_, rfl, by cases b <;> simp⟩
  · exact ⟨nh % 4 / 2, rfl, by omega⟩
  · exact ⟨_, rfl, by cases c <;> simp⟩
theorem end_at (x : Int) : ∃ fr : Bool, atI [V.str "front", V.str "back"] (x % 2) = some (V.str (endS fr)) := by
  have h : x % 2 = 0 ∨ x % 2 = 1 := by omega
  rcases h with h | h <;> rw [h]
  · exact ⟨true, rfl⟩
  · exact ⟨false, rfl⟩
/-- number // 5 % 2 if whole // 4 % 3 > 0 else whole // 12 % 2 -/
def t_side : TE := tIf (tTest (tOp (rI0 fun i j => .bl (decide (j < i))) (tOp (rI (fun _ j => 0 < j) fun i j => .int (i % j)) (tOp (rI CDiv fun i j => .int (i / j)) (tVar 3) (tC (.int 4))) (tC (.int 3))) (tC (.int 0))))
  (tOp (rI (fun _ j => 0 < j) fun i j => .int (i % j)) (tOp (rI CDiv fun i j => .int (i / j)) (tVar 7) (tC (.int 5))) (tC (.int 2)))
  (tOp (rI (fun _ j => 0 < j) fun i j => .int (i % j)) (tOp (rI CDiv fun i j => .int (i / j)) (tVar 3) (tC (.int 12))) (tC (.int 2)))
theorem rd_side {σ : L2.St} {H : Hp} {wh nh : Int} {Q : VK} (h3 : σ[3]? = some (some (.int wh))) (h7 : σ[7]? = some (some (.int nh))) (k : ∀ x : Int, Q (.int (x % 2)) H) : t_side σ H Q := by
  refine ⟨_, h3, _, _, rfl, rfl, ⟨by decide, by decide⟩, _, _, rfl, rfl, (by show (0 : Int) < 3; decide), _, _, rfl, rfl, _, rfl, ite2 (fun _ => ?_) fun _ => ?_⟩
  · exact ⟨_, h7, _, _, rfl, rfl, ⟨by decide, by decide⟩, _, _, rfl, rfl, (by show (0 : Int) < 2; decide), k _⟩
  · exact ⟨_, h3, _, _, rfl, rfl, ⟨by decide, by decide⟩, _, _, rfl, rfl, (by show (0 : Int) < 2; decide), k _⟩
theorem mem_cells {bs : List Int} {z : Int} (h : z ∈ bs ++ bs ++ [8, 3]) (hb : ∀ n ∈ bs, Builtin.Int.intBits n ≤ 1048576) : Builtin.Int.intBits z ≤ 1048576 := by
  simp at h
  rcases h with h | h | h
  · exact hb z h
  · subst h
    decide
  · subst h
    decide
theorem ok_deeds {f fN : Addr} {fd fdN : FuncData} (F : Fun K "_law_deeds" "_law_deeds" sDeeds f fd) (D : DTxt mg) (FN : Fun K "_law_number" "_law_number" sNum fN fdN) (bN : Binds K fdN ["_law_cell", "_law_at", "_law_whole"] []) (gN : mg "_law_number" = some (.ref fN)) :
    FnOk P w K mg base CX0 2 f fd ["_law_script", "_law_by"] (spDeeds K) := by
  have GN : FnOk P w K mg base CX0 1 fN fdN ["_law_cell", "_law_at", "_law_whole"] spNum := ok_num FN
  refine F.ok scDeeds (fun vs H Q E h => ?_) (fun cdv A outer s H vs Q E hr h => ?_)
  · obtain ⟨a, ns, b, rfl, _⟩ := h
    rfl
  · obtain ⟨a, ns, by_, rfl, hS, hlen, hbits, hby0, hby1, k⟩ := h
    refine ⟨_, pss_cons (ps_set (i := 2) scDeeds.nd rfl (Or.inl rfl) (pe_op op_cat (pe_op op_rep (pe_ifExp (pt_cmpR (op_neI hr.units) (pv 0) (pe_lst pa_nil) (nomark _)) (pe_slice sl_list (pv 0) po_none (po_some pe_int)) (pe_lst (pa_cons pe_int pa_nil))) pe_int) (pe_lst (pa_cons pe_int (pa_cons pe_int pa_nil)))))
      (pss_cons (ps_set (i := 3) scDeeds.nd rfl (Or.inl rfl) (pe_op op_add (pe_callB call_abs (by rfl) D.abs (by decide +kernel) (pa_cons (pe_callB (cr_sum rfl) (by rfl) D.sum (by decide +kernel) (pa_cons (pe_slice sl_list (pv 0) po_none (po_some pe_int)) pa_nil)) pa_nil)) (pv 1)))
      (pss_cons (ps_set (i := 4) scDeeds.nd rfl (Or.inl rfl) (pe_lst pa_nil))
      (pss_cons (ps_for PassesOwn.never rfl (pi_enum (by rfl) D.enum (pa_cons (pv 2) pa_nil)) (pg_tup rfl (pgs_cons (pg_name (i := 5) scDeeds.nd rfl (Or.inl rfl)) (pgs_cons (pg_name (i := 6) scDeeds.nd rfl (Or.inl rfl)) pgs_nil)))
        (pss_cons (ps_set (i := 7) scDeeds.nd rfl (Or.inl rfl) (pe_op op_fdiv (pe_call GN hr rfl gN FN.kp bN .nil pass0 (pa_cons (pv 6) (pa_cons (pe_op op_add (pv 5) (pv 1)) (pa_cons (pv 3) pa_nil)))) pe_int))
        (pss_cons (ps_set (i := 8) scDeeds.nd rfl (Or.inl rfl) (pe_ix ix_tup (pe_tup (pa_cons (pe_op op_mod (pv 7) pe_int) (pa_cons (pe_callTy call_int1 (by rfl) D.int (by decide +kernel) (pa_cons (pe_cmpR op_gt (pe_op op_mod (pv 5) pe_int) pe_int (nomark _)) pa_nil))
            (pa_cons (pe_op op_fdiv (pe_op op_mod (pv 7) pe_int) pe_int) (pa_cons (pe_callTy call_int1 (by rfl) D.int (by decide +kernel) (pa_cons (pe_cmpR op_eq (pe_op op_mod (pv 7) pe_int) pe_int (nomark _)) pa_nil)) pa_nil))))) (pe_op op_mod (pv 3) pe_int) (fun _ _ => rfl)))
        (pss_cons (ps_set (i := 9) scDeeds.nd rfl (Or.inl rfl) (pe_ix ix_tup (pe_tup (pa_cons pe_str (pa_cons pe_str pa_nil))) (pe_ifExp (pt_cmpR op_gt (pe_op op_mod (pe_op op_fdiv (pv 3) pe_int) pe_int) pe_int (nomark _)) (pe_op op_mod (pe_op op_fdiv (pv 7) pe_int) pe_int) (pe_op op_mod (pe_op op_fdiv (pv 3) pe_int) pe_int)) (fun _ _ => rfl)))
        (pss_one (ps_expr (pe_bm PySem.F.plainAttrs_list PySem.F.slot_list_append PySem.F.type_list_append mt_append (pv 4) (pa_cons (pe_tup (pa_cons (pv 8) (pa_cons (pv 9) (pa_cons (pe_op op_add (pe_op op_mulX (pv 6) pe_int) (pv 5)) pa_nil)))) pa_nil))))))))
      (pss_one (ps_ret (pv 4)))))), ?_⟩
    refine rd_base (a := a) rfl hS hlen hbits fun H1 u bs s1 hu hbl hbb => ?_
    refine ⟨u, 2, _, rfl, rfl, hu, by decide, by decide, ?_, fun v nv => ?_⟩
    · rw [List.length_map, sizeLine_eq]
      show bs.length * 2 ≤ _
      omega
    refine ⟨(by show 2 ≤ sizeLine; decide), fun x nx => ?_⟩
    refine ⟨v, x, _, _, rfl, rfl, Same.new nx _ _ upd_same, upd_same, ?_, fun c nc => ?_⟩
    · have e : (List.replicate (2 : Int).toNat (bs.map V.int)).flatten = bs.map V.int ++ bs.map V.int := by
        show (List.replicate 2 (bs.map V.int)).flatten = _
        simp [List.replicate]
      rw [e, sizeLine_eq]
      simp only [List.length_append, List.length_map, List.length_cons, List.length_nil]
      omega
    have s2 : ∀ o, Same H (upd _ c o) := fun o => ((s1.trans (Same.new nv)).trans (Same.new nx)).trans (Same.new nc)
    refine ⟨_, rfl, _, rfl, a, _, rfl, (s2 _).seq hS, fun y ny => ?_⟩
    have s3 : ∀ o, Same H (upd _ y o) := fun o => (s2 _).trans (Same.new ny)
    refine ⟨y, ns, rfl, SqL.of (by rw [upd_same, cut63 hlen]), _, rfl, _, rfl, _, _, rfl, rfl, ?_⟩
    obtain ⟨wh, hwh⟩ : ∃ wh : Int, wh = (if ns.sum < 0 then -ns.sum else ns.sum) + by_ := ⟨_, rfl⟩
    refine ⟨(by show 0 ≤ sizeLine; decide), fun l nl => ?_⟩
    have nl0 : H l = Option.none := (s3 _).free nl
    have e2 : (List.replicate (2 : Int).toNat (bs.map V.int)).flatten ++ [V.int 8, V.int 3] = (bs ++ bs ++ [8, 3]).map V.int := by
      show (List.replicate 2 (bs.map V.int)).flatten ++ [V.int 8, V.int 3] = _
      simp [List.replicate]
    rw [e2] at ny nl ⊢
    generalize hcs : bs ++ bs ++ [8, 3] = cs at ny nl ⊢
    have s4 : ∀ o, Same H (upd _ l o) := fun o => ((((s1.trans (Same.new nv)).trans (Same.new nx)).trans (Same.new nc)).trans (Same.new ny)).trans (Same.new nl)
    have hcl : cs.length ≤ 128 := by
      rw [← hcs]
      simp
      omega
    have hcb : ∀ z ∈ cs, Builtin.Int.intBits z ≤ 1048576 := fun z hz => by
      rw [← hcs] at hz
      exact mem_cells hz hbb
    have hc : ∀ o, (upd _ l o) c = some (.lst (cs.map V.int)) := fun o => Same.new nl _ _ (Same.new ny _ _ upd_same)
    have cl : c ≠ l := ne_of_none (Same.new ny _ _ upd_same) nl
    refine ⟨_, rfl, c, _, rfl, SqL.of (hc _), for_it (walk_enum (K := K) (a := c) (xs := cs.map V.int)) (fun i σ Hc => ∃ (v5 v6 v7 v8 v9 : Option V) (rs : List Addr) (ds : List Deed),
        σ = [some (.ref a), some (.int by_), some (.ref c), some (.int wh), some (.ref l), v5, v6, v7, v8, v9] ∧ Same H Hc ∧ Hc c = some (.lst (cs.map V.int)) ∧ DeedsAt Hc l rs ds ∧ (∀ r ∈ rs, H r = Option.none) ∧ (∀ d ∈ ds, d.ok) ∧ ds.length = i)
      ⟨none, none, none, none, none, [], [], (by rw [hwh]; rfl), s4 _, hc _, ⟨upd_same, rfl, fun i r e => by simp at e⟩, by simp, by simp, rfl⟩ (fun i σ Hc _ ⟨_, _, _, _, _, _, _, _, _, h, _⟩ => SqL.of h) ?_ ?_⟩
    · rintro i x0 σ Hc H' hi ⟨v5, v6, v7, v8, v9, rs, ds, rfl, s5, hcc, hD, hrs, hds, hdl⟩ ⟨T, i0, z0, rfl, nT, rfl, e0, ez⟩
      obtain rfl : V.int (i : Nat) = i0 := Option.some.inj e0
      obtain ⟨z, hz, rfl⟩ := item_of ez
      have hi2 : i < 128 := by
        rw [List.length_map] at hi
        omega
      have s6 : Same Hc (upd Hc T (.tup [.int (i : Nat), .int z])) := Same.new nT
      refine ⟨T, _, rfl, SqT.of upd_same, rfl, _, _, rfl, _, _, rfl, rfl, ?_⟩
      -- the number
      refine ⟨_, rfl, _, rfl, _, rfl, _, _, rfl, rfl, _, rfl, z, _, wh, rfl, hcb z (List.mem_of_getElem? hz), (by omega), (by omega), fun nm => ?_⟩
      refine ⟨_, _, rfl, rfl, ⟨by decide, by decide⟩, ?_⟩
      -- the kind
      refine ⟨_, rfl, _, _, rfl, rfl, (by show (0 : Int) < 2; decide), ?_⟩
      refine ⟨_, rfl, _, _, rfl, rfl, (by show (0 : Int) < 40; decide), _, _, rfl, rfl, .inr ⟨_, rfl, ?_⟩⟩
      refine ⟨_, rfl, _, _, rfl, rfl, (by show (0 : Int) < 4; decide), _, _, rfl, rfl, ⟨by decide, by decide⟩, ?_⟩
      refine ⟨_, rfl, _, _, rfl, rfl, (by show (0 : Int) < 3; decide), rfl, .inr ⟨_, rfl, ?_⟩⟩
      refine ⟨(by show 4 ≤ sizeLine; decide), fun t1 n1 => ?_⟩
      obtain ⟨kd, hk, hk01⟩ := kind_at (nm / 3) wh (decide (25 < ((i : Nat) : Int) % 40)) (decide (V.int (nm / 3 % 3) = V.int 0))
      refine ⟨_, rfl, _, _, rfl, rfl, (by show (0 : Int) < 4; decide), t1, _, _, _, rfl, rfl, SqT.of upd_same, hk, ?_⟩
      -- the end
      refine ⟨(by show 2 ≤ sizeLine; decide), fun t2 n2 => ?_⟩
      refine rd_side (wh := wh) (nh := nm / 3) rfl rfl fun sd => ?_
      obtain ⟨fr, hfr⟩ := end_at sd
      refine ⟨t2, _, _, _, rfl, rfl, SqT.of upd_same, hfr, ?_⟩
      -- the thing, laid into the list
      have s7 : ∀ o, Same Hc (upd _ t2 o) := fun o => (s6.trans (Same.new n1)).trans (Same.new n2)
      refine ⟨_, rfl, .inl ⟨rfl, _, SqL.of (s7 _ _ _ hD.1)⟩, _, rfl, _, rfl, _, rfl, _, _, rfl, rfl, ?_, _, rfl, _, _, rfl, rfl, (by show 3 ≤ sizeLine; decide), fun t3 n3 => ?_⟩
      · have hz2 := hcb z (List.mem_of_getElem? hz)
        show (Builtin.Int.intBits z : Int) + (Builtin.Int.intBits 7 : Int) ≤ 134217728
        have e7 : Builtin.Int.intBits 7 = 3 := by decide
        rw [e7]
        omega
      have s8 : ∀ o, Same Hc (upd _ t3 o) := fun o => (s7 _).trans (Same.new n3)
      have n3c : Hc t3 = Option.none := (s7 _).free n3
      have n3H : H t3 = Option.none := s5.free n3c
      refine ⟨l, _, _, rfl, rfl, s8 _ _ _ hD.1, ?_, ?_⟩
      · rw [List.length_map, hD.2.1, hdl, sizeLine_eq]
        omega
      refine ⟨_, _, _, _, _, rs ++ [t3], ds ++ [⟨kd, fr, z * 7 + ((i : Nat) : Int)⟩], rfl, ?_, ?_, ?_, ?_, ?_, ?_⟩
      · exact Same.upd (s5.trans (s8 _)) nl0
      · rw [upd_ne cl]
        exact s8 _ _ _ hcc
      · refine ⟨by rw [upd_same, List.map_append]; rfl, by rw [List.length_append, List.length_append, hD.2.1]; rfl, fun j r e => ?_⟩
        by_cases hj : j < rs.length
        · rw [List.getElem?_append_left hj] at e
          obtain ⟨d, e1, e3⟩ := hD.2.2 j r e
          refine ⟨d, by rw [List.getElem?_append_left (by rw [← hD.2.1]; exact hj)]; exact e1, ?_⟩
          have hrl : r ≠ l := ne_of e3 hD.1 (by intro q; cases q)
          rw [upd_ne hrl]
          exact s8 _ _ _ e3
        · have hj2 : j = rs.length := by
            have := (List.getElem?_eq_some_iff.mp e).1
            rw [List.length_append] at this
            simp at this
            omega
          subst hj2
          rw [List.getElem?_append_right (Nat.le_refl _), Nat.sub_self] at e
          obtain rfl : t3 = r := Option.some.inj e
          refine ⟨⟨kd, fr, z * 7 + ((i : Nat) : Int)⟩, ?_, ?_⟩
          · rw [List.getElem?_append_right (by rw [hD.2.1]; exact Nat.le_refl _), hD.2.1, Nat.sub_self]
            rfl
          · have h3l : t3 ≠ l := fun q => by
              rw [q, hD.1] at n3c
              cases n3c
            rw [upd_ne h3l, upd_same]
            rfl
      · intro r hr2
        rw [List.mem_append] at hr2
        rcases hr2 with hr2 | hr2
        · exact hrs r hr2
        · simp at hr2
          rw [hr2]
          exact n3H
      · intro d hd
        rw [List.mem_append] at hd
        rcases hd with hd | hd
        · exact hds d hd
        · simp at hd
          rw [hd]
          exact hk01
      · rw [List.length_append, hdl]
        rfl
    · rintro σ Hc ⟨v5, v6, v7, v8, v9, rs, ds, rfl, s5, hcc, hD, hrs, hds, hdl⟩
      rw [List.length_map] at hdl
      exact ⟨_, rfl, k Hc l rs ds s5 hD nl0 hrs hds (by omega)⟩
end
end Hf
/-! ## the defs of Halfline together -/
namespace Hf
open PySem PySem.Spec PyProof.Rows L2
/-- a method of the class at C, by its promise -/
def MethOk (P : Program) (w : World) (K : PySem.W.Frag) (mg : Str → Option Value) (base : Heap) (CX : CXT) (k : Nat) (C : Addr) (m : Str) (ps : List Str) (sp : Sp) : Prop :=
  ∃ (f : Addr) (fd : FuncData), Meth K C m f ∧ Binds K fd ps [] ∧ FnOk P w K mg base CX k f fd ps sp
def InitOk (P : Program) (w : World) (K : PySem.W.Frag) (mg : Str → Option Value) (base : Heap) (C : Addr) (sp : Sp) : Prop :=
  ∃ (f : Addr) (fd : FuncData), Mk K C f ∧ Binds K fd ["self"] [] ∧ FnOk P w K mg base CX0 1 f fd ["self"] sp
def DefOk (P : Program) (w : World) (K : PySem.W.Frag) (mg : Str → Option Value) (base : Heap) (CX : CXT) (k : Nat) (x : Str) (ps : List Str) (sp : Sp) : Prop :=
  ∃ (f : Addr) (fd : FuncData), mg x = some (.ref f) ∧ PySem.W.keepIn K (.ref f) = true ∧ Binds K fd ps [] ∧ FnOk P w K mg base CX k f fd ps sp
/-! ### lists told -/
theorem things_nil {xs ys : List Int} : xs.reverse ++ ys = [] ↔ xs = [] ∧ ys = [] := by simp
theorem put_things (fr : Bool) (xs ys : List Int) (z : Int) : (putX fr xs z).reverse ++ putX (!fr) ys z = if fr then z :: (xs.reverse ++ ys) else xs.reverse ++ ys ++ [z] := by
  cases fr <;> simp [putX]
theorem take_front {xs ys : List Int} (h : xs ≠ [] ∨ ys ≠ []) : xs.reverse ++ ys = takeZ true xs ys :: ((takeX true xs ys).reverse ++ takeY true xs ys) := takeM_things h
theorem take_back {xs ys : List Int} (h : xs ≠ [] ∨ ys ≠ []) : xs.reverse ++ ys = (takeX false xs ys).reverse ++ takeY false xs ys ++ [takeZ false xs ys] := by
  have e := congrArg List.reverse (takeM_things (mine := ys) (theirs := xs) h.symm)
  simp at e
  show xs.reverse ++ ys = (takeM ys xs).2.2.1.reverse ++ (takeM ys xs).2.1 ++ [(takeM ys xs).1]
  rw [e]
  simp
theorem take_len {fr : Bool} {xs ys : List Int} (h : xs ≠ [] ∨ ys ≠ []) : (takeX fr xs ys).length + (takeY fr xs ys).length + 1 = xs.length + ys.length := by
  cases fr with
  | true =>
    have e := congrArg List.length (take_front h)
    simp at e
    omega
  | false =>
    have e := congrArg List.length (take_back h)
    simp at e
    omega
/-- the two rows changed by a deed -/
theorem ne_things {xs ys : List Int} (h : xs.reverse ++ ys ≠ []) : xs ≠ [] ∨ ys ≠ [] := by
  by_cases c : xs = []
  · right
    intro d
    exact h (by rw [c, d]; rfl)
  · exact .inl c
theorem cut_one (xs : List V) : cutV xs (some (1 : Int)) none = xs.drop 1 := cut_from xs 1
theorem cut_but (xs : List V) : cutV xs none (some (-1 : Int)) = xs.dropLast := by
  unfold cutV
  have e : HT.sIx xs.length xs.length (some (-1 : Int)) = xs.length - 1 := by
    unfold HT.sIx
    simp
    omega
  rw [e]
  show (xs.drop 0).take (xs.length - 1 - 0) = xs.dropLast
  rw [List.drop_zero, Nat.sub_zero, List.dropLast_eq_take]
theorem atI_head {x : V} {xs : List V} : atI (x :: xs) (0 : Int) = some x := atI_nat (j := 0) rfl
theorem atI_lastI (xs : List Int) (v : Int) : atI ((xs ++ [v]).map V.int) (-1) = some (V.int v) := by
  rw [List.map_append]
  exact atI_last _ _
theorem kit_ref {K : PySem.W.Frag} {t : Value} {C : Addr} {b : Bool} (hd : PySem.W.hasDictIn K C = true) (ty : PySem.W.typeIn K (.ref C) = some (.type "type")) (self : PySem.W.subIn K t t = some true) (h : PySem.W.subIn K t (.ref C) = some b) : PySem.W.kitOne K t (.ref C) = some b := by
  obtain ⟨cd, hc, _⟩ := PySem.W.any_some hd
  have e2 : ((PySem.W.clsIn K C).isSome && PySem.W.typeIn K (.ref C) == some (.type "type")) = true := by rw [hc, ty] <;> rfl
  unfold PySem.W.kitOne
  by_cases e : (t == Value.ref C) = true
  · have e3 : t = Value.ref C := by simpa using e
    subst e3
    rw [self] at h
    rw [if_pos e]
    exact h
  · rw [if_neg e]
    show (if ((PySem.W.clsIn K C).isSome && PySem.W.typeIn K (.ref C) == some (.type "type")) = true then PySem.W.subIn K t (.ref C) else none) = some b
    rw [if_pos e2]
    exact h
/-- what is known of an error's class, asked by isinstance and by except -/
structure EIs (K : PySem.W.Frag) (CL CT CE CM : Addr) : Prop where
  cT : ExcC K CT
  cE : ExcC K CE
  cM : ExcC K CM
  lT : PySem.W.exmOne K (.ref CT) (.ref CL) = some true
  lE : PySem.W.exmOne K (.ref CE) (.ref CL) = some true
  lM : PySem.W.exmOne K (.ref CM) (.ref CL) = some true
  mT : PySem.W.kitOne K (.ref CM) (.ref CT) = some false
  mE : PySem.W.kitOne K (.ref CM) (.ref CE) = some false
  mM : PySem.W.kitOne K (.ref CM) (.ref CM) = some true
  tT : PySem.W.kitOne K (.ref CT) (.ref CT) = some true
  tE : PySem.W.kitOne K (.ref CT) (.ref CE) = some false
  tM : PySem.W.kitOne K (.ref CT) (.ref CM) = some false
  eT : PySem.W.kitOne K (.ref CE) (.ref CT) = some false
  eE : PySem.W.kitOne K (.ref CE) (.ref CE) = some true
  eM : PySem.W.kitOne K (.ref CE) (.ref CM) = some false
/-! ### the methods called: the reading of a call -/
section
variable {K : PySem.W.Frag} {C CT CE CM : Addr} {H : Hp} {p : Addr} {A : List Addr} {xs ys : List Int} {n : Int}
theorem HalfAt.obj {m : Str} (h : HalfAt C H p A xs ys n) (h1 : (m == "front") = false := by decide +kernel) (h2 : (m == "back") = false := by decide +kernel) (h3 : (m == "steps") = false := by decide +kernel) :
    ∃ dx fs, H p = some (.ins C dx fs) ∧ fs.lookup m = none := by
  obtain ⟨dx, f, b, rfl, e1, _⟩ := h
  exact ⟨dx, _, e1, hF_no _ _ _ h1 h2 h3⟩
theorem HalfAt.fresh (h : HalfAt C H p A xs ys n) {m : Addr} (hm : H m = none) : m ∉ A := fun q => by
  obtain ⟨o, e⟩ := h.trk m q
  rw [hm] at e
  cases e
theorem rd_things {j : Nat} {σ : L2.St} {Q : VK} (h0 : σ[j]? = some (some (.ref p))) (hA : HalfAt C H p A xs ys n) (hl : xs.length + ys.length < 1000000)
    (k : ∀ (H' : Hp) (l : Addr), Same H H' → H l = none → H' l = some (.lst ((xs.reverse ++ ys).map V.int)) → Q (.ref l) H') : tMeth C "things" (spThingsH C) [] E0 (tVar j) tNil σ H Q := by
  obtain ⟨dx, fs, e1, e2⟩ := hA.obj (m := "things")
  exact ⟨_, h0, p, dx, fs, rfl, e1, e2, p, A, xs, ys, n, rfl, hA, hl, k⟩
theorem rd_put {j : Nat} {σ : L2.St} {Q : VK} {t : TA} {fr : Bool} {z : Int} (h0 : σ[j]? = some (some (.ref p))) (hA : HalfAt C H p A xs ys n) (hl : xs.length + ys.length < 1000000)
    (ht : ∀ R : List V → Hp → Prop, R [.str (endS fr), .int z] H → t σ H R)
    (k : ∀ (H' : Hp) (A' : List Addr), HalfAt C H' p A' (putX fr xs z) (putX (!fr) ys z) (n + 1) → Step H A H' A' → Q .non H') : tMeth C "put" (spPutH K C CT CE) [] E0 (tVar j) t σ H Q := by
  obtain ⟨dx, fs, e1, e2⟩ := hA.obj (m := "put")
  exact ⟨_, h0, p, dx, fs, rfl, e1, e2, ht _ ⟨p, A, xs, ys, n, hA, .inl ⟨fr, z, rfl, hl, k⟩⟩⟩
theorem rd_take {j : Nat} {σ : L2.St} {Q : VK} {t : TA} {fr : Bool} (h0 : σ[j]? = some (some (.ref p))) (hA : HalfAt C H p A xs ys n) (hl : xs.length + ys.length < 1000000) (hne : xs ≠ [] ∨ ys ≠ [])
    (ht : ∀ R : List V → Hp → Prop, R [.str (endS fr)] H → t σ H R)
    (k : ∀ (H' : Hp) (A' : List Addr), HalfAt C H' p A' (takeX fr xs ys) (takeY fr xs ys) (n + takeN fr xs ys) → Step H A H' A' → Q (.int (takeZ fr xs ys)) H') : tMeth C "take" (spTakeH K C CE CM) [] E0 (tVar j) t σ H Q := by
  obtain ⟨dx, fs, e1, e2⟩ := hA.obj (m := "take")
  exact ⟨_, h0, p, dx, fs, rfl, e1, e2, ht _ ⟨p, A, xs, ys, n, hA, hl, .inr (.inl ⟨fr, rfl, hne, k⟩)⟩⟩
theorem rd_steps {j : Nat} {σ : L2.St} {Q : VK} (h0 : σ[j]? = some (some (.ref p))) (hA : HalfAt C H p A xs ys n) (k : Q (.int n) H) : tMeth C "steps_so_far" (spStepsH C) [] E0 (tVar j) tNil σ H Q := by
  obtain ⟨dx, fs, e1, e2⟩ := hA.obj (m := "steps_so_far")
  exact ⟨_, h0, p, dx, fs, rfl, e1, e2, p, A, xs, ys, n, rfl, hA, k⟩
theorem rd_halves {j : Nat} {σ : L2.St} {Q : VK} (h0 : σ[j]? = some (some (.ref p))) (hA : HalfAt C H p A xs ys n)
    (k : ∀ (H' : Hp) (t : Addr), Same H H' → H t = none → H' t = some (.tup [.int (xs.length : Int), .int (ys.length : Int)]) → Q (.ref t) H') : tMeth C "halves" (spHalvesH C) [] E0 (tVar j) tNil σ H Q := by
  obtain ⟨dx, fs, e1, e2⟩ := hA.obj (m := "halves")
  exact ⟨_, h0, p, dx, fs, rfl, e1, e2, p, A, xs, ys, n, rfl, hA, k⟩
theorem rd_purse {j : Nat} {σ : L2.St} {Q : VK} (h0 : σ[j]? = some (some (.ref p))) (hA : HalfAt C H p A xs ys n)
    (k : Q (.int (3 * (if (xs.length : Int) - (ys.length : Int) < 0 then -((xs.length : Int) - (ys.length : Int)) else (xs.length : Int) - (ys.length : Int)))) H) : tMeth C "purse" (spPurseH C) [] E0 (tVar j) tNil σ H Q := by
  obtain ⟨dx, fs, e1, e2⟩ := hA.obj (m := "purse")
  exact ⟨_, h0, p, dx, fs, rfl, e1, e2, p, A, xs, ys, n, rfl, hA, k⟩
theorem rd_turn {j : Nat} {σ : L2.St} {Q : VK} (h0 : σ[j]? = some (some (.ref p))) (hA : HalfAt C H p A xs ys n)
    (k : ∀ (H' : Hp) (A' : List Addr), HalfAt C H' p A' ys xs n → Step H A H' A' → Q .non H') : tMeth C "turn" (spTurnH C) [] E0 (tVar j) tNil σ H Q := by
  obtain ⟨dx, fs, e1, e2⟩ := hA.obj (m := "turn")
  exact ⟨_, h0, p, dx, fs, rfl, e1, e2, p, A, xs, ys, n, rfl, hA, k⟩
end
/-- a new Halfline: what stood stays, and is none of its own -/
theorem made_step {C x dx : Addr} {H H1 : Hp} {A : List Addr} (nx : H x = none) (nd : H dx = none)
    (kp : ∀ b o, (upd (upd H dx (.own x)) x (.ins C dx [])) b = some o → b ≠ x → H1 b = some o ∧ b ∉ A) : Step H [] H1 A := fun q o e _ =>
  kp q o (by rw [upd_ne (ne_of_none e nx), upd_ne (ne_of_none e nd)]; exact e) (ne_of_none e nx)
theorem Step.toSame {H H' : Hp} {A : List Addr} (h : Step H [] H' A) : Same H H' := fun q o e => (h q o e (by simp)).1
theorem small_size {n : Nat} (h : n < 1000000) : n ≤ sizeLine := by
  rw [sizeLine_eq]
  omega
end Hf
/-! ## Evenline: put, take, first, things, moved_last -/
namespace Hf
open PySem PySem.Spec PyProof.Rows L2
theorem Good.st2 {e : EV} (h : Good e) : e.st ≤ 2 := by
  cases h with
  | idl a h _ _ _ => rw [h.st]; decide
  | rev n r a h _ _ => rw [h.st]; decide
  | app n j a h _ _ => rw [h.st]; decide
theorem Good.last0 {e : EV} (h : Good e) (v : Int) : Good { e with last := v } := by
  cases h with
  | idl a h hb hT hS => exact .idl a ⟨h.st, h.top, h.len⟩ hb hT hS
  | rev n r a h hr hb => exact .rev n r a ⟨h.st, h.top, h.reading, h.left, h.good, h.ra, h.an, h.len, h.wl, h.spare, h.turned⟩ hr hb
  | app n j a h hj hb => exact .app n j a ⟨h.st, h.top, h.good, h.ja, h.an, h.len, h.wl, h.spare, h.turned⟩ hj hb
section
variable {P : Program} {w : World} {K : PySem.W.Frag} {mg : Str → Option Value} {base : Heap} {C CT CM : Addr}
theorem scVPut : FnScope ["self", "thing"] ["self", "thing"] (defScope sVPut) := ⟨rfl, rfl, rfl, by decide +kernel, rfl, by decide +kernel, by decide +kernel⟩
theorem ok_vput {f fT fC : Addr} {fd fdT fdC : FuncData} (F : Fun K "put" "Evenline.put" sVPut f fd) (T : VTxt K mg C CT CM)
    (FT : Fun K "asked_thing" "asked_thing" sThing fT fdT) (bT : Binds K fdT ["thing"] []) (gT : mg "asked_thing" = some (.ref fT))
    (GC : FnOk P w K mg base CX0 3 fC fdC ["self"] (spCheck C)) (bC : Binds K fdC ["self"] []) (mC : Meth K C "check" fC) :
    FnOk P w K mg base (L2N.CX P w) 4 f fd ["self", "thing"] (spPutE K C CT) := by
  have GT : FnOk P w K mg base (L2N.CX P w) 1 fT fdT ["thing"] (spThing K CT) := ok_thing FT T.B T.T
  refine Fun.okXN F scVPut (fun vs H Q E h => ?_) (fun cdv A outer s H vs Q E hr h => ?_)
  · obtain ⟨p, A, ts, l, hA, ⟨z, rfl, _⟩ | ⟨t, rfl, _⟩⟩ := h <;> rfl
  · have hr1 : Room 1 _ := hr.mono (by decide)
    refine ⟨_, pss_cons (ps_expr (pe_callS GT hr1 rfl gT FT.kp bT (fun σ => L2N.passAt (L2N.takes_of rfl rfl rfl rfl) σ) (pa_cons (pv 1) pa_nil)))
      (pss_cons (ps_fld (pv 0) pe_int rfl)
      (pss_cons (ps_expr (pe_bm PySem.F.plainAttrs_list PySem.F.slot_list_append PySem.F.type_list_append mt_append (pe_fld (pv 0) rfl) (pa_cons (pv 1) pa_nil)))
      (pss_one (ps_expr (pe_meth0 (pv 0) T.cl mC GC hr bC .nil pass0))))), ?_⟩
    obtain ⟨p, A, ts, l, hA, ⟨z, rfl, hlen, k⟩ | ⟨t, rfl, ht, k⟩⟩ := h
    · obtain ⟨L, e, rfl, hE, hG, hts, hl⟩ := hA
      subst hts
      refine ⟨_, rfl, .inl ⟨z, rfl, ?_⟩⟩
      refine rd_zero (p := p) T .last 0 rfl hE fun H1 h1 s1 => ?_
      have hbk : e.back.length < 1000000 := by
        have := hG.len.1
        omega
      refine rd_app (te := tVar 1) (e1 := e.setN .last 0) (v := z) (p := p) T .back rfl h1 (fun R q => ⟨_, rfl, q H1 h1 (Step.refl _ _)⟩) hbk fun H2 h2 s2 => ?_
      have ck := hG.put z hlen
      refine rd_check (p := p) rfl h2 ck hG.st2 fun H3 L3 h3 s3 => ?_
      exact k H3 (own p L3) _ ⟨L3, _, rfl, h3, ck.good, by rw [ck.same, put_thingsE], rfl⟩ ck.lo (by have := ck.hi; exact this) ((s1.trans s2).trans s3)
    · exact ⟨_, rfl, .inr ⟨t, rfl, ht, k⟩⟩
theorem scVTake : FnScope ["self", "found"] ["self"] (defScope sVTake) := ⟨rfl, rfl, rfl, by decide +kernel, rfl, by decide +kernel, by decide +kernel⟩
theorem ok_vtake {f fC : Addr} {fd fdC : FuncData} (F : Fun K "take" "Evenline.take" sVTake f fd) (T : VTxt K mg C CT CM)
    (GC : FnOk P w K mg base CX0 3 fC fdC ["self"] (spCheck C)) (bC : Binds K fdC ["self"] []) (mC : Meth K C "check" fC) :
    FnOk P w K mg base (L2N.CX P w) 4 f fd ["self"] (spTakeE C CM) := by
  refine Fun.okXN F scVTake (fun vs H Q E h => ?_) (fun cdv A outer s H vs Q E hr h => ?_)
  · obtain ⟨p, A, ts, l, rfl, _⟩ := h
    rfl
  · refine ⟨_, pss_cons (ps_fld (pv 0) pe_int rfl)
      (pss_cons (ps_if (pt_cmpR op_lt (pe_fld (pv 0) rfl) pe_int (nomark _))
        (pss_one (L2N.ps_raise rfl (L2N.takes_of rfl rfl rfl rfl) (L2N.pmk_own PySem.F.excBase_ValueError T.M.x T.M.g T.M.k (raises_own T.M.b T.M.t) (by exact rfl)))) pss_nil)
      (pss_cons (ps_set (i := 1) scVTake.nd rfl (Or.inl rfl) (pe_ix ix_list (pe_fld (pv 0) rfl) (pe_fld (pv 0) rfl) (fun _ _ => rfl)))
      (pss_cons (ps_fld (pv 0) (pe_op op_sub (pe_fld (pv 0) rfl) pe_int) rfl)
      (C8.pss_cut (ps_if (pt_cmpR op_ne (pe_fld (pv 0) rfl) pe_str (nomark _)) (pss_one (ps_fld (pv 0) (pe_op op_sub (pe_fld (pv 0) rfl) pe_int) rfl)) pss_nil)
      (pss_cons (ps_expr (pe_meth0 (pv 0) T.cl mC GC hr bC .nil pass0)) (pss_one (ps_ret (pv 1)))))))), ?_⟩
    obtain ⟨p, A, ts, l, rfl, ⟨L, e, rfl, hE, hG, hts, hl⟩, hlen, h⟩ := h
    subst hts
    refine rd_zero (p := p) T .last 0 rfl hE fun H1 h1 s1 => ?_
    refine rd_tN T .top rfl h1.1 ⟨_, _, rfl, rfl, _, rfl, ite2 (fun c => ?_) fun c => ?_⟩
    · have c : e.top < 0 := of_decide_eq_true c
      have hn := hG.front.mp c
      rcases h with ⟨_, k⟩ | ⟨z, r, ez, _⟩
      · exact k H1 ⟨L, _, rfl, h1, hG.last0 0, hn, rfl⟩ s1
      · rw [hn] at ez
        cases ez
    · have c : ¬ e.top < 0 := fun z => c (decide_eq_true z)
      have hne : thingsE e ≠ [] := fun z => c (hG.front.mpr z)
      rcases h with ⟨hz, _⟩ | ⟨z, r, ez, k⟩
      · exact absurd hz hne
      have h0 : (0 : Int) ≤ e.top := by omega
      have hfl := hG.len.2.1
      have et := take_thingsE hG h0 (if e.st = 0 then e.good else e.good - 1)
      rw [ez] at et
      injection et with ez1 ez2
      refine rd_at (p := p) T .front .top e.top.toNat rfl h1.1 (by show e.top = _; omega) (by show e.top.toNat < e.front.length; omega) ?_
      refine rd_sub (p := p) T .top 1 rfl h1 fun H2 h2 s2 => ?_
      refine ⟨fun σ' H' => σ' = [some (.ref p), some (.int z)] ∧ EvAt C H' p L { e with last := 0, top := e.top - 1, good := if e.st = 0 then e.good else e.good - 1 } ∧ Step H (own p L) H' (own p L), ?_, ?_⟩
      · refine rd_isnt (p := p) T 0 rfl h2.1 hG.st2 ?_
        by_cases c0 : e.st = 0
        · rw [show decide (((e.setN .last 0).setN .top ((e.setN .last 0).num .top - 1)).st = 0) = true from decide_eq_true c0]
          refine iteF ⟨by rw [ez1]; rfl, ?_, s1.trans s2⟩
          rw [if_pos c0]
          exact h2
        · rw [show decide (((e.setN .last 0).setN .top ((e.setN .last 0).num .top - 1)).st = 0) = false from decide_eq_false c0]
          refine iteT (rd_sub (p := p) T .good 1 rfl h2 fun H3 h3 s3 => ⟨by rw [ez1]; rfl, ?_, (s1.trans s2).trans s3⟩)
          rw [if_neg c0]
          exact h3
      rintro σ3 H3 ⟨rfl, h3, s3⟩
      have ck := hG.take h0 hlen
      refine rd_check (p := p) rfl h3 ck hG.st2 fun H4 L4 h4 s4 => ?_
      refine ⟨_, rfl, k H4 (own p L4) _ ⟨L4, _, rfl, h4, ck.good, ck.same.trans ez2.symm, rfl⟩ ck.lo ck.hi (s3.trans s4)⟩
end
end Hf
/-! ## Evenline: first -/
namespace Hf
open PySem PySem.Spec PyProof.Rows L2
section
variable {P : Program} {w : World} {K : PySem.W.Frag} {mg : Str → Option Value} {base : Heap} {C CT CM : Addr}
theorem scVFirst : FnScope ["self"] ["self"] (defScope sVFirst) := ⟨rfl, rfl, rfl, by decide +kernel, rfl, by decide +kernel, by decide +kernel⟩
theorem ok_vfirst {f : Addr} {fd : FuncData} (F : Fun K "first" "Evenline.first" sVFirst f fd) (T : VTxt K mg C CT CM) : FnOk P w K mg base (L2N.CX P w) 1 f fd ["self"] (spFirstE C CM) := by
  refine Fun.okXN F scVFirst (fun vs H Q E h => ?_) (fun cdv A outer s H vs Q E hr h => ?_)
  · obtain ⟨p, A, ts, l, rfl, _⟩ := h
    rfl
  · refine ⟨_, pss_cons (ps_if (pt_cmpR op_lt (pe_fld (pv 0) rfl) pe_int (nomark _))
        (pss_one (L2N.ps_raise rfl (L2N.takes_of rfl rfl rfl rfl) (L2N.pmk_own PySem.F.excBase_ValueError T.M.x T.M.g T.M.k (raises_own T.M.b T.M.t) (by exact rfl)))) pss_nil)
      (pss_one (ps_ret (pe_ix ix_list (pe_fld (pv 0) rfl) (pe_fld (pv 0) rfl) (fun _ _ => rfl)))), ?_⟩
    obtain ⟨p, A, ts, l, rfl, ⟨L, e, rfl, hE, hG, hts, hl⟩, h⟩ := h
    subst hts
    refine rd_tN (p := p) T .top rfl hE.1 ⟨_, _, rfl, rfl, _, rfl, ite2 (fun c => ?_) fun c => ?_⟩
    · have c : e.top < 0 := of_decide_eq_true c
      have hn := hG.front.mp c
      rcases h with ⟨_, k⟩ | ⟨z, r, ez, _⟩
      · exact k
      · rw [hn] at ez
        cases ez
    · have c : ¬ e.top < 0 := fun z => c (decide_eq_true z)
      have hne : thingsE e ≠ [] := fun z => c (hG.front.mpr z)
      rcases h with ⟨hz, _⟩ | ⟨z, r, ez, k⟩
      · exact absurd hz hne
      have hfl := hG.len.2.1
      have et := take_thingsE hG (by omega) 0
      rw [ez] at et
      injection et with ez1 ez2
      refine rd_at (p := p) T .front .top e.top.toNat rfl hE.1 (by show e.top = _; omega) (by show e.top.toNat < e.front.length; omega) ?_
      show Q (.int (e.front.getD e.top.toNat 0)) H
      rw [← ez1]
      exact k
end
end Hf
/-! ## Evenline: things -/
namespace Hf
open PySem PySem.Spec PyProof.Rows L2
section
variable {P : Program} {w : World} {K : PySem.W.Frag} {mg : Str → Option Value} {base : Heap} {C CT CM : Addr}
theorem scVThings : FnScope ["self", "ahead"] ["self"] (defScope sVThings) := ⟨rfl, rfl, rfl, by decide +kernel, rfl, by decide +kernel, by decide +kernel⟩
theorem ok_vthings {f : Addr} {fd : FuncData} (F : Fun K "things" "Evenline.things" sVThings f fd) (T : VTxt K mg C CT CM) : FnOk P w K mg base CX0 1 f fd ["self"] (spThingsE C) := by
  refine F.ok scVThings (fun vs H Q E h => ?_) (fun cdv A outer s H vs Q E hr h => ?_)
  · obtain ⟨p, A, ts, l, rfl, _⟩ := h
    rfl
  · obtain ⟨p, A, ts, l, rfl, ⟨L, e, rfl, hE, hG, hts, hl⟩, hlen, k⟩ := h
    subst hts
    refine ⟨_, pss_cons (ps_set (i := 1) scVThings.nd rfl (Or.inl rfl) (pe_revL (pe_slice sl_list (pe_fld (pv 0) rfl) po_none (po_some (pe_op op_add (pe_fld (pv 0) rfl) pe_int)))))
      (pss_one (ps_ret (pe_op op_cat (pe_op op_cat (pv 1) (pe_ifExp (pt_cmpR op_ne (pe_fld (pv 0) rfl) pe_str (nomark _)) (pe_fld (pv 0) rfl) (pe_lst pa_nil))) (pe_fld (pv 0) rfl)))), ?_⟩
    obtain ⟨dx, hp⟩ := hE.1.ins
    have hlen1 := hG.len
    refine ⟨_, rfl, p, C, dx, _, _, rfl, hp, T.cl, T.nR .front, eF_row _ _ .front, _, rfl, p, C, dx, _, _, rfl, hp, T.cl, T.nN .top, eF_num _ _ .top, _, _, rfl, rfl, _, rfl, L .front, _, rfl, SqL.of (hE.1.row .front), fun u nu => ?_⟩
    refine ⟨u, _, rfl, SqL.of upd_same, fun v nv => ?_⟩
    have ecut : cutV ((e.row .front).map V.int) none (some (e.top + 1)) = (e.front.take (e.top + 1).toNat).map V.int := by
      have := cut_to ((e.row .front).map V.int) (e.top + 1).toNat
      rw [show (((e.top + 1).toNat : Nat) : Int) = e.top + 1 by omega, ← List.map_take] at this
      exact this
    have s1 := fun o' => (Same.new (o := .lst (cutV ((e.row .front).map V.int) none (some (e.top + 1)))) nu).trans (Same.new (o := o') nv)
    have hv : ∀ o, upd (upd H u o) v (.lst (cutV ((e.row .front).map V.int) none (some (e.top + 1))).reverse) v = some (.lst ((e.front.take (e.top + 1).toNat).reverse.map V.int)) := fun o => by
      rw [upd_same, ecut, List.map_reverse]
    have hE1 := fun o' => hE.same (s1 o')
    have tl : (e.front.take (e.top + 1).toNat).length = (e.top + 1).toNat := by
      rw [List.length_take]
      omega
    refine ⟨_, rfl, rd_isnt (p := p) T 0 rfl (hE1 _).1 hG.st2 ?_⟩
    -- the last sum
    have fin : ∀ (H1 : Hp) (a : Addr) (ws : List Int), Same H H1 → H1 a = some (.lst (((e.front.take (e.top + 1).toNat).reverse ++ ws).map V.int)) → ws = (if e.st = 0 then [] else e.waiting) →
        tFld K (tVar 0) "back" [some (.ref p), some (.ref v)] H1 fun y H2 => rCat (.ref a) y H2 Q := by
      intro H1 a ws s2 ha ew
      have hE2 := hE.same s2
      obtain ⟨dx2, hp2⟩ := hE2.1.ins
      refine rd_row (p := p) T .back rfl hE2.1 ⟨a, L .back, _, _, rfl, rfl, ha, hE2.1.row .back, ?_, fun q nq => ?_⟩
      · refine small_size ?_
        rw [List.length_map, List.length_map, List.length_append, List.length_reverse, tl, ew, show (e.row .back).length = e.back.length from rfl]
        have := hlen1.1
        split at this <;> rename_i c <;> simp [c] <;> omega
      · refine k _ q (s2.trans (Same.new nq)) (s2.free nq) ?_
        rw [upd_same, ← List.map_append]
        unfold thingsE
        rw [ew]
    by_cases c : e.st = 0
    · rw [decide_eq_true c]
      refine iteF ⟨(by show 0 ≤ sizeLine; decide), fun w nw => ?_⟩
      refine ⟨v, w, _, _, rfl, rfl, Same.new nw _ _ (hv _), upd_same, ?_, fun q nq => ?_⟩
      · refine small_size ?_
        rw [List.length_map, List.length_reverse, tl]
        have := hlen1.1
        simp
        omega
      · refine fin _ q [] (((s1 _).trans (Same.new nw)).trans (Same.new nq)) ?_ (by rw [if_pos c])
        rw [upd_same]
        simp
    · rw [decide_eq_false c]
      refine iteT (rd_row (p := p) T .waiting rfl (hE1 _).1 ⟨v, L .waiting, _, _, rfl, rfl, hv _, (hE1 _).1.row .waiting, ?_, fun q nq => ?_⟩)
      · refine small_size ?_
        rw [List.length_map, List.length_map, List.length_reverse, tl]
        have := hlen1.1
        rw [if_neg c] at this
        show _ + e.waiting.length < _
        omega
      · refine fin _ q e.waiting ((s1 _).trans (Same.new nq)) ?_ (by rw [if_neg c])
        rw [upd_same, ← List.map_append]
end
end Hf
/-! ## Evenline: moved_last -/
namespace Hf
open PySem PySem.Spec PyProof.Rows L2
section
variable {P : Program} {w : World} {K : PySem.W.Frag} {mg : Str → Option Value} {base : Heap} {C CT CM : Addr}
theorem scVMoved : FnScope ["self"] ["self"] (defScope sVMoved) := ⟨rfl, rfl, rfl, by decide +kernel, rfl, by decide +kernel, by decide +kernel⟩
theorem ok_vmoved {f : Addr} {fd : FuncData} (F : Fun K "moved_last" "Evenline.moved_last" sVMoved f fd) (T : VTxt K mg C CT CM) : FnOk P w K mg base CX0 1 f fd ["self"] (spMovedE C) := by
  refine F.ok scVMoved (fun vs H Q E h => ?_) (fun cdv A outer s H vs Q E hr h => ?_)
  · obtain ⟨p, A, ts, l, rfl, _⟩ := h
    rfl
  · obtain ⟨p, A, ts, l, rfl, ⟨L, e, rfl, hE, hG, hts, hl⟩, k⟩ := h
    subst hl
    refine ⟨_, pss_one (ps_ret (pe_fld (pv 0) rfl)), ?_⟩
    exact rd_num (p := p) T .last rfl hE.1 k
end
end Hf
namespace Hf
open PySem PySem.Spec PyProof.Rows L2
/-! ### the methods called: the reading of a call -/
section
variable {K : PySem.W.Frag} {C CT CM : Addr} {H : Hp} {p : Addr} {A : List Addr} {ts : List Int} {l : Int}
theorem EvenAt.obj {m : Str} (h : EvenAt C H p A ts l) (hm : (["front", "top", "back", "waiting", "left", "turned", "spare", "reading", "good", "state", "last"] : List Str).all (fun f => !(m == f)) = true := by decide +kernel) :
    ∃ dx fs, H p = some (.ins C dx fs) ∧ fs.lookup m = none := by
  obtain ⟨L, e, rfl, hE, _⟩ := h
  obtain ⟨dx, hp⟩ := hE.1.ins
  exact ⟨dx, _, hp, eF_no _ _ hm⟩
theorem rv_put {j : Nat} {σ : L2.St} {Q : VK} {t : TA} {z : Int} (h0 : σ[j]? = some (some (.ref p))) (hA : EvenAt C H p A ts l) (hl : ts.length < 90000)
    (ht : ∀ R : List V → Hp → Prop, R [.int z] H → t σ H R)
    (k : ∀ (H' : Hp) (A' : List Addr) (l' : Int), EvenAt C H' p A' (ts ++ [z]) l' → 0 ≤ l' → l' ≤ 4 → Step H A H' A' → Q .non H') : tMeth C "put" (spPutE K C CT) [] E0 (tVar j) t σ H Q := by
  obtain ⟨dx, fs, e1, e2⟩ := hA.obj (m := "put")
  exact ⟨_, h0, p, dx, fs, rfl, e1, e2, ht _ ⟨p, A, ts, l, hA, .inl ⟨z, rfl, hl, k⟩⟩⟩
theorem rv_take {j : Nat} {σ : L2.St} {Q : VK} {z : Int} {r : List Int} (h0 : σ[j]? = some (some (.ref p))) (hA : EvenAt C H p A (z :: r) l) (hl : (z :: r).length < 90000)
    (k : ∀ (H' : Hp) (A' : List Addr) (l' : Int), EvenAt C H' p A' r l' → 0 ≤ l' → l' ≤ 4 → Step H A H' A' → Q (.int z) H') : tMeth C "take" (spTakeE C CM) [] E0 (tVar j) tNil σ H Q := by
  obtain ⟨dx, fs, e1, e2⟩ := hA.obj (m := "take")
  exact ⟨_, h0, p, dx, fs, rfl, e1, e2, p, A, _, l, rfl, hA, hl, .inr ⟨z, r, rfl, k⟩⟩
theorem rv_first {j : Nat} {σ : L2.St} {Q : VK} {z : Int} {r : List Int} (h0 : σ[j]? = some (some (.ref p))) (hA : EvenAt C H p A (z :: r) l) (k : Q (.int z) H) : tMeth C "first" (spFirstE C CM) [] E0 (tVar j) tNil σ H Q := by
  obtain ⟨dx, fs, e1, e2⟩ := hA.obj (m := "first")
  exact ⟨_, h0, p, dx, fs, rfl, e1, e2, p, A, _, l, rfl, hA, .inr ⟨z, r, rfl, k⟩⟩
theorem rv_things {j : Nat} {σ : L2.St} {Q : VK} (h0 : σ[j]? = some (some (.ref p))) (hA : EvenAt C H p A ts l) (hl : ts.length < 90000)
    (k : ∀ (H' : Hp) (m : Addr), Same H H' → H m = none → H' m = some (.lst (ts.map V.int)) → Q (.ref m) H') : tMeth C "things" (spThingsE C) [] E0 (tVar j) tNil σ H Q := by
  obtain ⟨dx, fs, e1, e2⟩ := hA.obj (m := "things")
  exact ⟨_, h0, p, dx, fs, rfl, e1, e2, p, A, _, l, rfl, hA, hl, k⟩
theorem rv_moved {j : Nat} {σ : L2.St} {Q : VK} (h0 : σ[j]? = some (some (.ref p))) (hA : EvenAt C H p A ts l) (k : Q (.int l) H) : tMeth C "moved_last" (spMovedE C) [] E0 (tVar j) tNil σ H Q := by
  obtain ⟨dx, fs, e1, e2⟩ := hA.obj (m := "moved_last")
  exact ⟨_, h0, p, dx, fs, rfl, e1, e2, p, A, _, l, rfl, hA, k⟩
end
end Hf
/-! ## numbers in turn -/
namespace Hf
open PySem PySem.Spec PyProof.Rows L2
/-- n numbers from b on -/
def iv (b n : Nat) : List Int := (List.range n).map fun i => ((b + i : Nat) : Int)
theorem iv_len (b n : Nat) : (iv b n).length = n := by
  unfold iv
  rw [List.length_map, List.length_range]
theorem iv_snoc (b n : Nat) : iv b (n + 1) = iv b n ++ [((b + n : Nat) : Int)] := by
  unfold iv
  rw [List.range_succ, List.map_append]
  rfl
theorem iv_cons (b n : Nat) : iv b (n + 1) = ((b : Nat) : Int) :: iv (b + 1) n := by
  unfold iv
  rw [List.range_succ_eq_map, List.map_cons, List.map_map]
  congr 1
  apply List.map_congr_left
  intro i _
  show ((b + (i + 1) : Nat) : Int) = ((b + 1 + i : Nat) : Int)
  omega
theorem rgV_iv (a b : Nat) : rgV (a : Int) (b : Int) = (iv a (b - a)).map V.int := by
  unfold rgV iv
  rw [List.map_map, show ((b : Int) - (a : Int)).toNat = b - a by omega]
  apply List.map_congr_left
  intro i _
  show V.int ((a : Int) + (i : Nat)) = V.int (((a + i : Nat) : Int))
  rw [Int.natCast_add]
theorem Step.cons {H H' : Hp} {A A' : List Addr} (m : Addr) (st : Step H A H' A') : Step H (m :: A) H' (m :: A') := fun q o e hq => by
  have h1 : q ≠ m := fun z => hq (by rw [z]; exact List.mem_cons_self)
  have h := st q o e fun z => hq (List.mem_cons_of_mem _ z)
  exact ⟨h.1, fun z => (List.mem_cons.mp z).elim h1 h.2⟩
theorem Step.store {H : Hp} {A : List Addr} (m : Addr) (o : HO) : Step H (m :: A) (L2.upd H m o) (m :: A) := fun q u e hq =>
  ⟨by rw [upd_ne (fun z => hq (by rw [z]; exact List.mem_cons_self))]; exact e, hq⟩
end Hf
/-! ## lambdas with parameters: made, kept, called -/
namespace Hf
open PySem PySem.Spec PyProof.Rows L2 LamX NdefX
/-- a lambda's words, the cells that it captured, its code object -/
structure LM where
  q : Str
  params : Arguments
  body : Expr
  scope : Scope
  cl : List (Str × Addr)
  c : Addr
abbrev LM.nf (F : LM) : NF := ⟨"<lambda>", F.q, F.params, [], F.scope, F.cl, F.c⟩
/-- the object at f is the lambda F -/
def LamO (f : Addr) (F : LM) : HO := .ext fun h => ∃ pm ctv : Value, h.get? f = some (PySem.W.kla_obj "<lambda>" F.q F.params F.body F.scope F.cl pm F.c ctv)
theorem lamO_at {P : Program} {w : World} {H : Hp} {h : Heap} {f : Addr} {F : LM} (hok : HOk P w H h) (e : H f = some (LamO f F)) : ∃ pm ctv : Value, h.get? f = some (PySem.W.kla_obj "<lambda>" F.q F.params F.body F.scope F.cl pm F.c ctv) := (hok f _ e).1
section
variable {X : Cx} {pins : List (Addr × Obj)} {σ : L2.St} {H : Hp} {s : Shared}
theorem inv_lam {F : LM} {t' : Nat} {pm ctv : Value} (I : Inv X pins σ H s) :
    Inv X pins σ (upd H s.heap.objs.size (LamO s.heap.objs.size F)) { s with heap := s.heap.push (PySem.W.kla_obj "<lambda>" F.q F.params F.body F.scope F.cl pm F.c ctv), toks := t' } := by
  have g : (s.heap.push (PySem.W.kla_obj "<lambda>" F.q F.params F.body F.scope F.cl pm F.c ctv)).get? s.heap.objs.size = some (PySem.W.kla_obj "<lambda>" F.q F.params F.body F.scope F.cl pm F.c ctv) := Heap.get?_push_size _ rfl
  exact I.laid (fun b u e => Heap.get?_push_of_some _ e) (Nat.le_refl _) ⟨⟨pm, ctv, g⟩, ⟨_, g⟩, fun h1 h2 ⟨a, b, z⟩ st => ⟨a, b, st _ z⟩⟩
theorem TabS.step {H H' : Hp} {P : Addr} {q : Str} {ps : Array Value} (hP : H' P = some (.tbl ps)) (ht : TriplesOk ps.toList) (h : ∀ (pos : Pos) (cv : Value), codeAmong pos ps.toList = some cv → ∃ c, cv = .ref c ∧ H' c = some (CodeO c q)) : TabS H' P q := ⟨ps, hP, ht, h⟩
/-- all but the table stays, and it stays a table -/
theorem TabS.keep {H H' : Hp} {P : Addr} {q : Str} (t : TabS H P q) (hs : ∀ b o, H b = some o → (b = P ∨ ∃ φ, o = .ext φ) → H' b = some o) : TabS H' P q := by
  obtain ⟨ps, h1, h2, h3⟩ := t
  refine ⟨ps, hs _ _ h1 (.inl rfl), h2, fun pos cv hc => ?_⟩
  obtain ⟨c, e1, e2⟩ := h3 pos cv hc
  exact ⟨c, e1, hs _ _ e2 (.inr ⟨_, rfl⟩)⟩
/-- a lambda is made -/
theorem lam_new {c P : Addr} {params : Arguments} {body : Expr} {scope : Scope} {pos : Pos} {E : Value → Shared → Prop} {Q : Value → Shared → Prop} (I : Inv X pins σ H s) (TB : TabB X.base X.mg c P) (hcode : X.env.code = .ref c)
    (hT : TabS H P (X.env.qual ++ "<lambda>")) (hdef : defaultsOf params X.env = ([], [])) (hfree : ∀ y ∈ scope.names, y.2 = .free → ∃ c, X.env.cells.lookup y.1 = some c)
    (h : ∀ (f c' : Addr) (H1 : Hp) (s' : Shared), Inv X pins σ H1 s' → Step H [P] H1 [P] → TabS H1 P (X.env.qual ++ "<lambda>") → H f = none →
      H1 f = some (LamO f ⟨X.env.qual ++ "<lambda>", params, body, scope, cloFrom X.env.cells scope.names [], c'⟩) → H1 c' = some (CodeO c' (X.env.qual ++ "<lambda>")) → Q (.ref f) s') :
    wpAny (model X.prog X.w) X.A (eval (.Lambda params body scope pos) X.env) Q E s := by
  obtain ⟨ps, hP, ht, hall⟩ := hT
  refine PySem.W.kla_eval hdef ?_
  have tabB : s.heap.BuiltinsAt X.mg P := TB.bm.keeps I.bk
  have tabP : s.heap.get? P = some { cls := .none, data := .fields ps } := I.hok P _ hP
  have cloO := closure_ok (env := X.env) hfree
  cases hca : codeAmong pos ps.toList with
  | none =>
    refine PySem.W.kla_makeFunction (mg := X.mg) (c := c) (P := P) (ps := ps) cloO I.ok.glob (I.mod.glob.keeps I.bk) hcode (TB.code.keeps I.bk) tabP ht hca TB.gP tabB fun c' ctv h' tk hx hge hlt hrec htb => ?_
    obtain ⟨c2, oc, vs, tq, e2, hoc, hdat, hname⟩ := hrec
    cases e2
    have nC : H c' = none := I.hok.fresh hge
    have I1 := inv_table (t' := tk) (more := #[rawInt pos.line, rawInt pos.col, .ref c']) (h' := h') I hP (fun b o hb e => hx b o hb e) htb hge ⟨oc, vs, tq, hoc, hdat, hname⟩
    generalize hH1 : upd (upd H P (.tbl (ps ++ #[rawInt pos.line, rawInt pos.col, .ref c']))) c' (CodeO c' (X.env.qual ++ "<lambda>")) = Ha at I1
    have aP : Ha P = some (.tbl (ps ++ #[rawInt pos.line, rawInt pos.col, .ref c'])) := by rw [← hH1, upd_ne (ne_of_none hP nC), upd_same]
    have aC : Ha c' = some (CodeO c' (X.env.qual ++ "<lambda>")) := by rw [← hH1, upd_same]
    have aO : ∀ b o, H b = some o → b ≠ P → Ha b = some o := fun b o e n => by rw [← hH1, upd_ne (ne_of_none e nC), upd_ne n]; exact e
    have nF : Ha h'.objs.size = none := I1.hok.fresh (Nat.le_refl _)
    have nF0 : H h'.objs.size = none := I.hok.fresh (Nat.le_trans hge (Nat.le_of_lt hlt))
    have I2 := inv_lam (F := ⟨X.env.qual ++ "<lambda>", params, body, scope, cloFrom X.env.cells scope.names [], c'⟩) (t' := tk) (pm := (X.mg "__name__").getD .none) (ctv := ctv) I1
    have up : ∀ b o, Ha b = some o → upd Ha h'.objs.size (LamO h'.objs.size ⟨X.env.qual ++ "<lambda>", params, body, scope, cloFrom X.env.cells scope.names [], c'⟩) b = some o := fun b o e => (upd_ne (ne_of_none e nF)).trans e
    have eL : (ps ++ #[rawInt pos.line, rawInt pos.col, .ref c']).toList = ps.toList ++ [rawInt pos.line, rawInt pos.col, .ref c'] := by simp
    refine h h'.objs.size c' _ _ I2 (fun b o e n => ⟨up _ _ (aO b o e fun z => n (by rw [z]; exact List.mem_singleton.mpr rfl)), n⟩) (TabS.step (H := H) (up _ _ aP) (by rw [eL]; exact PySem.TriplesOk_snoc _ _ _ _ ht) fun p' cv hcv => ?_) nF0 upd_same (up _ _ aC)
    rw [eL] at hcv
    rcases among_app _ ht hcv with z | z
    · obtain ⟨c0, e1, e2⟩ := hall p' cv z
      exact ⟨c0, e1, up _ _ (aO _ _ e2 fun z => by rw [z, hP] at e2; exact codeO_ne _ (Option.some.inj e2).symm)⟩
    · exact ⟨c', z, up _ _ aC⟩
  | some cv =>
    obtain ⟨c', ec, hco⟩ := hall pos cv hca
    subst ec
    refine PySem.W.kla_makeFunctionHit (mg := X.mg) (c := c) (P := P) (ps := ps) cloO I.ok.glob (I.mod.glob.keeps I.bk) hcode (TB.code.keeps I.bk) tabP ht hca tabB fun ctv h' tk hx hsz => ?_
    have I1 : Inv X pins σ H { s with heap := h', toks := tk } := I.kept hx
    have nF : H h'.objs.size = none := I1.hok.fresh (Nat.le_refl _)
    have I2 := inv_lam (F := ⟨X.env.qual ++ "<lambda>", params, body, scope, cloFrom X.env.cells scope.names [], c'⟩) (t' := tk) (pm := (X.mg "__name__").getD .none) (ctv := ctv) I1
    have up : ∀ b o, H b = some o → upd H h'.objs.size (LamO h'.objs.size ⟨X.env.qual ++ "<lambda>", params, body, scope, cloFrom X.env.cells scope.names [], c'⟩) b = some o := fun b o e => (upd_ne (ne_of_none e nF)).trans e
    exact h h'.objs.size c' _ _ I2 (fun b o e n => ⟨up _ _ e, n⟩) (TabS.keep ⟨ps, hP, ht, hall⟩ fun b o e _ => up _ _ e) nF upd_same (up _ _ hco)
end
/-- the reading of a lambda: a new function at f -/
def tLamV (P : Addr) (q : Str) (mk : Addr → LM) : TE := fun σ H Q => TabS H P q ∧ ∀ (f c' : Addr) (H1 : Hp), Step H [P] H1 [P] → TabS H1 P q → H f = none → H1 f = some (LamO f (mk c')) → H1 c' = some (CodeO c' q) → Q (.ref f) H1
theorem pe_lamV {X : Cx} {c P : Addr} {params : Arguments} {body : Expr} {scope : Scope} {pos : Pos} (TB : TabB X.base X.mg c P) (hcode : X.env.code = .ref c) (hdef : defaultsOf params X.env = ([], []))
    (hfree : ∀ y ∈ scope.names, y.2 = .free → X.env.scope.names.lookup y.1 = some .cell ∨ X.env.scope.names.lookup y.1 = some .free) :
    PE X (.Lambda params body scope pos) (tLamV P (X.env.qual ++ "<lambda>") fun c' => ⟨X.env.qual ++ "<lambda>", params, body, scope, cloFrom X.env.cells scope.names [], c'⟩) := by
  refine ⟨fun pins s σ H Q I h => ?_⟩
  obtain ⟨hT, h⟩ := h
  exact lam_new I TB hcode hT hdef (fun y hy e => (hfree y hy e).elim (fun z => I.ok.has _ (.inl z)) fun z => I.ok.has _ (.inr z)) fun f c' H1 s' I1 st T1 f0 f1 c1 => ⟨.ref f, H1, I1, rfl, h f c' H1 st T1 f0 f1 c1⟩
/-! ### what it promises -/
/-- the promise of the lambda F at f: sp ws, ws what its captured cells hold -/
structure LOk (P : Program) (w : World) (K : PySem.W.Frag) (mg : Str → Option Value) (base : Heap) (CX : CXT) (k : Nat) (f : Addr) (F : LM) (fr : List Str) (sp : List (Option V) → Sp) : Prop where
  run : ∀ (A : Around) (outer : List Env) (s : Shared) (H : Hp) (us : List Value) (vs : List V) (ws : List (Option V)) (Q : VK) (E : XK), Room k A → Env0 P w K mg base A outer s H → H f = some (LamO f F) → H F.c = some (CodeO F.c F.q) →
    CellsAt F.cl fr ws s.heap H → Vals vs us → sp ws vs H Q E → codeAny (model P w) A (.call (.ref f) ⟨us, []⟩) (CR CX outer P w H s Q E) s
theorem lok_of {CX : CXT} {P : Program} {w : World} {K : PySem.W.Frag} {mg : Str → Option Value} {base : Heap} {N ps fr : List Str} {F : LM} {f : Addr} {k : Nat} {sp : List (Option V) → Sp} (S : NScope N ps fr F.scope)
    (hb : ∀ (pm ctv : Value) (us : List Value), us.length = ps.length → bindArgs (PySem.W.kla_fn "<lambda>" F.q F.params F.body F.scope F.cl pm (.ref F.c) ctv) ⟨us, []⟩ = pure (ps.zip us)) (len : ∀ ws vs H Q E, sp ws vs H Q E → vs.length = ps.length)
    (hbody : ∀ (A : Around) (outer : List Env) (s : Shared) (H : Hp) (vs : List V) (ws : List (Option V)) (Q : VK) (E : XK), Room k (A.deeper (envF F.nf f s.heap.objs.size)) → ws.length = fr.length → sp ws vs H Q E →
      ∃ t, PE (ncx CX P w K mg base N F.nf f A outer s H E) F.body t ∧ t (startF N vs ws) H Q) : LOk P w K mg base CX (k + 1) f F fr sp := by
  refine ⟨fun A outer s H us vs ws Q E hr e0 hf hc C r hsp => ?_⟩
  have hl := len _ _ _ _ _ hsp
  have nolim : s.heap.NoLimit := e0.mod.nolimit.keeps fun b o e => (e0.bs b o e).1
  obtain ⟨pm, ctv, ho⟩ := lamO_at e0.hok hf
  refine PySem.W.kla_callFunE hr.depth ho rfl S.co S.gen rfl (codeO_at e0.hok hc) ?_
  rw [hb pm ctv us (by rw [← r.length]; exact hl)]
  refine wpAny_pure (wpAny_newFunctionEnv S.nocell (fun ⟨n, _⟩ hy => S.par n (List.of_mem_zip hy).1) (fun h₁ hns hsb => ⟨nolim.fresh _ hsb, ?_⟩) S.kind)
  show codeAny _ _ (.expr F.body (envF F.nf f s.heap.objs.size)) _ _
  have kept : ∀ b o, s.heap.get? b = some o → h₁.get? b = some o := fun b o e => hsb.extBut b o (Nat.ne_of_lt (Heap.lt_size e)) (Heap.get?_push_of_some _ e)
  obtain ⟨t, ht, hq⟩ := hbody A outer s H vs ws Q E (hr.deeper _) C.len hsp
  have J : Inv (ncx CX P w K mg base N F.nf f A outer s H E) [] (startF N vs ws) H { s with heap := h₁, toks := s.toks + (ps.zip us).length } := inv_startN S hr.hd e0 hl r C hns kept
  refine PySem.W.kla_codeExpr (wpAny_mono (ht.run [] _ _ H Q J hq) (fun v s' hv => ?_) fun e s' hv => hv)
  obtain ⟨v', H', J', rv, q⟩ := hv
  exact ⟨v', H', J'.os, J'.bare, J'.base, J'.hok, rv, q⟩
/-- what the captured cells hold they hold as long as X runs -/
def CellsX (X : Cx) (cl : List (Str × Addr)) (fr : List Str) (ws : List (Option V)) : Prop := ∀ (pins : List (Addr × Obj)) (σ : L2.St) (H : Hp) (s : Shared), Inv X pins σ H s → CellsAt cl fr ws s.heap H
theorem cellsX_nil (X : Cx) : CellsX X [] [] [] := fun _ _ _ _ _ => ⟨rfl, fun y c e => (by cases e), fun x y c e => (by cases e), fun i y e => (by simp at e)⟩
theorem cellsX_of {X : Cx} {cl : List (Str × Addr)} {fr : List Str} {ws : List (Option V)} (C : CellsAt cl fr ws X.s_0.heap X.H_0) (hex : X.ex = []) : CellsX X cl fr ws := fun pins σ H s I => by
  have ne : ∀ b : Addr, b ∉ X.ex := fun b z => by
    rw [hex] at z
    cases z
  have kp : ∀ y c, cl.lookup y = some c → ∀ v, X.s_0.heap.IsCell c v → s.heap.IsCell c v := fun y c e v ⟨o, ho, hd⟩ => by
    obtain ⟨sl, g⟩ := I.base.any ho (C.all y c e).1 (ne c)
    exact ⟨_, g, hd⟩
  refine ⟨C.len, fun y c e => ?_, C.inj, fun i y e => ?_⟩
  · obtain ⟨n, v, z⟩ := C.all y c e
    refine ⟨?_, v, kp y c e v z⟩
    obtain ⟨o, ho, _⟩ := z
    exact I.base.free c o ho n (ne c)
  · obtain ⟨c, hc, hv⟩ := C.has i y e
    refine ⟨c, hc, fun v ev => ?_⟩
    obtain ⟨u, r, z⟩ := hv v ev
    exact ⟨u, r, kp y c hc _ z⟩
theorem fnAt_lam {X : Cx} {pins : List (Addr × Obj)} {σ : L2.St} {H : Hp} {s : Shared} {f : Addr} {F : LM} (I : Inv X pins σ H s) (e : H f = some (LamO f F)) : PySem.W.FnAt f s.heap := by
  obtain ⟨pm, ctv, ho⟩ := lamO_at I.hok e
  exact ⟨_, _, _, _, ho⟩
/-- a(..), a a name that holds a lambda -/
abbrev CLT := List (Str × Addr) → List Str → List (Option V) → Prop
def tLamC (P : Program) (w : World) (K : PySem.W.Frag) (mg : Str → Option Value) (base : Heap) (CL : CLT) (CX : CXT) (k i : Nat) (E : L2.St → XK) (t : TA) : TE := fun σ H Q => ∃ (f : Addr) (F : LM) (fr : List Str) (ws : List (Option V)) (sp : List (Option V) → Sp), σ[i]? = some (some (.ref f)) ∧ LOk P w K mg base CX k f F fr sp ∧ CL F.cl fr ws ∧ H f = some (LamO f F) ∧
  t σ H fun vs H1 => H1 f = some (LamO f F) ∧ H1 F.c = some (CodeO F.c F.q) ∧ sp ws vs H1 Q (E σ)
section
variable {X : Cx} {CX : CXT} {CL : CLT} {k i : Nat} {x : Str} {E : L2.St → XK} {t : TA} {e : Expr} {es : List Expr} {p pos : Pos}
theorem run_lam {pins : List (Addr × Obj)} {σ : L2.St} {H : Hp} {s : Shared} {Q : VK} {f : Addr} {F : LM} {fr : List Str} {ws : List (Option V)} {sp : List (Option V) → Sp} {us : List Value} {vs : List V} (L : LOk X.prog X.w X.K X.mg X.base CX k f F fr sp) (hr : Room k X.A) (hx : PassesAt CX X σ (E σ))
    (I : Inv X pins σ H s) (hf : H f = some (LamO f F)) (hc : H F.c = some (CodeO F.c F.q)) (C : CellsAt F.cl fr ws s.heap H) (r : Vals vs us) (q : sp ws vs H Q (E σ)) : wpAny (model X.prog X.w) X.A (call (.ref f) us) (EP X pins σ Q) X.xe s := by
  refine wpAny_call (codeAny_mono (L.run X.A X.stack s H us vs ws Q (E σ) hr I.env0 hf hc C r q) fun r s' hq => ?_)
  match r, hq with
  | .error e, hq => exact hx pins H s e s' I hq
  | .ok (.ret u), hq => exact I.after hq
theorem pe_lamC (hCL : ∀ cl fr ws, CL cl fr ws → CellsX X cl fr ws) (hr : Room k X.A) (hx : ∀ σ, PassesAt CX X σ (E σ)) (hN : X.N[i]? = some x) (hv : Vis X.env.scope x) (ha : PA X (e :: es) t) (hd : (x == ("__debug__" : Str)) = false := by decide) (hcd : (x == ("__classdict__" : Str)) = false := by decide)
    (he : starEach (e :: es) X.env = (false, eval e X.env) :: starEach es X.env := by rfl) (hpl : (backTo pos (starEach es X.env)).any (·.1) = false := by rfl) : PE X (.Call (.Name x p) (e :: es) [] pos) (tLamC X.prog X.w X.K X.mg X.base CL CX k i E t) := by
  refine ⟨fun pins s σ H Q I h => ?_⟩
  obtain ⟨f, F, fr, ws, sp, hs, L, C, hf, ht⟩ := h
  refine wpAny_Call_Name_kw (thn ((pe_var (pos := p) hN hv hd hcd).run pins s σ H (fun v H1 => v = .ref f ∧ H1 = H) I ⟨.ref f, hs, rfl, rfl⟩) fun u s1 ⟨v, Hb, I1, r1, ev, eH⟩ => ?_)
  subst ev eH
  obtain rfl : u = Value.ref f := r1
  refine PySem.W.callWith_F (first := []) (fnAt_lam I1 hf) (thn (ha.run pos pins s1 σ _ _ I1 ht) fun us s2 ⟨vs, H2, I2, r, h1, h2, q⟩ => ⟨fnAt_lam I2 h1, ?_⟩) he hpl
  show wpAny _ _ (call (.ref f) us) _ _ _
  exact run_lam L hr (hx σ) I2 h1 h2 (hCL _ _ _ C _ _ _ _ I2) r q
theorem pe_lamC0 (hCL : ∀ cl fr ws, CL cl fr ws → CellsX X cl fr ws) (hr : Room k X.A) (hx : ∀ σ, PassesAt CX X σ (E σ)) (hN : X.N[i]? = some x) (hv : Vis X.env.scope x) (hd : (x == ("__debug__" : Str)) = false := by decide) (hcd : (x == ("__classdict__" : Str)) = false := by decide) :
    PE X (.Call (.Name x p) [] [] pos) (tLamC X.prog X.w X.K X.mg X.base CL CX k i E tNil) := by
  refine ⟨fun pins s σ H Q I h => ?_⟩
  obtain ⟨f, F, fr, ws, sp, hs, L, C, hf, h1, h2, q⟩ := h
  refine wpAny_Call_Name_kw (thn ((pe_var (pos := p) hN hv hd hcd).run pins s σ H (fun v H1 => v = .ref f ∧ H1 = H) I ⟨.ref f, hs, rfl, rfl⟩) fun u s1 ⟨v, Hb, I1, r1, ev, eH⟩ => ?_)
  subst ev eH
  obtain rfl : u = Value.ref f := r1
  refine PySem.W.callWith_F0 (first := []) (fnAt_lam I1 hf) ?_
  show wpAny _ _ (call (.ref f) []) _ _ _
  exact run_lam L hr (hx σ) I1 h1 h2 (hCL _ _ _ C _ _ _ _ I1) .nil q
end
/-! ### defs whose promise speaks of the very state (they get lambdas) -/
structure FnS (P : Program) (w : World) (K : PySem.W.Frag) (mg : Str → Option Value) (base : Heap) (CX : CXT) (k : Nat) (f : Addr) (fd : FuncData) (ps : List Str) (sp : Shared → Sp) : Prop where
  len : ∀ s vs H Q E, sp s vs H Q E → vs.length = ps.length
  run : ∀ (A : Around) (outer : List Env) (s : Shared) (H : Hp) (args : Args) (us : List Value) (vs : List V) (Q : VK) (E : XK), Room k A → Env0 P w K mg base A outer s H → BindsTo s fd args (ps.zip us) → Vals vs us → sp s vs H Q E →
    codeAny (model P w) A (.call (.ref f) args) (CR CX outer P w H s Q E) s
theorem fnS_of {P : Program} {w : World} {K : PySem.W.Frag} {mg : Str → Option Value} {base : Heap} {x qual : Str} {st : Stmt} {f : Addr} {fd : FuncData} {N ps : List Str} {k : Nat} {sp : Shared → Sp} (F : Fun K x qual st f fd) (S : FnScope N ps (defScope st)) (len : ∀ s vs H Q E, sp s vs H Q E → vs.length = ps.length)
    (hbody : ∀ (cdv : Value) (A : Around) (outer : List Env) (s : Shared) (H : Hp) (vs : List V) (Q : VK) (E : XK), Room k (A.deeper (envOfC qual (defScope st) s.heap.objs.size f cdv)) → sp s vs H Q E →
      ∃ t, PSs (cxOf L2.CX0 P w K mg base N qual (defScope st) f cdv A outer s H E).nox (defBody st) t ∧ t { nx := fun _ H' => Q .non H', rt := Q } (L2.start N vs) H) : FnS P w K mg base L2.CX0 (k + 1) f fd ps sp := by
  obtain ⟨oc, od, kV, doc, pm, an, cdv, ct, osl, rfl, lk, hcd⟩ := F.ex
  refine ⟨len, fun A outer s H args us vs Q E hr e0 hb r hsp => run_ofS lk hcd S hr e0 hb r (len _ _ _ _ _ hsp) fun hr' => ?_⟩
  obtain ⟨t, ht, q⟩ := hbody cdv A outer s H vs Q E hr' hsp
  exact ⟨t, ht.nox, q⟩
def tCallQ (X : Cx) (sp : Shared → Sp) (E : XK) (t : TA) : TE := fun σ H Q => t σ H fun vs H1 => ∀ (pins : List (Addr × Obj)) (s : Shared), Inv X pins σ H1 s → sp s vs H1 Q E
theorem pe_callQ {X : Cx} {CX : CXT} {k : Nat} {f : Addr} {fd : FuncData} {ps : List Str} {sp : Shared → Sp} {E : XK} {x : Str} {p pos : Pos} {e : Expr} {es : List Expr} {t : TA} (F : FnS X.prog X.w X.K X.mg X.base CX k f fd ps sp) (hr : Room k X.A) (hg : Gl X x) (hm : X.mg x = some (.ref f))
    (hk : PySem.W.keepIn X.K (.ref f) = true) (hb : L2.Binds X.K fd ps []) (hx : Passes CX X E) (ha : PA X (e :: es) t) (hdb : (x == ("__debug__" : Str)) = false := by decide)
    (he : starEach (e :: es) X.env = (false, eval e X.env) :: starEach es X.env := by rfl) (hpl : (backTo pos (starEach es X.env)).any (·.1) = false := by rfl) : PE X (.Call (.Name x p) (e :: es) [] pos) (tCallQ X sp E t) := by
  refine ⟨fun pins s σ H Q I h => ?_⟩
  refine wpAny_Call_Name_kw (ld_glob I hg hm ?_ hdb)
  refine PySem.W.callWith_K (h₀ := X.base) I.ok.mod.kin hk (thn (ha.run pos pins s σ H _ I h) fun us s1 ⟨vs, H1, I1, r, q⟩ => ⟨I1.kIn, ?_⟩) he hpl
  have q := q pins s1 I1
  have hl : us.length = ps.length := by rw [← r.length]; exact F.len _ _ _ _ _ q
  have b := hb s1 us I1.kIn (by rw [List.append_nil]; exact hl)
  rw [List.append_nil] at b
  refine wpAny_call (codeAny_mono (F.run X.A X.stack s1 H1 ⟨us, []⟩ us vs Q E hr I1.env0 b r q) fun r s' hq => ?_)
  match r, hq with
  | .error e, hq => exact hx pins σ H1 s1 e s' I1 hq
  | .ok (.ret u), hq => exact I1.after hq
/-- in the state s the lambda at f (its code at c) keeps the promise spL -/
def LamAt (P : Program) (w : World) (K : PySem.W.Frag) (mg : Str → Option Value) (base : Heap) (CX : CXT) (k : Nat) (s : Shared) (H : Hp) (f c : Addr) (spL : Sp) : Prop :=
  ∃ (F : LM) (fr : List Str) (ws : List (Option V)) (sp : List (Option V) → Sp), F.c = c ∧ LOk P w K mg base CX k f F fr sp ∧ H f = some (LamO f F) ∧ H c = some (CodeO c F.q) ∧ CellsAt F.cl fr ws s.heap H ∧ ∀ vs H' Q E, spL vs H' Q E → sp ws vs H' Q E
/-- what was so when X began -/
abbrev CL0 (s : Shared) (H : Hp) : CLT := fun cl fr ws => CellsAt cl fr ws s.heap H
abbrev CLn : CLT := fun cl fr ws => cl = [] ∧ fr = [] ∧ ws = []
theorem cl_n {X : Cx} : ∀ cl fr ws, CLn cl fr ws → CellsX X cl fr ws := fun cl fr ws ⟨e1, e2, e3⟩ => by
  subst e1 e2 e3
  exact cellsX_nil X
theorem cl_0 {X : Cx} (hex : X.ex = []) : ∀ cl fr ws, CL0 X.s_0 X.H_0 cl fr ws → CellsX X cl fr ws := fun cl fr ws C => cellsX_of C hex
theorem cl_at {X : Cx} {s : Shared} {H : Hp} (hs : X.s_0 = s) (hH : X.H_0 = H) (hex : X.ex = []) : ∀ cl fr ws, CL0 s H cl fr ws → CellsX X cl fr ws := by
  subst hs hH
  exact cl_0 hex
/-- the lambda called: from what was so when the def began -/
theorem lamAt_call {P : Program} {w : World} {K : PySem.W.Frag} {mg : Str → Option Value} {base : Heap} {CX : CXT} {k i : Nat} {E : L2.St → XK} {t : TA} {σ : L2.St} {s0 : Shared} {H0 H : Hp} {Q : VK} {f c : Addr} {spL : Sp} (L : LamAt P w K mg base CX k s0 H0 f c spL) (hs : σ[i]? = some (some (.ref f))) (h0 : H f = H0 f)
    (ht : ∀ R : List V → Hp → Prop, (∀ vs H1, H1 f = H0 f → H1 c = H0 c → spL vs H1 Q (E σ) → R vs H1) → t σ H R) : tLamC P w K mg base (CL0 s0 H0) CX k i E t σ H Q := by
  obtain ⟨F, fr, ws, sp, rfl, LO, hf, hc, C, hsp⟩ := L
  exact ⟨f, F, fr, ws, sp, hs, LO, C, by rw [h0]; exact hf, ht _ fun vs H1 e1 e2 q => ⟨by rw [e1]; exact hf, by rw [e2]; exact hc, hsp _ _ _ _ q⟩⟩
end Hf
/-! ## what a def that makes lambdas leaves: all but its table -/
namespace Hf
open PySem PySem.Spec PyProof.Rows L2 LamX NdefX
theorem Step.seqP {K : PySem.W.Frag} {H H' : Hp} {A A' : List Addr} {a P : Addr} {q : Str} {xs : List V} (e : Step H (P :: A) H' A') (t : TabS H P q) (n : a ∉ A) (h : SqL K H a xs) : SqL K H' a xs := by
  obtain ⟨ps, hP, _⟩ := t
  rcases h with (h | ⟨o, h⟩) | h
  · exact .inl (.inl (e _ _ h fun z => (List.mem_cons.mp z).elim (fun z => by rw [z, hP] at h; cases h) n).1)
  · exact .inl (.inr ⟨o, (e _ _ h fun z => (List.mem_cons.mp z).elim (fun z => by rw [z, hP] at h; cases h) n).1⟩)
  · exact .inr h
/-- where the table and the code objects stay -/
theorem TabS.stepK {H H' : Hp} {A A' : List Addr} {P : Addr} {q : Str} (t : TabS H P q) (st : Step H A H' A') (hA : ∀ b o, b ∈ A → H b = some o → (∃ C dx fs, o = .ins C dx fs) ∨ ∃ xs, o = .lst xs) : TabS H' P q := by
  obtain ⟨ps, h1, h2, h3⟩ := t
  refine ⟨ps, (st _ _ h1 fun z => ?_).1, h2, fun pos cv hc => ?_⟩
  · rcases hA _ _ z h1 with ⟨_, _, _, e⟩ | ⟨_, e⟩ <;> cases e
  · obtain ⟨c, e1, e2⟩ := h3 pos cv hc
    refine ⟨c, e1, (st _ _ e2 fun z => ?_).1⟩
    rcases hA _ _ z e2 with ⟨_, _, _, e⟩ | ⟨_, e⟩ <;> cases e
theorem TabS.same {H H' : Hp} {P : Addr} {q : Str} (t : TabS H P q) (s : Same H H') : TabS H' P q := t.ext s
theorem EvenAt.kinds {C : Addr} {H : Hp} {p : Addr} {A : List Addr} {ts : List Int} {l : Int} (h : EvenAt C H p A ts l) : ∀ b o, b ∈ A → H b = some o → (∃ C dx fs, o = .ins C dx fs) ∨ ∃ xs, o = .lst xs := by
  obtain ⟨L, e, rfl, ⟨⟨⟨dx, hp⟩, hr⟩, _⟩, _⟩ := h
  intro b o hb hx
  rcases mem_own.mp hb with rfl | ⟨x, rfl⟩
  · rw [hp] at hx
    cases hx
    exact .inl ⟨_, _, _, rfl⟩
  · rw [hr x] at hx
    cases hx
    exact .inr ⟨_, rfl⟩
theorem HalfAt.kinds {C : Addr} {H : Hp} {p : Addr} {A : List Addr} {xs ys : List Int} {n : Int} (h : HalfAt C H p A xs ys n) : ∀ b o, b ∈ A → H b = some o → (∃ C dx fs, o = .ins C dx fs) ∨ ∃ xs, o = .lst xs := by
  obtain ⟨dx, f, b', rfl, h1, h2, h3, _⟩ := h
  intro b o hb hx
  simp at hb
  rcases hb with rfl | rfl | rfl
  · rw [h1] at hx
    cases hx
    exact .inl ⟨_, _, _, rfl⟩
  · rw [h2] at hx
    cases hx
    exact .inr ⟨_, rfl⟩
  · rw [h3] at hx
    cases hx
    exact .inr ⟨_, rfl⟩
theorem ext_notin {H : Hp} {A : List Addr} {b : Addr} {φ : Heap → Prop} (hA : ∀ b o, b ∈ A → H b = some o → (∃ C dx fs, o = .ins C dx fs) ∨ ∃ xs, o = .lst xs) (e : H b = some (.ext φ)) : b ∉ A := fun z => by
  rcases hA _ _ z e with ⟨_, _, _, q⟩ | ⟨_, q⟩ <;> cases q
theorem tab_notin {H : Hp} {A : List Addr} {P : Addr} {q : Str} (hA : ∀ b o, b ∈ A → H b = some o → (∃ C dx fs, o = .ins C dx fs) ∨ ∃ xs, o = .lst xs) (t : TabS H P q) : P ∉ A := fun z => by
  obtain ⟨ps, h1, _⟩ := t
  rcases hA _ _ z h1 with ⟨_, _, _, q⟩ | ⟨_, q⟩ <;> cases q
theorem Step.sub {H H' : Hp} {A A' B : List Addr} (st : Step H A H' A') (h : ∀ b o, H b = some o → b ∈ A → b ∈ B) (hB : ∀ b o, H b = some o → b ∉ B → b ∉ A' → b ∉ B) : Step H B H' (A' ++ B) := fun q o e hq => by
  have r := st q o e fun z => hq (h q o e z)
  exact ⟨r.1, fun z => (List.mem_append.mp z).elim r.2 hq⟩
end Hf
/-! ## the end of a law some of whose defs make lambdas -/
namespace Hf
open PySem PySem.Spec PyProof.Rows L2 LamX
/-- the tables of the defs named in xs are empty where the law begins -/
def TabsOf (K : PySem.W.Frag) (xs : List Str) (h : Heap) : Prop := ∀ x ∈ xs, ∀ c P : Addr, PySem.W.tabIn K x = some (c, P) → PySem.W.CodeHd h c P ∧ h.get? P = some { cls := .none, data := .fields #[] }
theorem walk_tabs {l : PySem.W.OpenLaw} {n k : Nat} {q : Program} {loose : List Str} {XP : (Str → Option Value) → Heap → Prop} {YP : World → Heap → Prop} {d : DefRec} {K : Params → PySem.W.Frag} {x : Str} {xs : List Str}
    (hn : l.most = some n) (hn2 : n ≤ sizeLine) (hdf : d.params.defaults = []) (hr : Room k callerA) (hrec : (xs.all fun x => (recsOf q).any fun e => e.name == x) = true) (hY : ∀ (w : World) (h : Heap), YP w h → (K w.params).In h)
    (F : ∀ (w : World) (mg : Str → Option Value) (fa : Addr) (h : Heap), (K w.params).In h → h.Ns mainGlobals mg → mg d.name = some (.ref fa) → TabsOf (K w.params) xs h → LawAtS l w (K w.params) L2.CX0 k n x mg fa h) :
    PySem.W.WalkO q loose XP YP l.row.toRowW d [] (fun f vs => PySem.call f vs) := by
  refine Att.attach_callB hn hdf fun w s₀ s₁ mg mb fa o pm cd doc a vs ns G Y ho hd hcd hmg hobj hints hlen hbits hg => ?_
  have KX := hY w _ Y
  have tabs : TabsOf (K w.params) xs s₁.heap := fun y hy c P ht => by
    obtain ⟨dL, hm, he⟩ := List.any_eq_true.mp (List.all_eq_true.mp hrec y hy)
    cases hf : (recsOf q).find? (fun e => e.name == y) with
    | none => exact absurd he (List.find?_eq_none.mp hf dL hm)
    | some d' => exact PySem.W.tab_of G.T KX hf ht
  obtain ⟨fd, cs, sp, hT, nT, hC, hb, hsp, hF⟩ := F w mg fa _ KX G.T.g hmg tabs
  exact law_callTs KX G.T.g G.T.b G.T.builtins G.T.nolimit hg hT nT hC G.T.bmain hobj hints (Nat.le_trans hlen hn2) hr hF hb (fun H hH hS => hsp H a ns hlen hbits hH hS) fun H e s' z => z
end Hf
/-! ## two objects side by side -/
namespace Hf
open PySem PySem.Spec PyProof.Rows L2
def Apart (A B : List Addr) : Prop := ∀ x, x ∈ A → x ∉ B
theorem Apart.symm {A B : List Addr} (h : Apart A B) : Apart B A := fun x hb ha => h x ha hb
/-- a deed at the one (A) leaves what is the other's (B) alone -/
theorem Step.apart {H H' : Hp} {A A' B : List Addr} (st : Step H A H' A') (tr : ∀ q, q ∈ B → ∃ o, H q = some o) (ap : Apart B A) : Apart B A' := fun x hx => by
  obtain ⟨o, e⟩ := tr x hx
  exact (st x o e (ap x hx)).2
theorem Step.rest {H H' : Hp} {A A' B : List Addr} (st : Step H A H' A') (ap : Apart B A) : ∀ q o, q ∈ B → H q = some o → H' q = some o := fun q o hq e => (st q o e (ap q hq)).1
theorem Step.left {H H' : Hp} {A A' B : List Addr} (st : Step H A H' A') : Step H (A ++ B) H' (A' ++ B) := fun q o e hq => by
  rw [List.mem_append] at hq
  have h := st q o e fun z => hq (.inl z)
  refine ⟨h.1, ?_⟩
  rw [List.mem_append]
  exact fun z => z.elim h.2 fun z => hq (.inr z)
theorem Step.right {H H' : Hp} {A A' B : List Addr} (st : Step H A H' A') : Step H (B ++ A) H' (B ++ A') := fun q o e hq => by
  rw [List.mem_append] at hq
  have h := st q o e fun z => hq (.inr z)
  refine ⟨h.1, ?_⟩
  rw [List.mem_append]
  exact fun z => z.elim (fun z => hq (.inl z)) h.2
theorem Step.both {H H' : Hp} {A B A' B' : List Addr} (h : Step H A H' A') (g : Step H [] H' B') (hB : B = []) : Step H (A ++ B) H' (A' ++ B') := fun q o e hq => by
  subst hB
  rw [List.append_nil] at hq
  have h1 := h q o e hq
  have h2 := g q o e (by simp)
  exact ⟨h1.1, by rw [List.mem_append]; exact fun z => z.elim h1.2 h2.2⟩
end Hf
namespace Hf
open PySem PySem.Spec PyProof.Rows L2
/-! ### t[::-1] of a pair -/
section
variable {prog : Program} {w : World} {A : Around} {E : Value → Shared → Prop} {s : Shared}
theorem back_applied {sl : Addr} {vs : Value} {Q : Int × Int × Nat → Shared → Prop} (hs : s.heap.IsSliceOf sl .none .none vs) (ps : IsPart vs (some (-1))) (h : Q (1, -1, 2) s) :
    wpAny (model prog w) A (Builtin.Slice.sliceApplied (.ref sl) (pure ((2 : Nat) : Int))) Q E s := by
  obtain ⟨os, hos, hcs, hds⟩ := id hs
  unfold Builtin.Slice.sliceApplied Builtin.Slice.sliceFields
  refine wpAny_bind (wpAny_bind (wpAny_field hos hds (x := .none) rfl (wpAny_bind (wpAny_field hos hds (x := .none) rfl (wpAny_bind (wpAny_field hos hds (x := vs) rfl (wpAny_pure ?_)))))))
  refine wpAny_bind (HT.slicePart_ ps ?_)
  show wpAny _ _ (if ((-1 : Int) == 0) = true then _ else _) _ _ s
  rw [if_neg (by decide)]
  refine wpAny_bind (HT.slicePart_ .none (wpAny_bind (HT.slicePart_ .none (wpAny_bind (wpAny_pure ?_)))))
  exact wpAny_pure h
theorem getItem_pair_back {t sl : Addr} {u v vs : Value} {Q : Value → Shared → Prop} (ht : IsTup s.heap t #[u, v]) (hs : s.heap.IsSliceOf sl .none .none vs) (ps : IsPart vs (some (-1)))
    (h : Q (.ref s.heap.objs.size) { s with heap := s.heap.push { cls := .type "tuple", data := .seq #[v, u] } }) : wpAny (model prog w) A (getItem (.ref t) (.ref sl)) Q E s := by
  obtain ⟨os, hos, hcs, hds⟩ := id hs
  have hTs : s.TypeIs (.ref sl) "slice" := ⟨os, hos, hcs⟩
  unfold getItem
  try with_reducible refine wpAny_holding ?_
  first | refine wpAny_bind (wpAny_pure ?_) | skip
  refine wpAny_bind (wpAny_sequenceKey ht.typeIs (by decide) ?_)
  refine wpAny_bind (wpAny_callSpecial?_slot (name := Str.ofString "__getitem__") ht.typeIs PyProof.Rows.slot_tuple_getitem
    (wpAny_call_entry PyProof.Rows.slot_tuple_getitem ht.typeIs entry_tuple_getitem ?_ (args_tuple_getitem _ _)))
  show wpAny _ _ (Builtin.Tuple.tupleItemsOf (.ref t) >>= _) _ _ s
  refine wpAny_bind (tupleItemsOf_ ht ?_)
  refine wpAny_bind (wpAny_typeOf hTs ?_)
  rw [if_pos (by decide)]
  refine wpAny_bind (back_applied hs ps ?_)
  show wpAny _ _ (if ((1 : Int) == 0 && (-1 : Int) == 1 && (2 : Nat) == 2) = true then _ else _) _ _ s
  rw [if_neg (by decide)]
  have e : ((List.range 2).filterMap fun (k : Nat) => (#[u, v] : Array Value)[(1 + (k : Int) * (-1)).toNat]?).toArray = #[v, u] := rfl
  rw [e]
  exact wpAny_bind (m := Builtin.Tuple.tupleExact _) (wpAny_newObj_type (wpAny_pure ⟨_, rfl, wpAny_pure h⟩) (by show 2 ≤ sizeLine; decide))
end
def tRev2 (K : PySem.W.Frag) (te : TE) : TE := fun σ H Q => te σ H fun x H1 => ∃ a y z, x = .ref a ∧ SqT K H1 a [y, z] ∧ ∀ p, H1 p = none → Q (.ref p) (upd H1 p (.tup [z, y]))
theorem pe_rev2 {X : Cx} {e : Expr} {te : TE} {k : Nat} {p1 p2 p3 pos : Pos} (he : PE X e te) : PE X (.Subscript e (.Slice none none (some (.UnaryOp .USub (.Constant (.int 1) k p1) p2)) p3) pos) (tRev2 X.K te) := by
  refine ⟨fun pins s σ H Q I h => ?_⟩
  refine Subscript_ (thn (he.run pins s σ H _ I h) fun v s1 ⟨x, H1, I1, r1, a, y, z, ex, hx, q⟩ => ?_)
  subst ex
  cases r1
  have hst : PO X (some (.UnaryOp .USub (.Constant (.int 1) k p1) p2)) (tPart (tUn (rU fun i => .int (-i)) (tC (.int 1)))) := po_some (pe_un un_neg pe_int)
  refine wpAny_Slice ?_
  rw [evalPart_none]
  refine wpAny_pure (wpAny_pure ?_)
  refine thn (hst.run pins s1 σ H1 (fun o H4 => o = some (-1) ∧ H4 = H1) I1 ⟨1, rfl, -1, rfl, rfl, rfl⟩) fun vs s4 ⟨o, H4, I4, ps, eo, e4⟩ => ?_
  subst eo e4
  have I5 : Inv X pins σ H4 { s4 with heap := s4.heap.push { cls := .type "slice", data := .fields #[.none, .none, vs] } } := I4.kept (t' := s4.toks) fun b ob q => Heap.get?_push_of_some _ q
  obtain ⟨its, r, ht, hz⟩ := I5.tuple hx
  cases r with
  | cons ra rr =>
    cases rr with
    | cons rb rr =>
      cases rr
      refine tail_any (ops := [.ref a, .ref s4.heap.objs.size]) ht.typeIs PyProof.Rows.slot_tuple_getitem.lookup ?_ (by with_unfolding_all rfl)
      refine getItem_pair_back ht (Heap.IsSliceOf.new _ .none .none vs) ps ?_
      refine ⟨.ref _, _, I5.laid (t' := s4.toks) (o := .tup [z, y]) (fun b ob q => Heap.get?_push_of_some _ q) (Nat.le_refl _) ?_, rfl, q _ (I5.hok.fresh (Nat.le_refl _))⟩
      exact ⟨by show 2 ≤ sizeLine; decide, _, .cons rb (.cons ra .nil), IsTup.new _ _⟩
end Hf
/-! ## a comprehension whose element may look back to where the def began -/
namespace Hf
open PySem PySem.Spec PyProof.Rows L2 LamX NdefX
theorem pe_lcQ {X : Cx} {elt tg iter : Expr} {scope : Scope} {own : List (Str × Nat)} {pos : Pos} {wi : TI} {g : TG} {te : TE} (calm : X.calm = true) (nod : X.N.Nodup) (hit : PI X tg iter wi) (blk : BlkOk X.N X.env.scope scope own)
    (htg : ∀ (s : Shared) (H : Hp) (C : Addr) (cl : List (Str × Addr)) (fp : List Addr), PG (X.blk s H scope (compEnvC scope cl C X.env) fp) tg g)
    (helt : ∀ (s : Shared) (H : Hp) (C : Addr) (cl : List (Str × Addr)) (fp : List Addr), Un X.fs X.ex X.H_0 H X.s_0.heap s.heap → (∀ b ∈ fp, b ∈ X.ex ∨ X.s_0.heap.objs.size ≤ b) → PE (X.blk s H scope (compEnvC scope cl C X.env) fp) elt te)
    (hfold : ∀ x, foldedSetIterable iter X.env x = pure x := by intro _; rfl) : PE X (.ListComp elt [⟨tg, iter, [], 0⟩] scope pos) (tLc wi g tYes te (own.map (·.2))) := by
  refine ⟨fun pins s σ H Q I rd => ?_⟩
  rw [eval_ListComp]
  have capt : ∀ y ∈ scope.names, y.2 = .free → ∃ c, X.env.cells.lookup y.1 = some c := fun y hy e => (blk.free y hy e).elim (fun z => I.ok.has _ (.inl z)) fun z => I.ok.has _ (.inr z)
  refine wpAny_comprehension_free rfl hfold (closure_ok capt) blk.kind (fun y hy e => by rw [blk.uniq y hy, e]) (thn (hit.run pins s σ H _ I rd) fun xv sa hx => thn hx fun itv sb hb => ?_)
  obtain ⟨it, fp, tn, J, Hb, rfl, Ib, T, stb, fpb, q⟩ := hb
  refine wpAny_newObj_type (newEnv_comp ?_) (by show 0 ≤ sizeLine; decide)
  -- the new list
  generalize hD : sb.heap.objs.size = D
  have freeD : Hb D = none := Ib.hok.fresh (Nat.le_of_eq hD)
  obtain ⟨W, ⟨m0, w0⟩, turn⟩ := q D freeD
  generalize hsc : ({ sb with heap := sb.heap.push { cls := .type "list", data := .seq ([] : List Value).toArray } } : Shared) = sc
  have hpc : sc.heap = sb.heap.push { cls := .type "list", data := .seq ([] : List Value).toArray } := by rw [← hsc]
  have Ic : Inv X pins σ (upd Hb D (.lst [])) sc := by
    rw [← hsc]
    exact Ib.laid (t' := sb.toks) (fun b o e => Heap.get?_push_of_some _ e) (Nat.le_of_eq hD) ⟨Nat.zero_le _, [], 0, .nil, by rw [← hD]; exact Heap.get?_push_size _ rfl⟩
  have fpc : ∀ b ∈ fp, FpOk X pins (upd Hb D (.lst [])) b ∧ b < sc.heap.objs.size := fun b hb => by
    obtain ⟨o, e, _⟩ := T.obj _ _ stb b hb
    have lt := Heap.lt_size e
    refine ⟨⟨?_, (fpb b hb).2⟩, by rw [hpc, Heap.size_push]; exact Nat.lt_succ_of_lt lt⟩
    rw [upd_ne (by rw [← hD]; exact Nat.ne_of_lt lt)]
    exact (fpb b hb).1
  have stc : tn 0 sc.heap := T.keep _ _ _ stb fun b _ o e => by rw [hpc]; exact Heap.get?_push_of_some _ e
  have Id := block_start Ic blk nod fpc
  have nofp : ∀ b ∈ fp, (upd Hb D (.lst [])) b = none := fun b hb => (fpc b hb).1.1
  have tgP := htg sc (upd Hb D (.lst [])) sc.heap.objs.size (cellsFrom (sc.heap.objs.size + 1) scope.names (cloFrom X.env.cells scope.names [])) fp
  have eltP := helt sc (upd Hb D (.lst [])) sc.heap.objs.size (cellsFrom (sc.heap.objs.size + 1) scope.names (cloFrom X.env.cells scope.names [])) fp Ic.base fun b hb => (fpc b hb).1.2.2.2.1
  show codeAny _ _ (.compStart (.ListComp elt [⟨tg, iter, [], 0⟩] scope pos) 0 (.ref it) (.ref D) (compEnvC scope (cellsFrom (sc.heap.objs.size + 1) scope.names (cloFrom X.env.cells scope.names [])) sc.heap.objs.size X.env)) _ { sc with heap := pushCells (sc.heap.push { cls := .type "dict", data := .dict #[] }) scope.names }
  generalize hce : compEnvC scope (cellsFrom (sc.heap.objs.size + 1) scope.names (cloFrom X.env.cells scope.names [])) sc.heap.objs.size X.env = ce at Id tgP eltP ⊢
  have ceL : ce.locals = sc.heap.objs.size := by subst hce; rfl
  generalize hHc : upd Hb D (.lst []) = Hc at Ic Id tgP eltP w0 nofp fpc
  generalize hsd : ({ sc with heap := pushCells (sc.heap.push { cls := .type "dict", data := .dict #[] }) scope.names } : Shared) = sd at Id ⊢
  have std : tn 0 sd.heap := T.keep _ _ _ stc fun b _ o e => by rw [← hsd]; exact pushCells_keeps _ _ _ _ (Heap.get?_push_of_some _ e)
  have fpY : ∀ {σ' : L2.St} {H' : Hp} {s' : Shared}, Inv (X.blk sc Hc scope ce fp) [] σ' H' s' → (∀ b ∈ fp, H' b = none) → ∀ b ∈ fp, FpOk (X.blk sc Hc scope ce fp) [] H' b := fun {σ' H' s'} I' hn b hb =>
    ⟨hn b hb, (I'.ok.exf b hb).1, I'.ok.exfs b hb, .inl hb, fun x c e => (I'.ok.exf b hb).2 x c e, fun p hp => absurd (show p ∈ ([] : List (Addr × Obj)) ++ [] from hp) (by simp)⟩
  have loop : codeAny (model X.prog X.w) X.A (.compLoop (.ListComp elt [⟨tg, iter, [], 0⟩] scope pos) 0 (.ref it) (.ref D) ce) (compPost (model X.prog X.w) X.A X.xe none (EP X pins σ Q) (.ref D) sc.heap.objs.size) sd := by
    refine compLoop_any (fun n s' => ∃ i H', Inv (X.blk sc Hc scope ce fp) [] (wipe σ (own.map (·.2))) H' s' ∧ tn i s'.heap ∧ (∀ b ∈ fp, H' b = none) ∧ W i n H') ?_ m0 ⟨0, Hc, Id, std, nofp, w0⟩
    rintro n se ⟨i, He, Ie, ste, ne, we⟩
    rcases turn i n He we with ⟨stop, qq⟩ | ⟨go, Nx, hNx, step⟩
    · refine thnF (T.done (X.blk sc Hc scope ce fp) rfl rfl rfl calm i [] se _ He (fun _ _ => False) Ie (fpY Ie ne) ste stop) fun r sf ⟨hr, If⟩ => ?_
      subst hr
      have Ig : Inv X pins σ He sf := Ic.call' (ch := fp) If.os If.base If.hok If.bare fun b hb => ⟨(fpc b hb).1.2.2.2.1, (fpc b hb).1.2.1, (fpc b hb).1.2.2.2.2.1, (fpc b hb).1.2.2.2.2.2⟩
      have nC : He sc.heap.objs.size = none := by
        have z : He ce.locals = none := If.free
        rw [ceL] at z
        exact z
      obtain ⟨m, hn, _⟩ := If.loc
      have hn : sf.heap.Ns ce.locals m := hn
      rw [ceL] at hn
      obtain ⟨f0, f1, f2, f3, f4, f5⟩ := Ic.fpOk (Nat.le_refl _) nC
      exact ⟨m, hn, fun h'' sbut => ⟨.ref D, He, Ig.turned (t' := sf.toks) (fun b o hb e => (sbut.2 b hb).trans e) f0 f1 f3 f4 f5, rfl, qq⟩⟩
    · refine thnF (T.item (X.blk sc Hc scope ce fp) rfl rfl rfl calm i [] se _ He (fun _ _ => False) Ie (fpY Ie ne) ste go) fun r sf ⟨u, hr, hf⟩ => ?_
      subst hr
      refine thnF hf fun _ sg ⟨x, Hg, Ig, rg, yg, stg, ng⟩ => ?_
      refine thnF (tgP.run _ sg _ Hg x u _ (Ig.pinned (fpY Ig ng) (T.obj _ _ stg)) rg (step x Hg yg)) fun _ sh ⟨σh, Hh, Ih, wh, qh⟩ => ?_
      refine thnF ((pts_nil (X := X.blk sc Hc scope ce fp)).run _ sh σh Hh _ Ih qh) fun b si ⟨Hi, Ii, qi⟩ => ?_
      have fin : ∀ {s' : Shared} {H' : Hp}, Inv (X.blk sc Hc scope ce fp) ([] ++ pinsAt fp sg.heap) σh H' s' → Nx H' → ∃ m, m < n ∧ ∃ i H', Inv (X.blk sc Hc scope ce fp) [] (wipe σ (own.map (·.2))) H' s' ∧ tn i s'.heap ∧ (∀ b ∈ fp, H' b = none) ∧ W i m H' := fun {s' H'} I' nx => by
        obtain ⟨m', hm, w'⟩ := hNx H' nx
        have pin' : ∀ b ∈ fp, ∀ o, sg.heap.get? b = some o → s'.heap.get? b = some o ∧ H' b = none := fun b hb o e =>
          let z := I'.pin (b, o) (List.mem_append_right _ (List.mem_append_right _ (mem_pinsAt hb e)))
          ⟨z.1, z.2.1⟩
        have len : (wipe σ (own.map (·.2))).length = σh.length := by rw [← wh, wipe_length]
        refine ⟨m', hm, i + 1, H', (I'.unpinned (pins := [])).weak len (fun j v e => ?_), T.keep _ _ _ stg fun b hb o e => (pin' b hb o e).1, fun b hb => ?_, w'⟩
        · rw [← wh] at e
          exact (wipe_some e).1
        · obtain ⟨o, e, _⟩ := T.obj _ _ stg b hb
          exact (pin' b hb o e).2
      cases b with
      | false =>
        simp only [Bool.false_eq_true, if_false] at qi ⊢
        exact fin Ii qi
      | true =>
        simp only [if_true] at qi ⊢
        refine thnF (eltP.run _ si σh Hi _ Ii qi) fun z sj ⟨yv, Hj, Ij, rj, acc, hDj, hzj, nx⟩ => ?_
        exact app_ok (X := X.blk sc Hc scope ce fp) Ij hDj hzj rj fun sk Ik => fin Ik nx
  exact codeAny_compStart_list loop (T.self X.A 0 _ _ _ std loop)
/-- a lambda is later what it was -/
theorem lamAt_later {P : Program} {w : World} {K : PySem.W.Frag} {mg : Str → Option Value} {base : Heap} {CX : CXT} {k : Nat} {s0 s1 s2 : Shared} {H0 H1 H2 : Hp} {f c : Addr} {spL : Sp} {fs fs' fp : List Addr} (L : LamAt P w K mg base CX k s0 H0 f c spL)
    (u1 : Un fs [] H0 H1 s0.heap s1.heap) (u2 : Un fs' fp H1 H2 s1.heap s2.heap) (hfp : ∀ b ∈ fp, s0.heap.objs.size ≤ b) (ef : H2 f = H0 f) (ec : H2 c = H0 c) : LamAt P w K mg base CX k s2 H2 f c spL := by
  obtain ⟨F, fr, ws, sp, hFc, LO, hf, hc, C, hsp⟩ := L
  have one : ∀ (a : Addr) (o : Obj), s0.heap.get? a = some o → H0 a = none → H2 a = none ∧ ∃ sl, s2.heap.get? a = some { o with slots := sl } := fun a o g n => by
    have nfp : a ∉ fp := fun z => Nat.lt_irrefl _ (Nat.lt_of_lt_of_le (Heap.lt_size g) (hfp a z))
    obtain ⟨sl, g1⟩ := u1.any g n (by simp)
    have n1 := u1.free a o g n (by simp)
    obtain ⟨sl2, g2⟩ := u2.any g1 n1 nfp
    exact ⟨u2.free a _ g1 n1 nfp, sl2, g2⟩
  refine ⟨F, fr, ws, sp, hFc, LO, by rw [ef]; exact hf, by rw [ec]; exact hc, ⟨C.len, fun y a e => ?_, C.inj, fun i y e => ?_⟩, hsp⟩
  · obtain ⟨n, v, o, g, d⟩ := C.all y a e
    obtain ⟨n2, sl, g2⟩ := one a o g n
    exact ⟨n2, v, _, g2, d⟩
  · obtain ⟨a, ha, hv⟩ := C.has i y e
    refine ⟨a, ha, fun v ev => ?_⟩
    obtain ⟨u, r, o, g, d⟩ := hv v ev
    obtain ⟨_, sl, g2⟩ := one a o g (C.all y a ha).1
    exact ⟨u, r, _, g2, d⟩
/-- a def that gets lambdas, called by what is known where the caller began -/
theorem pe_callE {X : Cx} {CX : CXT} {k : Nat} {f : Addr} {fd : FuncData} {ps : List Str} {sp : Shared → Sp} {spE : Sp} {E : XK} {x : Str} {p pos : Pos} {e : Expr} {es : List Expr} {t : TA} (F : FnS X.prog X.w X.K X.mg X.base CX k f fd ps sp)
    (lift : ∀ (pins : List (Addr × Obj)) (σ : L2.St) (H : Hp) (s : Shared) (vs : List V) (Q : VK), Inv X pins σ H s → spE vs H Q E → sp s vs H Q E) (hr : Room k X.A) (hg : Gl X x) (hm : X.mg x = some (.ref f))
    (hk : PySem.W.keepIn X.K (.ref f) = true) (hb : L2.Binds X.K fd ps []) (hx : Passes CX X E) (ha : PA X (e :: es) t) (hdb : (x == ("__debug__" : Str)) = false := by decide)
    (he : starEach (e :: es) X.env = (false, eval e X.env) :: starEach es X.env := by rfl) (hpl : (backTo pos (starEach es X.env)).any (·.1) = false := by rfl) : PE X (.Call (.Name x p) (e :: es) [] pos) (tCall spE [] E t) := by
  refine ⟨fun pins s σ H Q I h => ?_⟩
  refine wpAny_Call_Name_kw (ld_glob I hg hm ?_ hdb)
  refine PySem.W.callWith_K (h₀ := X.base) I.ok.mod.kin hk (thn (ha.run pos pins s σ H _ I h) fun us s1 ⟨vs, H1, I1, r, q⟩ => ⟨I1.kIn, ?_⟩) he hpl
  have q : spE (vs ++ []) H1 Q E := q
  rw [List.append_nil] at q
  have q := lift pins σ H1 s1 vs Q I1 q
  have hl : us.length = ps.length := by rw [← r.length]; exact F.len _ _ _ _ _ q
  have b := hb s1 us I1.kIn (by rw [List.append_nil]; exact hl)
  rw [List.append_nil] at b
  refine wpAny_call (codeAny_mono (F.run X.A X.stack s1 H1 ⟨us, []⟩ us vs Q E hr I1.env0 b r q) fun r s' hq => ?_)
  match r, hq with
  | .error e, hq => exact hx pins σ H1 s1 e s' I1 hq
  | .ok (.ret u), hq => exact I1.after hq
end Hf
/-! ## a halfline, an evenline and lambdas that ask them -/
namespace Hf
open PySem PySem.Spec PyProof.Rows L2
abbrev qLam : Str := (("" : Str) ++ ".<locals>.") ++ "<lambda>"
/-- a halfline and an evenline, the law's table -/
def S7 (CV C PT : Addr) (Hc H : Hp) (p e : Addr) (B A : List Addr) (xs ys : List Int) (n : Int) (ts : List Int) (l : Int) : Prop :=
  HalfAt C H p B xs ys n ∧ EvenAt CV H e A ts l ∧ Apart B A ∧ LamX.TabS H PT qLam ∧ Step Hc [PT] H (PT :: (B ++ A))
section
variable {CV C PT : Addr} {Hc H H' : Hp} {p e : Addr} {B A : List Addr} {xs ys : List Int} {n : Int} {ts : List Int} {l : Int}
theorem S7.same (h : S7 CV C PT Hc H p e B A xs ys n ts l) (s : Same H H') : S7 CV C PT Hc H' p e B A xs ys n ts l := ⟨h.1.same s, h.2.1.same s, h.2.2.1, TabS.same h.2.2.2.1 s, h.2.2.2.2.same s⟩
theorem S7.lam (h : S7 CV C PT Hc H p e B A xs ys n ts l) (st : Step H [PT] H' [PT]) (t : LamX.TabS H' PT qLam) : S7 CV C PT Hc H' p e B A xs ys n ts l := by
  refine ⟨h.1.keep fun q o hq g => (st q o g fun z => tab_notin h.1.kinds h.2.2.2.1 (by rw [← List.mem_singleton.mp z]; exact hq)).1, h.2.1.keep fun q o hq g => (st q o g fun z => tab_notin h.2.1.kinds h.2.2.2.1 (by rw [← List.mem_singleton.mp z]; exact hq)).1, h.2.2.1, t, h.2.2.2.2.trans fun q o g hq => ?_⟩
  exact ⟨(st q o g fun z => hq (by rw [List.mem_singleton.mp z]; exact List.mem_cons_self)).1, hq⟩
/-- a deed at the halfline -/
theorem S7.half {B' : List Addr} {xs' ys' : List Int} {n' : Int} (h : S7 CV C PT Hc H p e B A xs ys n ts l) (hB : HalfAt C H' p B' xs' ys' n') (st : Step H B H' B') : S7 CV C PT Hc H' p e B' A xs' ys' n' ts l :=
  ⟨hB, h.2.1.keep (st.rest h.2.2.1.symm), (st.apart h.2.1.trk h.2.2.1.symm).symm, TabS.stepK h.2.2.2.1 st h.1.kinds, h.2.2.2.2.trans (st.left.cons PT)⟩
/-- a deed at the evenline -/
theorem S7.even {A' : List Addr} {ts' : List Int} {l' : Int} (h : S7 CV C PT Hc H p e B A xs ys n ts l) (hA : EvenAt CV H' e A' ts' l') (st : Step H A H' A') : S7 CV C PT Hc H' p e B A' xs ys n ts' l' :=
  ⟨h.1.keep (st.rest h.2.2.1), hA, st.apart h.1.trk h.2.2.1, TabS.stepK h.2.2.2.1 st h.2.1.kinds, h.2.2.2.2.trans (st.right.cons PT)⟩
end
/-- the lambda just made, as its callee gets it -/
theorem lamAt_made {X : Cx} {pins : List (Addr × Obj)} {σ : L2.St} {H : Hp} {s : Shared} {CX : CXT} {k : Nat} {f : Addr} {F : LM} {fr : List Str} {js : List Nat} {sp : List (Option V) → Sp} {sc nsc : Scope} (I : Inv X pins σ H s) (hf : H f = some (LamO f F)) (hc : H F.c = some (LamX.CodeO F.c F.q)) (LO : LOk X.prog X.w X.K X.mg X.base CX k f F fr sp)
    (hsc : X.env.scope = sc) (hns : F.scope = nsc) (hcl : F.cl = cloFrom X.env.cells nsc.names []) (hB : NdefX.ndefB sc nsc fr = true) (hjs : js.map (fun j => X.N[j]?) = fr.map some) : LamAt X.prog X.w X.K X.mg X.base CX k s H f F.c (sp (js.map (NdefX.slotAt σ))) := by
  subst hsc hns
  refine ⟨F, fr, _, sp, rfl, LO, hf, hc, ?_, fun _ _ _ _ z => z⟩
  rw [hcl]
  exact NdefX.cells_of I (NdefX.Caps.made I.ok (NdefX.ndef_free hB) (NdefX.ndef_fr hB) hjs)
/-! the lambdas' promises -/
def spTakeL (K : PySem.W.Frag) (C CE CM : Addr) : List (Option V) → Sp := fun ws vs H Q E => ∃ (p : Addr) (v : V), ws = [some (.ref p)] ∧ vs = [v] ∧ (∃ (B : List Addr) (xs ys : List Int) (n : Int), HalfAt C H p B xs ys n) ∧ spTakeH K C CE CM [.ref p, v] H Q E
def spPutNL (K : PySem.W.Frag) (C CT CE : Addr) : List (Option V) → Sp := fun ws vs H Q E => ∃ (p : Addr) (v : V), ws = [some (.ref p)] ∧ vs = [v] ∧ (∃ (B : List Addr) (xs ys : List Int) (n : Int), HalfAt C H p B xs ys n) ∧ spPutH K C CT CE [.ref p, v, .non] H Q E
def spPutFL (K : PySem.W.Frag) (C CT CE : Addr) : List (Option V) → Sp := fun ws vs H Q E => ∃ (p : Addr) (v : V), ws = [some (.ref p)] ∧ vs = [v] ∧ (∃ (B : List Addr) (xs ys : List Int) (n : Int), HalfAt C H p B xs ys n) ∧ spPutH K C CT CE [.ref p, .str "front", v] H Q E
def spPutVL (K : PySem.W.Frag) (CV CT : Addr) : List (Option V) → Sp := fun ws vs H Q E => ∃ (p : Addr) (v : V), ws = [some (.ref p)] ∧ vs = [v] ∧ (∃ (A : List Addr) (ts : List Int) (l : Int), EvenAt CV H p A ts l) ∧ spPutE K CV CT [.ref p, v] H Q E
def spTakeVL (CV CM : Addr) : List (Option V) → Sp := fun _ => spTakeE CV CM
def spFirstVL (CV CM : Addr) : List (Option V) → Sp := fun _ => spFirstE CV CM
abbrev scOne (x : Str) : Scope := { kind := .function, names := [(x, .local)], isGenerator := false, isCoroutine := false }
abbrev scTwo (x y : Str) : Scope := { kind := .function, names := [(x, .local), (y, .free)], isGenerator := false, isCoroutine := false }
theorem lok_at {P : Program} {w : World} {K : PySem.W.Frag} {mg : Str → Option Value} {base : Heap} {CX : CXT} {k : Nat} {H : Hp} {f : Addr} {F : LM} {fr : List Str} {sp : List (Option V) → Sp} (_ : H f = some (LamO f F)) (h : LOk P w K mg base CX k f F fr sp) : LOk P w K mg base CX k f F fr sp := h
end Hf
/-! ## k08: _law_is_empty, _law_plain -/
namespace Hf
open PySem PySem.Spec PyProof.Rows L2 L2H
abbrev sIsE : Stmt := top 17
abbrev sPlain : Stmt := top 15
structure PTxt (K : PySem.W.Frag) (mg : Str → Option Value) (CL CT CE CM : Addr) : Prop where
  gL : mg "LineError" = some (.ref CL)
  is : EIs K CL CT CE CM
  list : mg "list" = none
  tuple : mg "tuple" = none
  all : mg "all" = none
  range : mg "range" = none
/-- what is asked finds nothing there -/
def spIsE (P : Program) (w : World) (K : PySem.W.Frag) (mg : Str → Option Value) (base : Heap) (CM : Addr) (kl : Nat) : Shared → Sp := fun s vs H Q _ => ∃ (f c : Addr) (spL : Sp) (R : Hp → Prop), vs = [.ref f] ∧
  LamAt P w K mg base (L2N.CX P w) kl s H f c spL ∧ (∀ (Q' : VK) (E' : XK), (∀ H', R H' → E' (.ref CM) none H') → spL [] H Q' E') ∧ ∀ H', R H' → Q (.bl true) H'
theorem takes0N {X : Cx} : L2N.Takes X (fun _ _ _ _ => False) := fun _ _ x => by
  obtain ⟨_, _, _, _, _, _, _, _, _, _, _, _, _, _, _, _, z⟩ := x
  exact z.elim
/-- whole numbers, and lists and tuples of such, n deep -/
def PlV (H : Hp) : Nat → V → Prop
  | 0, v => ∃ i : Int, v = .int i
  | n + 1, v => (∃ i : Int, v = .int i) ∨ ∃ (a : Addr) (xs : List V), v = .ref a ∧ (H a = some (.lst xs) ∨ H a = some (.tup xs)) ∧ xs.length < 1000000 ∧ ∀ x ∈ xs, PlV H n x
theorem PlV.same {H H' : Hp} (s : Same H H') : ∀ {n : Nat} {v : V}, PlV H n v → PlV H' n v
  | 0, _, h => h
  | n + 1, _, .inl h => .inl h
  | n + 1, _, .inr ⟨a, xs, e, h, l, x⟩ => .inr ⟨a, xs, e, h.elim (fun z => .inl (s _ _ z)) fun z => .inr (s _ _ z), l, fun y hy => (x y hy).same s⟩
theorem PlV.ints {H : Hp} {n : Nat} (l : List Int) : ∀ x ∈ l.map V.int, PlV H n x := fun x hx => by
  obtain ⟨i, _, rfl⟩ := List.mem_map.mp hx
  cases n with
  | zero => exact ⟨i, rfl⟩
  | succ n => exact .inl ⟨i, rfl⟩
def spPl (K : PySem.W.Frag) (n : Nat) : Sp := fun vs H Q _ => ∃ v : V, vs = [v] ∧ PlV H n v ∧ ∀ H', Same H H' → Q (.bl true) H'
theorem all_true (n : Nat) : (List.replicate n true).all id = true := by
  induction n with
  | zero => rfl
  | succ n ih => rw [List.replicate_succ, List.all_cons, ih]; rfl
/-- o.m() within an except suite -/
theorem pe_methH0 {X : Cx} {CX : CXT} {k : Nat} {f C : Addr} {fd : FuncData} {ps : List Str} {sp : Sp} {E : L2.St → XK} {m : Str} {pos apos : Pos} {o : Expr} {ta : TE} {pl : Sem Bool} (he : PE X o ta) (c : Cls X.K C) (hm : Meth X.K C m f)
    (F : FnH X.prog X.w X.K X.mg X.base CX k f fd ps sp) (hr : RoomH k X.A) (hot : HotC X) (hb : Binds X.K fd ps []) (hx : ∀ σ, PassesAt CX X σ (E σ))
    (ht : eval (.Call (.Attribute o m apos) [] [] pos) X.env = (do
      let ov ← eval o X.env
      standAt apos.atName
      let (f, first) ← holding [ov] (getMethod ov m pl)
      callWith pos f first (backTo pos (starEach [] X.env)) (backToKw pos (keywordEach [] X.env))) := by rfl) :
    PE X (.Call (.Attribute o m apos) [] [] pos) (tMethS C m sp E ta tNil) := by
  refine ⟨fun pins s σ H Q I h => ?_⟩
  refine PySem.W.methodCall_KW (pl := pl) (thn (he.run pins s σ H _ I h) fun u s1 ⟨x, H1, I1, rx, a, dx, fs, ex, ea, l, q⟩ => ?_) ht
  subst ex
  obtain rfl : u = Value.ref a := rx
  refine getmeth_ok I1 ea c hm l ?_
  exact PySem.W.callWith_K0 (first := [.ref a]) I1.kIn hm.kp (run_fnH (us := [.ref a]) (vs := [.ref a]) F hr hot hb (hx σ) I1 (.cons rfl .nil) q)
section
variable {P : Program} {w : World} {K : PySem.W.Frag} {mg : Str → Option Value} {base : Heap} {C CL CT CE CM aE : Addr}
theorem scIsE : FnScope ["_law_ask", "error"] ["_law_ask"] (defScope sIsE) := ⟨rfl, rfl, rfl, by decide +kernel, rfl, by decide +kernel, by decide +kernel⟩
theorem ok_isE {f : Addr} {fd : FuncData} {kl : Nat} (F : Fun K "_law_is_empty" "_law_is_empty" sIsE f fd) (T : HTxt K mg C CT CE CM aE) (L : PTxt K mg CL CT CE CM) :
    FnS P w K mg base CX0 (kl + 1) f fd ["_law_ask"] (spIsE P w K mg base CM kl) := by
  refine fnS_of F scIsE (fun s vs H Q E h => ?_) (fun cdv A outer s H vs Q E hr h => ?_)
  · obtain ⟨_, _, _, _, rfl, _⟩ := h
    rfl
  · obtain ⟨fl, c, spL, R, rfl, LA, hraise, k⟩ := h
    refine ⟨_, pss_one (L2N.ps_try_as (i := 1) (tb := fun W => tSeq (tDrop (tLamC P w K mg base (CL0 s H) (L2N.CX P w) kl 0 (WE W) tNil)) (tRet (tC (.bl false)))) rfl rfl scIsE.nd rfl rfl ⟨rfl, by decide, .inl L.gL⟩ takes0N
        (fun W pn xe tk _ => pss_cons (ps_expr (pe_lamC0 (CX := L2N.CX P w) (i := 0) (cl_at rfl rfl rfl) hr (fun σ => L2N.passAt tk σ) rfl (Or.inl rfl))) (pss_one (ps_ret pe_bl)))
        (fun a oe cls d pn hz hf => pss_one (ps_ret (pe_callB (call_isX hz.zc hf) (by rfl) T.B.isi (by decide +kernel) (pa_cons (pv 1) (pa_cons (pe_glob (v := .ref CM) rfl T.M.g rfl) pa_nil)))))), ?_⟩
    refine lamAt_call LA rfl rfl fun R' q => q [] H rfl rfl ?_
    refine hraise _ _ fun H' hR => ?_
    refine ⟨true, L.is.lM, fun _ ea na => ?_, fun q => Bool.noConfusion q⟩
    exact ⟨_, rfl, CM, _, _, true, rfl, rfl, L.is.cM, rfl, .own CM, L.is.mM, k H' hR⟩
theorem scPlain : FnScope ["_law_thing", "_law_one"] ["_law_thing"] (defScope sPlain) := ⟨rfl, rfl, rfl, by decide +kernel, rfl, by decide +kernel, by decide +kernel⟩
theorem plain_step {f : Addr} {fd : FuncData} {kl n : Nat} {spI : Sp} (F : Fun K "_law_plain" "_law_plain" sPlain f fd) (T : HTxt K mg C CT CE CM aE) (L : PTxt K mg CL CT CE CM) (G : FnOk P w K mg base CX0 kl f fd ["_law_thing"] spI) (gPl : mg "_law_plain" = some (.ref f)) (kPl : PySem.W.keepIn K (.ref f) = true) (bPl : Binds K fd ["_law_thing"] [])
    (hI : ∀ m, n = m + 1 → spI = spPl K m) : FnOk P w K mg base CX0 (kl + 1) f fd ["_law_thing"] (spPl K n) := by
  refine F.ok scPlain (fun vs H Q E h => ?_) (fun cdv A outer s H vs Q E hr h => ?_)
  · obtain ⟨v, rfl, _⟩ := h
    rfl
  · obtain ⟨v, rfl, hv, k⟩ := h
    have cs : (∃ i : Int, v = .int i) ∨ (∃ (a : Addr) (xs : List V), (∃ m, n = m + 1) ∧ v = .ref a ∧ (H a = some (.lst xs) ∨ H a = some (.tup xs)) ∧ xs.length < 1000000 ∧ ∀ m, n = m + 1 → ∀ x ∈ xs, PlV H m x) := by
      cases n with
      | zero => exact .inl hv
      | succ n =>
        rcases hv with h | ⟨a, xs, h1, h2, h3, h4⟩
        · exact .inl h
        · refine .inr ⟨a, xs, ⟨n, rfl⟩, h1, h2, h3, fun m e => ?_⟩
          obtain rfl : n = m := by omega
          exact h4
    rcases cs with ⟨i, rfl⟩ | ⟨a, xs, hn, rfl, hx | hx, hlen, hall⟩
    · refine ⟨_, pss_cons (ps_if (PW.pt (pw_or (pt_val (pe_callB call_isi (by rfl) T.B.isi (by decide +kernel) (pa_cons (pv 0) (pa_cons (pe_bltn (v := .ty "list") (by rfl) L.list (by decide +kernel) rfl) pa_nil)))) (pw_or1 (pt_val (pe_callB call_isi (by rfl) T.B.isi (by decide +kernel) (pa_cons (pv 0) (pa_cons (pe_bltn (v := .ty "tuple") (by rfl) L.tuple (by decide +kernel) rfl) pa_nil)))))))
        (pss_one (ps_ret (pe_callB (cr_all rfl) (by rfl) L.all (by decide +kernel) (pa_cons (pe_lc (own := [("_law_one", 1)]) (g := gName 1) (te := tCall spI [] E0 (tCons (tVar 1) tNil)) (tt := tYes) rfl scPlain.nd (pi_list (pv 0)) (blkOk_by (N := ["_law_thing", "_law_one"]) (sc := defScope sPlain) (by decide +kernel)) (fun _ _ _ _ _ => pg_name (i := 1) scPlain.nd rfl (Or.inl rfl)) (fun _ _ _ _ _ => pts_nil)
          (fun _ _ _ _ _ => pe_call G hr rfl gPl kPl bPl .nil pass0 (pa_cons (pv 1) pa_nil))) pa_nil)))) pss_nil)
      (pss_one (ps_ret (pe_or (pe_cmpR op_isN (pv 0) pe_non (nomark _)) (pe_or (pe_callB call_isi (by rfl) T.B.isi (by decide +kernel) (pa_cons (pv 0) (pa_cons (pe_bltn (v := .ty "str") (by rfl) T.B.str (by decide +kernel) rfl) pa_nil))) (pe_one (pe_and (pe_callB call_isi (by rfl) T.B.isi (by decide +kernel) (pa_cons (pv 0) (pa_cons (pe_bltn (v := .ty "int") (by rfl) T.B.int (by decide +kernel) rfl) pa_nil))) (pe_one (pe_not (pe_callB call_isi (by rfl) T.B.isi (by decide +kernel) (pa_cons (pv 0) (pa_cons (pe_bltn (v := .ty "bool") (by rfl) T.B.bool (by decide +kernel) rfl) pa_nil))))))))))), ?_⟩
      refine ⟨_, rfl, _, _, _, _, false, rfl, .ty "list", .base (.int _), kit_ty (by decide +kernel), false, rfl, iteF ?_⟩
      refine ⟨_, rfl, _, _, _, _, false, rfl, .ty "tuple", .base (.int _), kit_ty (by decide +kernel), false, rfl, iteF ?_⟩
      refine ⟨_, rfl, rfl, false, by simp, iteF ?_⟩
      refine ⟨_, rfl, _, _, _, _, false, rfl, .ty "str", .base (.int _), kit_ty (by decide +kernel), false, rfl, iteF ?_⟩
      refine ⟨_, rfl, _, _, _, _, true, rfl, .ty "int", .base (.int _), kit_ty (by decide +kernel), true, rfl, iteT ?_⟩
      refine ⟨_, rfl, _, _, _, _, false, rfl, .ty "bool", .base (.int _), kit_ty (by decide +kernel), false, rfl, ?_⟩
      exact k _ (Same.refl _)
    · obtain ⟨m0, rfl⟩ := id hn
      have hall := hall m0 rfl
      refine ⟨_, pss_cons (ps_if (PW.pt (pw_or (pt_val (pe_callB call_isi (by rfl) T.B.isi (by decide +kernel) (pa_cons (pv 0) (pa_cons (pe_bltn (v := .ty "list") (by rfl) L.list (by decide +kernel) rfl) pa_nil)))) (pw_or1 (pt_val (pe_callB call_isi (by rfl) T.B.isi (by decide +kernel) (pa_cons (pv 0) (pa_cons (pe_bltn (v := .ty "tuple") (by rfl) L.tuple (by decide +kernel) rfl) pa_nil)))))))
        (pss_one (ps_ret (pe_callB (cr_all rfl) (by rfl) L.all (by decide +kernel) (pa_cons (pe_lc (own := [("_law_one", 1)]) (g := gName 1) (te := tCall spI [] E0 (tCons (tVar 1) tNil)) (tt := tYes) rfl scPlain.nd (pi_list (pv 0)) (blkOk_by (N := ["_law_thing", "_law_one"]) (sc := defScope sPlain) (by decide +kernel)) (fun _ _ _ _ _ => pg_name (i := 1) scPlain.nd rfl (Or.inl rfl)) (fun _ _ _ _ _ => pts_nil)
          (fun _ _ _ _ _ => pe_call G hr rfl gPl kPl bPl .nil pass0 (pa_cons (pv 1) pa_nil))) pa_nil)))) pss_nil)
      (pss_one (ps_ret (pe_or (pe_cmpR op_isN (pv 0) pe_non (nomark _)) (pe_or (pe_callB call_isi (by rfl) T.B.isi (by decide +kernel) (pa_cons (pv 0) (pa_cons (pe_bltn (v := .ty "str") (by rfl) T.B.str (by decide +kernel) rfl) pa_nil))) (pe_one (pe_and (pe_callB call_isi (by rfl) T.B.isi (by decide +kernel) (pa_cons (pv 0) (pa_cons (pe_bltn (v := .ty "int") (by rfl) T.B.int (by decide +kernel) rfl) pa_nil))) (pe_one (pe_not (pe_callB call_isi (by rfl) T.B.isi (by decide +kernel) (pa_cons (pv 0) (pa_cons (pe_bltn (v := .ty "bool") (by rfl) T.B.bool (by decide +kernel) rfl) pa_nil))))))))))), ?_⟩
      refine ⟨_, rfl, _, _, _, _, true, rfl, .ty "list", .base (.lst hx), kit_ty (by decide +kernel), true, rfl, iteT ?_⟩
      refine ⟨_, rfl, a, rfl, ⟨_, SqL.of hx⟩, fun D nD => lc_list (K := K) (a := a) (xs := xs) (fun m Hm => Same H Hm ∧ Hm D = some (.lst ((List.replicate m true).map V.bl)))
        ⟨Same.new nD, upd_same⟩ (fun m Hm _ ⟨sm, _⟩ => SqL.of (sm _ _ hx)) ?_ ?_⟩
      · rintro m th Hm hm ⟨sm, hD⟩
        refine ⟨rfl, ?_⟩
        unfold tYes
        dsimp only
        obtain rfl : spI = spPl K m0 := hI m0 rfl
        refine iteT ⟨_, rfl, th, rfl, (hall th (List.mem_of_getElem? hm)).same sm, fun H' s' => ⟨_, s' _ _ hD, ?_, Same.upd (sm.trans s') nD, ?_⟩⟩
        · rw [List.length_map, List.length_replicate, sizeLine_eq]
          have := (List.getElem?_eq_some_iff.mp hm).1
          omega
        · rw [upd_same, List.replicate_succ', List.map_append]
          rfl
      · rintro Hm ⟨sm, hD⟩
        refine ⟨D, List.replicate xs.length true, rfl, SqL.of hD, ?_⟩
        rw [all_true]
        exact k _ sm
    · obtain ⟨m0, rfl⟩ := id hn
      have hall := hall m0 rfl
      refine ⟨_, pss_cons (ps_if (PW.pt (pw_or (pt_val (pe_callB call_isi (by rfl) T.B.isi (by decide +kernel) (pa_cons (pv 0) (pa_cons (pe_bltn (v := .ty "list") (by rfl) L.list (by decide +kernel) rfl) pa_nil)))) (pw_or1 (pt_val (pe_callB call_isi (by rfl) T.B.isi (by decide +kernel) (pa_cons (pv 0) (pa_cons (pe_bltn (v := .ty "tuple") (by rfl) L.tuple (by decide +kernel) rfl) pa_nil)))))))
        (pss_one (ps_ret (pe_callB (cr_all rfl) (by rfl) L.all (by decide +kernel) (pa_cons (pe_lc (own := [("_law_one", 1)]) (g := gName 1) (te := tCall spI [] E0 (tCons (tVar 1) tNil)) (tt := tYes) rfl scPlain.nd (pi_tup (pv 0)) (blkOk_by (N := ["_law_thing", "_law_one"]) (sc := defScope sPlain) (by decide +kernel)) (fun _ _ _ _ _ => pg_name (i := 1) scPlain.nd rfl (Or.inl rfl)) (fun _ _ _ _ _ => pts_nil)
          (fun _ _ _ _ _ => pe_call G hr rfl gPl kPl bPl .nil pass0 (pa_cons (pv 1) pa_nil))) pa_nil)))) pss_nil)
      (pss_one (ps_ret (pe_or (pe_cmpR op_isN (pv 0) pe_non (nomark _)) (pe_or (pe_callB call_isi (by rfl) T.B.isi (by decide +kernel) (pa_cons (pv 0) (pa_cons (pe_bltn (v := .ty "str") (by rfl) T.B.str (by decide +kernel) rfl) pa_nil))) (pe_one (pe_and (pe_callB call_isi (by rfl) T.B.isi (by decide +kernel) (pa_cons (pv 0) (pa_cons (pe_bltn (v := .ty "int") (by rfl) T.B.int (by decide +kernel) rfl) pa_nil))) (pe_one (pe_not (pe_callB call_isi (by rfl) T.B.isi (by decide +kernel) (pa_cons (pv 0) (pa_cons (pe_bltn (v := .ty "bool") (by rfl) T.B.bool (by decide +kernel) rfl) pa_nil))))))))))), ?_⟩
      refine ⟨_, rfl, _, _, _, _, false, rfl, .ty "list", .base (.tup hx), kit_ty (by decide +kernel), false, rfl, iteF ?_⟩
      refine ⟨_, rfl, _, _, _, _, true, rfl, .ty "tuple", .base (.tup hx), kit_ty (by decide +kernel), true, rfl, iteT ?_⟩
      refine ⟨_, rfl, a, rfl, ⟨_, SqT.of hx⟩, fun D nD => lc_tup (K := K) (a := a) (xs := xs) (fun m Hm => Same H Hm ∧ Hm D = some (.lst ((List.replicate m true).map V.bl)))
        ⟨Same.new nD, upd_same⟩ (fun m Hm _ ⟨sm, _⟩ => SqT.of (sm _ _ hx)) ?_ ?_⟩
      · rintro m th Hm hm ⟨sm, hD⟩
        refine ⟨rfl, ?_⟩
        unfold tYes
        dsimp only
        obtain rfl : spI = spPl K m0 := hI m0 rfl
        refine iteT ⟨_, rfl, th, rfl, (hall th (List.mem_of_getElem? hm)).same sm, fun H' s' => ⟨_, s' _ _ hD, ?_, Same.upd (sm.trans s') nD, ?_⟩⟩
        · rw [List.length_map, List.length_replicate, sizeLine_eq]
          have := (List.getElem?_eq_some_iff.mp hm).1
          omega
        · rw [upd_same, List.replicate_succ', List.map_append]
          rfl
      · rintro Hm ⟨sm, hD⟩
        refine ⟨D, List.replicate xs.length true, rfl, SqL.of hD, ?_⟩
        rw [all_true]
        exact k _ sm
theorem ok_plain {f : Addr} {fd : FuncData} (F : Fun K "_law_plain" "_law_plain" sPlain f fd) (T : HTxt K mg C CT CE CM aE) (L : PTxt K mg CL CT CE CM) (gPl : mg "_law_plain" = some (.ref f)) (kPl : PySem.W.keepIn K (.ref f) = true) (bPl : Binds K fd ["_law_thing"] []) :
    ∀ n, FnOk P w K mg base CX0 (n + 1) f fd ["_law_thing"] (spPl K n)
  | 0 => plain_step (kl := 0) (spI := fun _ _ _ _ => False) F T L ⟨fun _ _ _ _ h => h.elim, fun _ _ _ _ _ _ _ _ _ _ _ _ _ h => h.elim⟩ gPl kPl bPl fun m e => by omega
  | n + 1 => plain_step F T L (ok_plain F T L gPl kPl bPl n) gPl kPl bPl fun m e => by
      obtain rfl : n = m := by omega
      rfl
end
end Hf
/-! ## k08: _law_lines_right -/
namespace Hf
open PySem PySem.Spec PyProof.Rows L2 L2H
abbrev sLines : Stmt := top 16
def spLines (K : PySem.W.Frag) : Sp := fun vs H Q _ => ∃ (l : Addr) (rs : List Addr) (ds : List Deed), vs = [.ref l] ∧ DeedsAt H l rs ds ∧ (∀ d ∈ ds, d.ok) ∧ ds.length ≤ 128 ∧ ∀ H', Same H H' → Q (.bl true) H'
section
variable {P : Program} {w : World} {K : PySem.W.Frag} {mg : Str → Option Value} {base : Heap} {CV C CL CT CE CM aE : Addr}
theorem ok_hthingsH {f : Addr} {fd : FuncData} (F : Fun K "things" "Halfline.things" sHThings f fd) (T : HTxt K mg C CT CE CM aE) : FnH P w K mg base CX0 1 f fd ["self"] (spThingsH C) := by
  obtain ⟨oc, od, kV, doc, pm, an, cdv, ct, osl, rfl, lk, hcd⟩ := F.ex
  refine fn_ofH lk hcd scHThings (fun vs H Q E h => ?_) (fun A outer s H vs Q E hp hot hr h => ?_)
  · obtain ⟨p, A, xs, ys, n, rfl, _⟩ := h
    rfl
  · obtain ⟨p, A, xs, ys, n, rfl, ⟨dx, f1, b1, rfl, h1, h2, h3, h4⟩, hlen, k⟩ := h
    refine ⟨_, pss_one (ps_ret (pe_op op_cat (pe_revL (pe_fld (pv 0) rfl)) (pe_fld (pv 0) rfl))), ?_⟩
    refine ⟨_, rfl, p, C, dx, _, _, rfl, h1, T.cl, T.nF, hF_front _ _ _, f1, _, rfl, SqL.of h2, fun l nl => ?_⟩
    have s1 := Same.new (o := .lst (xs.map V.int).reverse) nl
    refine ⟨_, rfl, p, C, dx, _, _, rfl, s1 _ _ h1, T.cl, T.nB, hF_back _ _ _, l, b1, _, _, rfl, rfl, upd_same, s1 _ _ h3, ?_, fun q nq => ?_⟩
    · rw [List.length_reverse, List.length_map, List.length_map, sizeLine_eq]
      omega
    · refine k _ q (s1.trans (Same.new nq)) (s1.free nq) ?_
      rw [upd_same, List.map_append, List.map_reverse]
theorem item_refB {rs : List Addr} {i : Nat} {x : V} (h : (rs.map V.ref)[i]? = some x) : ∃ r, rs[i]? = some r ∧ x = V.ref r := by
  rw [List.getElem?_map] at h
  cases e : rs[i]? with
  | none =>
    rw [e] at h
    cases h
  | some r =>
    rw [e] at h
    exact ⟨r, rfl, (Option.some.inj h).symm⟩
theorem fnH_never {f : Addr} {fd : FuncData} {k : Nat} {ps : List Str} : FnH P w K mg base CX0 k f fd ps (fun _ _ _ _ => False) := ⟨fun _ _ _ _ h => h.elim, fun _ _ _ _ _ _ _ _ _ _ _ _ _ _ _ _ h => h.elim⟩
theorem scLines : FnScope ["_law_deeds_here", "_law_one", "_law_two", "_law_kind", "_law_end", "_law_thing"] ["_law_deeds_here"] (defScope sLines) := ⟨rfl, rfl, rfl, by decide +kernel, rfl, by decide +kernel, by decide +kernel⟩
theorem ok_lines {f : Addr} {fd : FuncData} (F : Fun K "_law_lines_right" "_law_lines_right" sLines f fd) (T : HTxt K mg C CT CE CM aE) (TV : VTxt K mg CV CT CM) (L : PTxt K mg CL CT CE CM)
    (xM : PySem.W.exmOne K (.ref CM) (.ref CM) = some true)
    (GI : InitOk P w K mg base C (spInitH C))
    (GP : MethOk P w K mg base (L2N.CX P w) 2 C "put" ["self", "end", "thing"] (spPutH K C CT CE))
    (GT : MethOk P w K mg base (L2N.CX P w) 2 C "take" ["self", "end"] (spTakeH K C CE CM))
    {fS fES : Addr} {fdS fdES : FuncData} (mS : Meth K C "things" fS) (bS : Binds K fdS ["self"] []) (GS : FnH P w K mg base CX0 1 fS fdS ["self"] (spThingsH C))
    (mES : Meth K CV "things" fES) (bES : Binds K fdES ["self"] [])
    (GN : MethOk P w K mg base CX0 1 C "steps_so_far" ["self"] (spStepsH C))
    (GH : MethOk P w K mg base CX0 1 C "halves" ["self"] (spHalvesH C))
    (GU : MethOk P w K mg base CX0 1 C "purse" ["self"] (spPurseH C))
    (EI : InitOk P w K mg base CV (spInitE CV))
    (EP : MethOk P w K mg base (L2N.CX P w) 4 CV "put" ["self", "thing"] (spPutE K CV CT))
    (ET : MethOk P w K mg base (L2N.CX P w) 4 CV "take" ["self"] (spTakeE CV CM))
    (EF : MethOk P w K mg base (L2N.CX P w) 1 CV "first" ["self"] (spFirstE CV CM))
    (EM : MethOk P w K mg base CX0 1 CV "moved_last" ["self"] (spMovedE CV))
    (GL : DefOk P w K mg base CX0 3 "_law_plain" ["_law_thing"] (spPl K 2)) : FnOk P w K mg base CX0 5 f fd ["_law_deeds_here"] (spLines K) := by
  obtain ⟨fI, fdI, MI, bI, GI⟩ := GI
  obtain ⟨fP, fdP, mP, bP, GP⟩ := GP
  obtain ⟨fT, fdT, mT, bT, GT⟩ := GT
  obtain ⟨fN, fdN, mN, bN, GN⟩ := GN
  obtain ⟨fH, fdH, mH, bH, GH⟩ := GH
  obtain ⟨fU, fdU, mU, bU, GU⟩ := GU
  obtain ⟨fEI, fdEI, MEI, bEI, GEI⟩ := EI
  obtain ⟨fEP, fdEP, mEP, bEP, GEP⟩ := EP
  obtain ⟨fET, fdET, mET, bET, GET⟩ := ET
  obtain ⟨fEF, fdEF, mEF, bEF, GEF⟩ := EF
  obtain ⟨fEM, fdEM, mEM, bEM, GEM⟩ := EM
  obtain ⟨fL, fdL, gL, kL, bL, GL⟩ := GL
  refine F.ok scLines (fun vs H Q E h => ?_) (fun cdv A outer s H vs Q E hr h => ?_)
  · obtain ⟨_, _, _, rfl, _⟩ := h
    rfl
  · obtain ⟨l, rs, ds, rfl, hD, hok, hdl, k⟩ := h
    have hr1 : Room 1 _ := hr.mono (by decide)
    have hr2 : Room 2 _ := hr.mono (by decide)
    have hr3 : Room 3 _ := hr.mono (by decide)
    refine ⟨_, pss_cons (ps_par (i := 1) (j := 2) rfl scLines.nd rfl rfl (by decide) rfl rfl (pa_cons (pe_make0 MI GI hr2 rfl T.gC bI .nil pass0) (pa_cons (pe_make0 MEI GEI hr2 rfl TV.gC bEI .nil pass0) pa_nil)) (by rfl))
      (pss_cons (ps_for PassesOwn.never rfl (pi_list (pv 0)) (pg_tup rfl (pgs_cons (pg_name (i := 3) scLines.nd rfl (Or.inl rfl)) (pgs_cons (pg_name (i := 4) scLines.nd rfl (Or.inl rfl)) (pgs_cons (pg_name (i := 5) scLines.nd rfl (Or.inl rfl)) pgs_nil))))
        (C8.pss_cut (L2N.ps_try_many
            (tb := fun W => tIfS (tTest (tOp rEq (tVar 3) (tC (.int 0)))) (tSeq (tDrop (tMethS C "put" (spPutH K C CT CE) (WE W) (tVar 1) (tCons (tVar 4) (tCons (tVar 5) tNil)))) (tDrop (tMethS CV "put" (spPutE K CV CT) (WE W) (tVar 2) (tCons (tVar 5) tNil))))
              (tSeq (tDrop (tMethS C "take" (spTakeH K C CE CM) (WE W) (tVar 1) (tCons (tVar 4) tNil))) (tSeq (tDrop (tMethS CV "first" (spFirstE CV CM) (WE W) (tVar 2) tNil)) (tDrop (tMethS CV "take" (spTakeE CV CM) (WE W) (tVar 2) tNil)))))
            rfl rfl takes0N
            (fun W pn xe tk _ => pss_one (ps_if (pt_cmpR op_eq (pv 3) pe_int (nomark _))
              (pss_cons (ps_expr (pe_methS (pv 1) T.cl mP GP hr2 bP (fun σ => L2N.passAt tk σ) (pa_cons (pv 4) (pa_cons (pv 5) pa_nil)))) (pss_one (ps_expr (pe_methS (pv 2) TV.cl mEP GEP hr bEP (fun σ => L2N.passAt tk σ) (pa_cons (pv 5) pa_nil)))))
              (pss_cons (ps_expr (pe_methS (pv 1) T.cl mT GT hr2 bT (fun σ => L2N.passAt tk σ) (pa_cons (pv 4) pa_nil))) (pss_cons (ps_expr (pe_methS0 (pv 2) TV.cl mEF GEF hr1 bEF (fun σ => L2N.passAt tk σ))) (pss_one (ps_expr (pe_methS0 (pv 2) TV.cl mET GET hr bET (fun σ => L2N.passAt tk σ))))))))
            (.cons ⟨rfl, by decide, .inl T.M.g⟩ (fun a oe cls d pn hz hf => pss_one (ps_if (PW.pt (pw_and (pt_cmpR (show OpR _ _ (rNeI K) from op_neI hr.units) (pe_methH0 (E := fun _ => E0) (pv 1) T.cl mS GS ⟨hr1.dp, hr1.un⟩ (let ⟨vs, hd⟩ := hf; ⟨(a, oe), ⟨rfl, vs, hd, hz.2.2 vs hd⟩, List.mem_cons_self⟩) bS (fun _ _ _ _ _ _ _ c => c.elim)) (pe_lst pa_nil) (nomark _))
                (pw_and1 (pt_cmpR (show OpR _ _ (rNeI K) from op_neI hr.units) (pe_methH0 (E := fun _ => E0) (pv 2) TV.cl mES (fnH_never (k := 1) (ps := ["self"])) ⟨hr1.dp, hr1.un⟩ (let ⟨vs, hd⟩ := hf; ⟨(a, oe), ⟨rfl, vs, hd, hz.2.2 vs hd⟩, List.mem_cons_self⟩) bES (fun _ _ _ _ _ _ _ c => c.elim)) (pe_lst pa_nil) (nomark _))))) (pss_one (ps_ret pe_bl)) pss_nil)) .nil))
        (C8.pss_cut (ps_if (pt_not (pt_val (pe_call GL hr3 rfl gL kL bL .nil pass0 (pa_cons (pe_lst (pa_cons (pe_meth0 (pv 1) T.cl mN GN hr1 bN .nil pass0) (pa_cons (pe_meth0 (pv 1) T.cl mU GU hr1 bU .nil pass0) (pa_cons (pe_meth0 (pv 1) T.cl mH GH hr1 bH .nil pass0) (pa_cons (pe_meth0 (pv 2) TV.cl mEM GEM hr1 bEM .nil pass0) pa_nil))))) pa_nil)))) (pss_one (ps_ret pe_bl)) pss_nil)
        (pss_one (ps_if (pt_not (pt_val (pe_callB call_isi (by rfl) T.B.isi (by decide +kernel) (pa_cons (pe_meth0 (pv 1) T.cl mH GH hr1 bH .nil pass0) (pa_cons (pe_bltn (v := .ty "tuple") (by rfl) L.tuple (by decide +kernel) rfl) pa_nil))))) (pss_one (ps_ret pe_bl)) pss_nil)))))
      (pss_one (ps_ret pe_bl))), ?_⟩
    intro p dx np ndx ne
    refine ⟨p, dx, rfl, upd_same, fun H1 B1 hB1 kp => ⟨rfl, ?_⟩⟩
    have st1 : Step H [] H1 B1 := made_step np ndx kp
    intro e dy nq ndy ney
    refine ⟨e, dy, rfl, upd_same, fun H2 A2 hA2 kp2 => ⟨rfl, _, _, rfl, ?_⟩⟩
    have st2 : Step H1 [] H2 A2 := made_step nq ndy kp2
    have hB2 := hB1.same st2.toSame
    have ap : Apart B1 A2 := fun x hx => by
      obtain ⟨o, g⟩ := hB1.trk x hx
      exact (st2 x o g (by simp)).2
    have st12 : Step H [] H2 (B1 ++ A2) := fun q o g hq => by
      have r1 := st1 q o g (by simp)
      have r2 := st2 q o r1.1 (by simp)
      exact ⟨r2.1, fun z => (List.mem_append.mp z).elim r1.2 r2.2⟩
    refine ⟨_, rfl, l, rfl, ⟨_, SqL.of (st12.toSame _ _ hD.1)⟩, for_list (K := K) (a := l) (xs := rs.map V.ref) (fun i σ Hd => ∃ (B A : List Addr) (xs ys : List Int) (n : Int) (ts : List Int) (lv : Int) (v3 v4 v5 : Option V),
        σ = [some (.ref l), some (.ref p), some (.ref e), v3, v4, v5] ∧ HalfAt C Hd p B xs ys n ∧ EvenAt CV Hd e A ts lv ∧ Apart B A ∧ Step H [] Hd (B ++ A) ∧ xs.length + ys.length = ts.length ∧ ts.length ≤ i)
      ⟨B1, A2, [], [], 0, [], 0, none, none, none, rfl, hB2, hA2, ap, st12, rfl, Nat.le_refl _⟩ (fun i σ Hd _ ⟨_, _, _, _, _, _, _, _, _, _, _, _, _, _, st, _⟩ => SqL.of (st.toSame _ _ hD.1)) ?_ ?_⟩
    · rintro i x σ Hd hi ⟨B, A, xs, ys, n, ts, lv, v3, v4, v5, rfl, hB, hA, apx, st, hl1, hl2⟩
      obtain ⟨r, hr, rfl⟩ := item_refB hi
      obtain ⟨d, hd, hr7⟩ := hD.2.2 i r hr
      have hrd := st.toSame _ _ hr7
      have hkd := hok d (List.mem_of_getElem? hd)
      have hi128 : i < 128 := by
        have := (List.getElem?_eq_some_iff.mp hd).1
        omega
      obtain ⟨kd, fr, z⟩ := d
      refine ⟨r, _, rfl, SqT.of hrd, rfl, _, _, rfl, _, _, rfl, _, _, rfl, rfl, ?_⟩
      refine ⟨fun σ' Hd => ∃ (B A : List Addr) (xs ys : List Int) (n : Int) (ts : List Int) (lv : Int) (v3 v4 v5 : Option V),
        σ' = [some (.ref l), some (.ref p), some (.ref e), v3, v4, v5] ∧ HalfAt C Hd p B xs ys n ∧ EvenAt CV Hd e A ts lv ∧ Apart B A ∧ Step H [] Hd (B ++ A) ∧ xs.length + ys.length = ts.length ∧ ts.length ≤ i + 1, ?_, ?_⟩
      · refine ⟨_, rfl, rfl, decide (kd = 0), by simp, ?_⟩
        by_cases hk0 : kd = 0
        · rw [decide_eq_true hk0]
          obtain ⟨dx1, fs1, e1, e2⟩ := hB.obj (m := "put")
          refine iteT ⟨_, rfl, p, dx1, fs1, rfl, e1, e2, _, rfl, _, rfl, p, B, xs, ys, n, hB, .inl ⟨fr, z, rfl, by omega, fun H8 B8 hB8 st8 => ?_⟩⟩
          have hA8 := hA.keep (st8.rest apx.symm)
          have ap8 := (st8.apart hA.trk apx.symm).symm
          obtain ⟨dx2, fs2, e3, e4⟩ := hA8.obj (m := "put")
          refine ⟨_, rfl, e, dx2, fs2, rfl, e3, e4, _, rfl, e, A, ts, lv, hA8, .inl ⟨z, rfl, by omega, fun H9 A9 l9 hA9 _ _ st9 => ?_⟩⟩
          refine ⟨B8, A9, _, _, _, _, l9, _, _, _, rfl, hB8.keep (st9.rest ap8), hA9, st9.apart hB8.trk ap8, (st.trans st8.left).trans st9.right, ?_, by rw [List.length_append]; show ts.length + 1 ≤ i + 1; omega⟩
          rw [List.length_append]
          cases fr
          · simp [putX]
            omega
          · simp [putX]
            omega
        · rw [decide_eq_false hk0]
          obtain ⟨dx1, fs1, e1, e2⟩ := hB.obj (m := "take")
          refine iteF ⟨_, rfl, p, dx1, fs1, rfl, e1, e2, _, rfl, p, B, xs, ys, n, hB, by omega, ?_⟩
          by_cases hne : xs ≠ [] ∨ ys ≠ []
          · refine .inr (.inl ⟨fr, rfl, hne, fun H8 B8 hB8 st8 => ?_⟩)
            have hlt := take_len (fr := fr) hne
            have hA8 := hA.keep (st8.rest apx.symm)
            have ap8 := (st8.apart hA.trk apx.symm).symm
            obtain ⟨t0, tr, rfl⟩ : ∃ t0 tr, ts = t0 :: tr := by
              cases ts with
              | nil =>
                rcases hne with h | h
                · exact absurd (by simp at hl1; exact hl1.1) h
                · exact absurd (by simp at hl1; exact hl1.2) h
              | cons a b => exact ⟨a, b, rfl⟩
            obtain ⟨dx2, fs2, e3, e4⟩ := hA8.obj (m := "first")
            refine ⟨_, rfl, e, dx2, fs2, rfl, e3, e4, e, A, _, lv, rfl, hA8, .inr ⟨t0, tr, rfl, ?_⟩⟩
            obtain ⟨dx2, fs2, e3, e4⟩ := hA8.obj (m := "take")
            refine ⟨_, rfl, e, dx2, fs2, rfl, e3, e4, e, A, _, lv, rfl, hA8, by omega, .inr ⟨t0, tr, rfl, fun H9 A9 l9 hA9 _ _ st9 => ?_⟩⟩
            refine ⟨B8, A9, _, _, _, _, l9, _, _, _, rfl, hB8.keep (st9.rest ap8), hA9, st9.apart hB8.trk ap8, (st.trans st8.left).trans st9.right, ?_, ?_⟩
            · simp at hl1
              omega
            · simp at hl2
              omega
          · have hx0 : xs = [] := Classical.not_not.mp fun h => hne (.inl h)
            have hy0 : ys = [] := Classical.not_not.mp fun h => hne (.inr h)
            subst hx0 hy0
            refine .inl ⟨fr, rfl, rfl, rfl, fun H8 s8 => ?_⟩
            refine ⟨true, xM, fun _ ea na => ?_, fun q => Bool.noConfusion q⟩
            have hB8 := hB.same s8
            obtain ⟨dx2, fs2, e3, e4⟩ := hB8.obj (m := "things")
            refine ⟨_, rfl, p, dx2, fs2, rfl, e3, e4, p, B, [], [], n, rfl, hB8, by decide, fun H9 l9 s9 nl9 hl9 => ?_⟩
            refine ⟨(by show 0 ≤ sizeLine; decide), fun u10 nu10 => ?_⟩
            refine ⟨l9, u10, [], [], rfl, rfl, SqL.of (Same.new nu10 _ _ hl9), SqL.of upd_same, false, rfl, iteF ?_⟩
            have sx := (s8.trans s9).trans (Same.new (o := .lst []) nu10)
            exact ⟨B, A, [], [], n, ts, lv, _, _, _, rfl, hB.same sx, hA.same sx, apx, st.same sx, hl1, by omega⟩
      rintro σ1 He ⟨B, A, xs, ys, n, ts, lv, w3, w4, w5, rfl, hB, hA, apx, st, hl1, hl2⟩
      refine ⟨fun σ' Hd => σ' = [some (.ref l), some (.ref p), some (.ref e), w3, w4, w5] ∧ Same He Hd, ?_, ?_⟩
      · refine rd_steps (p := p) rfl hB (rd_purse (p := p) rfl hB (rd_halves (p := p) rfl hB fun Hf t1 sf nt1 ht1 => rv_moved (p := e) rfl (hA.same sf) ⟨(by show 4 ≤ sizeLine; decide), fun lb nlb => ?_⟩))
        refine ⟨_, rfl, .inr ⟨lb, _, rfl, .inl upd_same, (by show 4 < 1000000; decide), fun y hy => ?_⟩, fun H' s' => ⟨true, rfl, iteF ⟨rfl, (sf.trans (Same.new nlb)).trans s'⟩⟩⟩
        simp only [List.mem_cons, List.not_mem_nil, or_false] at hy
        rcases hy with rfl | rfl | rfl | rfl
        · exact .inl ⟨_, rfl⟩
        · exact .inl ⟨_, rfl⟩
        · exact .inr ⟨t1, _, rfl, .inr (Same.new nlb _ _ ht1), (by show 2 < 1000000; decide), PlV.ints [(xs.length : Int), (ys.length : Int)]⟩
        · exact .inl ⟨_, rfl⟩
      rintro σ2 Hf ⟨rfl, sf⟩
      refine rd_halves (p := p) rfl (hB.same sf) fun Hg t1 sg nt1 ht1 => ?_
      refine ⟨_, _, _, _, true, rfl, .ty "tuple", .base (.tup ht1), kit_ty (by decide +kernel), true, rfl, iteF ?_⟩
      have sx := sf.trans sg
      exact ⟨B, A, xs, ys, n, ts, lv, _, _, _, rfl, hB.same sx, hA.same sx, apx, st.same sx, hl1, hl2⟩
    · rintro σ Hd ⟨B, A, xs, ys, n, ts, lv, v3, v4, v5, rfl, hB, hA, apx, st, hl1, hl2⟩
      exact k _ st.toSame
end
end Hf
/-! ## k08: tables kept, _law_turned_promises -/
namespace Hf
open PySem PySem.Spec PyProof.Rows L2
abbrev sTurned : Stmt := top 20
abbrev qOf (x : Str) : Str := (x ++ ".<locals>.") ++ "<lambda>"
abbrev scFree (y : Str) : Scope := { kind := .function, names := [(y, .free)], isGenerator := false, isCoroutine := false }
/-- the def's own table, others' tables, what stood when the def began -/
def SL (q : Str) (PT : Addr) (Ts : List (Addr × Str)) (H Hx : Hp) (B : List Addr) : Prop :=
  LamX.TabS Hx PT q ∧ (∀ t ∈ Ts, t.1 ≠ PT ∧ LamX.TabS Hx t.1 t.2) ∧ ∀ y o, H y = some o → (∀ ps, o ≠ .tbl ps) → Hx y = some o ∧ y ∉ B
section
variable {q : Str} {PT : Addr} {Ts : List (Addr × Str)} {H Hx Hy : Hp} {B B' : List Addr}
theorem SL.ext (h : SL q PT Ts H Hx B) : LamX.ExtN H Hx := fun y o g hne => (h.2.2 y o g hne).1
theorem SL.same (h : SL q PT Ts H Hx B) (s : Same Hx Hy) : SL q PT Ts H Hy B := ⟨TabS.same h.1 s, fun t ht => ⟨(h.2.1 t ht).1, TabS.same (h.2.1 t ht).2 s⟩, fun y o g hne => ⟨s _ _ (h.2.2 y o g hne).1, (h.2.2 y o g hne).2⟩⟩
theorem tab_not {PT : Addr} {q : Str} {Hx : Hp} (t : LamX.TabS Hx PT q) {y : Addr} {o : HO} (g : Hx y = some o) (hne : ∀ ps, o ≠ .tbl ps) : y ∉ [PT] := fun z => by
  obtain ⟨ps, h1, _⟩ := t
  rw [List.mem_singleton.mp z, h1] at g
  exact hne ps (Option.some.inj g).symm
theorem tab_other {PT PT' : Addr} {q q' : Str} {Hx Hy : Hp} (t : LamX.TabS Hx PT q) (ne : PT' ≠ PT) (t' : LamX.TabS Hx PT' q') (st : Step Hx [PT] Hy [PT]) : LamX.TabS Hy PT' q' :=
  TabS.keep t' fun b o g h => by
    rcases h with rfl | ⟨φ, rfl⟩
    · exact (st _ _ g fun z => ne (List.mem_singleton.mp z)).1
    · exact (st _ _ g (tab_not t g fun ps e => by cases e)).1
theorem SL.lam (h : SL q PT Ts H Hx B) (st : Step Hx [PT] Hy [PT]) (t : LamX.TabS Hy PT q) : SL q PT Ts H Hy B :=
  ⟨t, fun t' ht => ⟨(h.2.1 t' ht).1, tab_other h.1 (h.2.1 t' ht).1 (h.2.1 t' ht).2 st⟩, fun y o g hne => ⟨(st _ _ (h.2.2 y o g hne).1 (tab_not h.1 (h.2.2 y o g hne).1 hne)).1, (h.2.2 y o g hne).2⟩⟩
theorem SL.deed (h : SL q PT Ts H Hx B) (st : Step Hx B Hy B') (kd : ∀ b o, b ∈ B → Hx b = some o → (∃ C dx fs, o = .ins C dx fs) ∨ ∃ xs, o = .lst xs) : SL q PT Ts H Hy B' :=
  ⟨TabS.stepK h.1 st kd, fun t ht => ⟨(h.2.1 t ht).1, TabS.stepK (h.2.1 t ht).2 st kd⟩, fun y o g hne => st _ _ (h.2.2 y o g hne).1 (h.2.2 y o g hne).2⟩
theorem SL.new (h : SL q PT Ts H Hx B) (st : Step Hx [] Hy B') : SL q PT Ts H Hy B' :=
  ⟨TabS.same h.1 st.toSame, fun t ht => ⟨(h.2.1 t ht).1, TabS.same (h.2.1 t ht).2 st.toSame⟩, fun y o g hne => st _ _ (h.2.2 y o g hne).1 (by simp)⟩
end
/-- a def that makes lambdas and answers True -/
def spTabs (PT : Addr) (q : Str) (Ts : List (Addr × Str)) : Sp := fun vs H Q _ => vs = [] ∧ LamX.TabS H PT q ∧ (∀ t ∈ Ts, t.1 ≠ PT ∧ LamX.TabS H t.1 t.2) ∧ ∀ H', LamX.ExtN H H' → Q (.bl true) H'
def spTakeF (K : PySem.W.Frag) (C CE CM : Addr) (fr : Bool) : List (Option V) → Sp := fun ws vs H Q E => ∃ p : Addr, ws = [some (.ref p)] ∧ vs = [] ∧ (∃ (B : List Addr) (xs ys : List Int) (n : Int), HalfAt C H p B xs ys n) ∧ spTakeH K C CE CM [.ref p, .str (endS fr)] H Q E
section
variable {P : Program} {w : World} {K : PySem.W.Frag} {mg : Str → Option Value} {base : Heap} {C CL CT CE CM aE PT PT3 cc : Addr}
def tX : Nat → List Int
  | 0 => []
  | 1 => []
  | _ => [2]
def tY : Nat → List Int
  | 0 => []
  | 1 => [1]
  | 2 => [1]
  | _ => [1, 3]
theorem scTurned : FnScope ["_law_end", "_law_thing", "_law_line"] [] (defScope sTurned) := ⟨rfl, rfl, rfl, by decide +kernel, rfl, by decide +kernel, by decide +kernel⟩
theorem ok_turned {f : Addr} {oc kV doc pm ct : Value} {an od : Option Addr} {osl : Array (Option Value)} (lk : K.lookup f = some ⟨oc, od, .func (PySem.W.fnOf "_law_turned_promises" "_law_turned_promises" (defArgs sTurned) (defBody sTurned) (defScope sTurned) .none kV doc pm an (.ref cc) ct), osl⟩)
    (hcd : PySem.W.codeIn K (.ref cc) "_law_turned_promises" = true) (TB : LamX.TabB base mg cc PT) (T : HTxt K mg C CT CE CM aE)
    (GI : InitOk P w K mg base C (spInitH C))
    (GP : MethOk P w K mg base (L2N.CX P w) 2 C "put" ["self", "end", "thing"] (spPutH K C CT CE))
    (GT : MethOk P w K mg base (L2N.CX P w) 2 C "take" ["self", "end"] (spTakeH K C CE CM))
    (GS : MethOk P w K mg base CX0 1 C "things" ["self"] (spThingsH C))
    (GN : MethOk P w K mg base CX0 1 C "steps_so_far" ["self"] (spStepsH C))
    (GH : MethOk P w K mg base CX0 1 C "halves" ["self"] (spHalvesH C))
    (GU : MethOk P w K mg base CX0 1 C "purse" ["self"] (spPurseH C))
    (GR : MethOk P w K mg base CX0 1 C "turn" ["self"] (spTurnH C))
    {fE : Addr} {fdE : FuncData}
    (FE : FnS P w K mg base CX0 6 fE fdE ["_law_ask"] (spIsE P w K mg base CM 5)) (gE : mg "_law_is_empty" = some (.ref fE)) (kE : PySem.W.keepIn K (.ref fE) = true) (bE : Binds K fdE ["_law_ask"] [])
    (GV : DefOk P w K mg base CX0 7 "_law_even_promises" [] (spTabs PT3 (qOf "_law_even_promises") [])) :
    FnOk P w K mg base CX0 8 f (PySem.W.fnOf "_law_turned_promises" "_law_turned_promises" (defArgs sTurned) (defBody sTurned) (defScope sTurned) .none kV doc pm an (.ref cc) ct) [] (spTabs PT (qOf "_law_turned_promises") [(PT3, qOf "_law_even_promises")]) := by
  obtain ⟨fI, fdI, MI, bI, GI⟩ := GI
  obtain ⟨fP, fdP, mP, bP, GP⟩ := GP
  obtain ⟨fT, fdT, mT, bT, GT⟩ := GT
  obtain ⟨fS, fdS, mS, bS, GS⟩ := GS
  obtain ⟨fN, fdN, mN, bN, GN⟩ := GN
  obtain ⟨fH, fdH, mH, bH, GH⟩ := GH
  obtain ⟨fU, fdU, mU, bU, GU⟩ := GU
  obtain ⟨fR, fdR, mR, bR, GR⟩ := GR
  obtain ⟨fV, fdV, gV, kV2, bV, GV⟩ := GV
  refine fn_of lk hcd scTurned (fun vs H Q E h => ?_) fun Ar outer s H vs Q E hr h => ?_
  · obtain ⟨rfl, _⟩ := h
    rfl
  · obtain ⟨rfl, hT, hTs, k⟩ := h
    have hr1 : Room 1 _ := hr.mono (by decide)
    have hr2 : Room 2 _ := hr.mono (by decide)
    have hr6 : Room 6 _ := hr.mono (by decide)
    have key : ∃ t, PSs (cxOf CX0 P w K mg base ["_law_end", "_law_thing", "_law_line"] "_law_turned_promises" (defScope sTurned) f (.ref cc) Ar outer s H E).nox (defBody sTurned) t ∧ t { nx := fun _ H' => Q .non H', rt := Q } (L2.start ["_law_end", "_law_thing", "_law_line"] []) H := by
      refine ⟨_, pss_cons (ps_set (i := 2) scTurned.nd rfl (Or.inr rfl) (pe_make0 MI GI hr2 rfl T.gC bI .nil pass0))
        (C8.pss_cut (ps_if (PW.pt (pw_or (pt_not (pt_val (pe_callQ FE hr6 rfl gE kE bE pass0 (pa_cons (pe_lamV TB rfl rfl (NdefX.ndef_free (sc := defScope sTurned) (fr := ["_law_line"]) (by decide +kernel))) pa_nil)))) (pw_or (pt_cmpR op_ne (pe_meth0 (pv 2) T.cl mN GN hr1 bN .nil pass0) pe_int (nomark _)) (pw_or1 (pt_cmpR op_ne (pe_meth0 (pv 2) T.cl mU GU hr1 bU .nil pass0) pe_int (nomark _)))))) (pss_one (ps_ret pe_bl)) pss_nil)
        (pss_cons (ps_if (pt_cmpR (op_neI hr.units) (pe_meth0 (pv 2) T.cl mS GS hr1 bS .nil pass0) (pe_lst pa_nil) (nomark _)) (pss_one (ps_ret pe_bl)) pss_nil)
        (C8.pss_cut (ps_for PassesOwn.never rfl (pi_list (pe_lst (pa_cons (pe_tup (pa_cons pe_str (pa_cons pe_int pa_nil))) (pa_cons (pe_tup (pa_cons pe_str (pa_cons pe_int pa_nil))) (pa_cons (pe_tup (pa_cons pe_str (pa_cons pe_int pa_nil))) pa_nil))))) (pg_tup rfl (pgs_cons (pg_name (i := 0) scTurned.nd rfl (Or.inl rfl)) (pgs_cons (pg_name (i := 1) scTurned.nd rfl (Or.inl rfl)) pgs_nil)))
          (pss_one (ps_expr (pe_meth (pv 2) T.cl mP GP hr2 bP .nil passN (pa_cons (pv 0) (pa_cons (pv 1) pa_nil))))))
        (pss_cons (ps_expr (pe_meth0 (pv 2) T.cl mR GR hr1 bR .nil pass0))
        (pss_cons (ps_if (PW.pt (pw_or (pt_cmpR (op_neI hr.units) (pe_meth0 (pv 2) T.cl mS GS hr1 bS .nil pass0) (pe_lst (pa_cons pe_int (pa_cons pe_int (pa_cons pe_int pa_nil)))) (nomark _)) (pw_or (pt_cmpR (op_neT hr.units) (pe_meth0 (pv 2) T.cl mH GH hr1 bH .nil pass0) (pe_tup (pa_cons pe_int (pa_cons pe_int pa_nil))) (nomark _))
            (pw_or (pt_cmpR op_ne (pe_meth0 (pv 2) T.cl mU GU hr1 bU .nil pass0) pe_int (nomark _)) (pw_or1 (pt_cmpR op_ne (pe_meth0 (pv 2) T.cl mN GN hr1 bN .nil pass0) pe_int (nomark _))))))) (pss_one (ps_ret pe_bl)) pss_nil)
        (pss_cons (ps_if (pt_cmpR op_ne (pe_meth (pv 2) T.cl mT GT hr2 bT .nil passN (pa_cons pe_str pa_nil)) pe_int (nomark _)) (pss_one (ps_ret pe_bl)) pss_nil)
        (pss_cons (ps_expr (pe_bm PySem.F.plainAttrs_list PySem.F.slot_list_append PySem.F.type_list_append mt_append (pe_meth0 (pv 2) T.cl mS GS hr1 bS .nil pass0) (pa_cons pe_int pa_nil)))
        (pss_cons (ps_expr (pe_meth (pv 2) T.cl mP GP hr2 bP .nil passN (pa_cons pe_str (pa_cons pe_int pa_nil))))
        (pss_cons (ps_if (pt_not (pt_cmpR (op_eqI hr.units) (pe_meth0 (pv 2) T.cl mS GS hr1 bS .nil pass0) (pe_lst (pa_cons pe_int (pa_cons pe_int (pa_cons pe_int pa_nil)))) (nomark _))) (pss_one (ps_ret pe_bl)) pss_nil)
        (pss_cons (ps_if (pt_not (pt_cmpR op_eq (pe_meth (pv 2) T.cl mT GT hr2 bT .nil passN (pa_cons pe_str pa_nil)) pe_int (nomark _))) (pss_one (ps_ret pe_bl)) pss_nil)
        (pss_cons (ps_if (pt_not (pt_cmpR op_eq (pe_meth (pv 2) T.cl mT GT hr2 bT .nil passN (pa_cons pe_str pa_nil)) pe_int (nomark _))) (pss_one (ps_ret pe_bl)) pss_nil)
        (pss_cons (ps_if (pt_not (pt_cmpR op_eq (pe_meth (pv 2) T.cl mT GT hr2 bT .nil passN (pa_cons pe_str pa_nil)) pe_int (nomark _))) (pss_one (ps_ret pe_bl)) pss_nil)
        (pss_one (ps_ret (pe_call0 GV hr rfl gV kV2 bV .nil pass0))))))))))))))), ?_⟩
      have hS0 : SL (qOf "_law_turned_promises") PT [(PT3, qOf "_law_even_promises")] H H [] := ⟨hT, hTs, fun y o g _ => ⟨g, by simp⟩⟩
      intro p dx np ndx ne
      refine ⟨p, dx, rfl, upd_same, fun H1 B1 hB1 kp => ⟨rfl, ?_⟩⟩
      have st1 : Step H [] H1 B1 := made_step np ndx kp
      have hS := hS0.new st1
      have hB := hB1
      refine ⟨fun σ' H' => σ' = [none, none, some (.ref p)] ∧ HalfAt C H' p B1 [] [] 0 ∧ SL (qOf "_law_turned_promises") PT [(PT3, qOf "_law_even_promises")] H H' B1, ?_, ?_⟩
      · refine ⟨hS.1, fun f1 c1 Hl stl Tl nf1 hf1 hc1 => fun pins sI I => ?_⟩
        have hBl := hB.keep fun q o hq g => (stl q o g fun z => tab_notin hB.kinds hS.1 (by rw [← List.mem_singleton.mp z]; exact hq)).1
        have hSl := hS.lam stl Tl
        have LO := lok_at hf1 (lok_of (CX := L2N.CX P w) (P := P) (w := w) (K := K) (mg := mg) (base := base) (N := ["_law_line"]) (ps := []) (fr := ["_law_line"]) (k := 4) (sp := spTakeF K C CE CM true) (NdefX.nscope_by (sc := scFree "_law_line") (by decide +kernel)) (fun pm ctv us hl => match us, hl with | [], _ => rfl)
            (fun ws vs H Q E h => by obtain ⟨_, _, rfl, _⟩ := h; rfl) (fun A outer s H vs ws Q E hr hw h => ⟨_, pe_methS (pv 0) T.cl mT GT (hr.mono (by decide)) bT (fun σ => L2N.passAt (L2N.takes_of rfl rfl rfl rfl) σ) (pa_cons pe_str pa_nil), by
              obtain ⟨p, rfl, rfl, ⟨B, xs, ys, n, hB⟩, h⟩ := h
              obtain ⟨dx, fs, e1, e2⟩ := hB.obj (m := "take")
              exact ⟨_, rfl, p, dx, fs, rfl, e1, e2, h⟩⟩))
        have LA := lamAt_made (js := [2]) (sc := defScope sTurned) (nsc := scFree "_law_line") I hf1 hc1 LO rfl rfl rfl (by decide +kernel) rfl
        refine ⟨f1, c1, _, fun H' => Same Hl H', rfl, LA, fun Q' E' hE' => ⟨p, rfl, rfl, ⟨_, _, _, _, hBl⟩, p, _, [], [], _, hBl, by decide, .inl ⟨true, rfl, rfl, rfl, fun H' s' => hE' H' s'⟩⟩, fun Hm hR => ⟨true, rfl, iteF ?_⟩⟩
        have hB := hBl.same hR
        have hS := hSl.same hR
        refine rd_steps (p := p) rfl hB ⟨rfl, false, by decide, iteF ?_⟩
        refine rd_purse (p := p) rfl hB ⟨rfl, false, by decide, iteF ?_⟩
        exact ⟨rfl, hB, hS⟩
      rintro σ2 H2 ⟨rfl, hB, hS⟩
      refine rd_things (p := p) rfl hB (by decide) fun H3 l3 s3 nl3 hl3 => ?_
      refine ⟨(by show 0 ≤ sizeLine; decide), fun u4 nu4 => ?_⟩
      have s4 := s3.trans (Same.new (o := .lst []) nu4)
      refine ⟨l3, u4, [], [], rfl, rfl, SqL.of (Same.new nu4 _ _ hl3), SqL.of upd_same, false, rfl, iteF ?_⟩
      have hB := hB.same s4
      have hS := hS.same s4
      generalize upd H3 u4 (.lst []) = H4 at hB hS ⊢
      -- three are put
      refine ⟨fun σ' H' => ∃ (B : List Addr) (v0 v1 : Option V), σ' = [v0, v1, some (.ref p)] ∧ HalfAt C H' p B [2] [1, 3] 3 ∧ SL (qOf "_law_turned_promises") PT [(PT3, qOf "_law_even_promises")] H H' B, ?_, ?_⟩
      · refine ⟨(by show 2 ≤ sizeLine; decide), fun t1 nt1 => ⟨(by show 2 ≤ sizeLine; decide), fun t2 nt2 => ⟨(by show 2 ≤ sizeLine; decide), fun t3 nt3 => ⟨(by show 3 ≤ sizeLine; decide), fun g ng => ?_⟩⟩⟩⟩
        have sg := Same.new (o := .lst [.ref t1, .ref t2, .ref t3]) ng
        have s3' := (Same.new (o := .tup [.str "back", .int 3]) nt3).trans sg
        have s2' := (Same.new (o := .tup [.str "front", .int 2]) nt2).trans s3'
        have h1 := s2' _ _ (upd_same (H := H4) (a := t1) (o := .tup [.str "back", .int 1]))
        have h2 := s3' _ _ (upd_same (H := upd H4 t1 (.tup [.str "back", .int 1])) (a := t2) (o := .tup [.str "front", .int 2]))
        have h3 := sg _ _ (upd_same (H := upd (upd H4 t1 (.tup [.str "back", .int 1])) t2 (.tup [.str "front", .int 2])) (a := t3) (o := .tup [.str "back", .int 3]))
        have hg : upd (upd (upd (upd H4 t1 (.tup [.str "back", .int 1])) t2 (.tup [.str "front", .int 2])) t3 (.tup [.str "back", .int 3])) g (.lst [.ref t1, .ref t2, .ref t3]) g = some (.lst [.ref t1, .ref t2, .ref t3]) := upd_same
        have sA := (Same.new (o := .tup [.str "back", .int 1]) nt1).trans s2'
        have nB : ∀ y, H4 y = none → y ∉ B1 := fun y hy => hB.fresh hy
        have n1 := nB t1 nt1
        have n2 : t2 ∉ B1 := fun z => by
          obtain ⟨o, ho⟩ := hB.trk t2 z
          rw [Same.new nt1 _ _ ho] at nt2
          cases nt2
        have n3 : t3 ∉ B1 := fun z => by
          obtain ⟨o, ho⟩ := hB.trk t3 z
          rw [Same.new nt2 _ _ (Same.new nt1 _ _ ho)] at nt3
          cases nt3
        have ngB : g ∉ B1 := fun z => by
          obtain ⟨o, ho⟩ := hB.trk g z
          rw [Same.new nt3 _ _ (Same.new nt2 _ _ (Same.new nt1 _ _ ho))] at ng
          cases ng
        have hB := hB.same sA
        have hS := hS.same sA
        generalize upd (upd (upd (upd H4 t1 (.tup [.str "back", .int 1])) t2 (.tup [.str "front", .int 2])) t3 (.tup [.str "back", .int 3])) g (.lst [.ref t1, .ref t2, .ref t3]) = H5 at h1 h2 h3 hg hB hS ⊢
        refine ⟨g, rfl, ⟨_, SqL.of hg⟩, for_list (K := K) (a := g) (xs := [.ref t1, .ref t2, .ref t3]) (fun i σ Hj => ∃ (B : List Addr) (v0 v1 : Option V), σ = [v0, v1, some (.ref p)] ∧ HalfAt C Hj p B (tX i) (tY i) (i : Int) ∧ SL (qOf "_law_turned_promises") PT [(PT3, qOf "_law_even_promises")] H Hj B ∧ Step H5 B1 Hj B)
          ⟨B1, none, none, rfl, hB, hS, Step.refl _ _⟩ (fun i σ Hj _ ⟨_, _, _, _, _, _, st⟩ => SqL.of (st _ _ hg ngB).1) ?_ ?_⟩
        · rintro i x σ Hj hi ⟨B, v0, v1, rfl, hB, hS, st⟩
          match i, hi with
          | 0, hi =>
            obtain rfl : x = .ref t1 := (Option.some.inj hi).symm
            refine ⟨t1, _, rfl, SqT.of (st _ _ h1 n1).1, rfl, _, _, rfl, _, _, rfl, rfl, ?_⟩
            refine rd_put (p := p) (fr := false) (z := 1) rfl hB (by decide) (fun R q => ⟨_, rfl, _, rfl, q⟩) fun H8 B8 hB8 st8 => ?_
            exact ⟨B8, _, _, rfl, hB8, hS.deed st8 hB.kinds, st.trans st8⟩
          | 1, hi =>
            obtain rfl : x = .ref t2 := (Option.some.inj hi).symm
            refine ⟨t2, _, rfl, SqT.of (st _ _ h2 n2).1, rfl, _, _, rfl, _, _, rfl, rfl, ?_⟩
            refine rd_put (p := p) (fr := true) (z := 2) rfl hB (by decide) (fun R q => ⟨_, rfl, _, rfl, q⟩) fun H8 B8 hB8 st8 => ?_
            exact ⟨B8, _, _, rfl, hB8, hS.deed st8 hB.kinds, st.trans st8⟩
          | 2, hi =>
            obtain rfl : x = .ref t3 := (Option.some.inj hi).symm
            refine ⟨t3, _, rfl, SqT.of (st _ _ h3 n3).1, rfl, _, _, rfl, _, _, rfl, rfl, ?_⟩
            refine rd_put (p := p) (fr := false) (z := 3) rfl hB (by decide) (fun R q => ⟨_, rfl, _, rfl, q⟩) fun H8 B8 hB8 st8 => ?_
            exact ⟨B8, _, _, rfl, hB8, hS.deed st8 hB.kinds, st.trans st8⟩
          | i + 3, hi => simp at hi
        · rintro σ Hj ⟨B, v0, v1, rfl, hB, hS, st⟩
          exact ⟨B, v0, v1, rfl, hB, hS⟩
      rintro σ5 H5 ⟨B, v0, v1, rfl, hB, hS⟩
      refine rd_turn (p := p) rfl hB fun H6 B6 hB6 st6 => ?_
      have hS := hS.deed st6 hB.kinds
      have hB := hB6
      refine rd_things (p := p) rfl hB (by decide) fun H7 l7 s7 nl7 hl7 => ?_
      refine ⟨(by show 3 ≤ sizeLine; decide), fun u8 nu8 => ?_⟩
      refine ⟨l7, u8, [3, 1, 2], [3, 1, 2], rfl, rfl, SqL.of (Same.new nu8 _ _ hl7), SqL.of upd_same, false, by decide, iteF ?_⟩
      have s8 := s7.trans (Same.new (o := .lst [.int 3, .int 1, .int 2]) nu8)
      have hB := hB.same s8
      have hS := hS.same s8
      generalize upd H7 u8 (.lst [.int 3, .int 1, .int 2]) = H8 at hB hS ⊢
      refine rd_halves (p := p) rfl hB fun H9 t9 s9 nt9 ht9 => ?_
      refine ⟨(by show 2 ≤ sizeLine; decide), fun u10 nu10 => ?_⟩
      refine ⟨t9, u10, [2, 1], [2, 1], rfl, rfl, SqT.of (Same.new nu10 _ _ ht9), SqT.of upd_same, false, by decide, iteF ?_⟩
      have s10 := s9.trans (Same.new (o := .tup [.int 2, .int 1]) nu10)
      have hB := hB.same s10
      have hS := hS.same s10
      generalize upd H9 u10 (.tup [.int 2, .int 1]) = H10 at hB hS ⊢
      refine rd_purse (p := p) rfl hB ⟨rfl, false, by decide, iteF ?_⟩
      refine rd_steps (p := p) rfl hB ⟨rfl, false, by decide, iteF ?_⟩
      refine rd_take (p := p) (fr := true) rfl hB (by decide) (.inr (by decide)) (fun R q => q) fun H11 B11 hB11 st11 => ⟨rfl, false, by decide, iteF ?_⟩
      have hS := hS.deed st11 hB.kinds
      have hB : HalfAt C H11 p B11 [1] [2] _ := hB11
      refine rd_things (p := p) rfl hB (by decide) fun H12 l12 s12 nl12 hl12 => ?_
      refine ⟨.inl ⟨rfl, _, SqL.of hl12⟩, l12, _, _, rfl, rfl, hl12, by decide, ?_⟩
      have s13 : ∀ o, Same H11 (upd H12 l12 o) := fun o => Same.upd s12 nl12
      have hB := fun o => hB.same (s13 o)
      refine rd_put (p := p) (fr := true) (z := 9) rfl (hB _) (by decide) (fun R q => q) fun H14 B14 hB14 st14 => ?_
      have hS := (hS.same (s13 _)).deed st14 (hB _).kinds
      have hB : HalfAt C H14 p B14 [1, 9] [2] _ := hB14
      refine rd_things (p := p) rfl hB (by decide) fun H15 l15 s15 nl15 hl15 => ?_
      refine ⟨(by show 3 ≤ sizeLine; decide), fun u16 nu16 => ?_⟩
      refine ⟨l15, u16, [9, 1, 2], [9, 1, 2], rfl, rfl, SqL.of (Same.new nu16 _ _ hl15), SqL.of upd_same, true, by decide, iteF ?_⟩
      have s16 := s15.trans (Same.new (o := .lst [.int 9, .int 1, .int 2]) nu16)
      have hB := hB.same s16
      have hS := hS.same s16
      generalize upd H15 u16 (.lst [.int 9, .int 1, .int 2]) = H16 at hB hS ⊢
      refine rd_take (p := p) (fr := false) rfl hB (by decide) (.inr (by decide)) (fun R q => q) fun H17 B17 hB17 st17 => ⟨rfl, true, by decide, iteF ?_⟩
      have hS := hS.deed st17 hB.kinds
      have hB : HalfAt C H17 p B17 [1, 9] [] _ := hB17
      refine rd_take (p := p) (fr := false) rfl hB (by decide) (.inl (by decide)) (fun R q => q) fun H18 B18 hB18 st18 => ⟨rfl, true, by decide, iteF ?_⟩
      have hS := hS.deed st18 hB.kinds
      have hB := hB18
      refine rd_take (p := p) (fr := false) rfl hB (by decide) (by decide) (fun R q => q) fun H19 B19 hB19 st19 => ⟨rfl, true, by decide, iteF ?_⟩
      have hS := hS.deed st19 hB.kinds
      exact ⟨rfl, (hS.2.1 _ (List.mem_singleton.mpr rfl)).2, fun t ht => absurd ht (by simp), fun H20 x20 => k H20 (hS.ext.trans x20)⟩
    obtain ⟨t, h1, h2⟩ := key
    exact ⟨t, h1.nox, h2⟩
end
end Hf
/-! ## k08: _law_even_promises -/
namespace Hf
open PySem PySem.Spec PyProof.Rows L2
abbrev sEvenP : Stmt := top 18
def spTakeEF (CV CM : Addr) : List (Option V) → Sp := fun ws vs H Q E => ∃ p : Addr, ws = [some (.ref p)] ∧ vs = [] ∧ spTakeE CV CM [.ref p] H Q E
def spFirstEF (CV CM : Addr) : List (Option V) → Sp := fun ws vs H Q E => ∃ p : Addr, ws = [some (.ref p)] ∧ vs = [] ∧ spFirstE CV CM [.ref p] H Q E
theorem EvenAt.upd {C : Addr} {H : Hp} {p m : Addr} {o : HO} {A : List Addr} {ts : List Int} {l : Int} (h : EvenAt C H p A ts l) (hm : m ∉ A) : EvenAt C (upd H m o) p A ts l :=
  h.keep fun q u hq e => by rw [upd_ne (fun z => hm (by rw [← z]; exact hq))]; exact e
theorem seq_first {n : Nat} (h : 0 < n) : seqIndex? 0 n = some 0 := by
  unfold seqIndex?
  simp
  omega
theorem at_first {x : V} {xs : List V} : atI (x :: xs) 0 = some x := by
  unfold atI ixN
  simp
/-- a line, what is due, the tables -/
def EvD (CV PT : Addr) (q : Str) (H Hx : Hp) (p m : Addr) (A : List Addr) (ts : List Int) (l : Int) (ds : List Int) : Prop :=
  EvenAt CV Hx p A ts l ∧ Hx m = some (.lst (ds.map V.int)) ∧ m ∉ A ∧ SL q PT [] H Hx (m :: A)
section
variable {CV PT : Addr} {q : Str} {H Hx Hy : Hp} {p m : Addr} {A A' : List Addr} {ts ts' : List Int} {l l' : Int} {ds ds' : List Int}
theorem EvD.same (h : EvD CV PT q H Hx p m A ts l ds) (s : Same Hx Hy) : EvD CV PT q H Hy p m A ts l ds := ⟨h.1.same s, s _ _ h.2.1, h.2.2.1, h.2.2.2.same s⟩
theorem EvD.lam (h : EvD CV PT q H Hx p m A ts l ds) (st : Step Hx [PT] Hy [PT]) (t : LamX.TabS Hy PT q) : EvD CV PT q H Hy p m A ts l ds :=
  ⟨h.1.keep fun y o hy g => (st y o g fun z => tab_notin h.1.kinds h.2.2.2.1 (by rw [← List.mem_singleton.mp z]; exact hy)).1, (st _ _ h.2.1 (tab_not h.2.2.2.1 h.2.1 fun ps e => by cases e)).1, h.2.2.1, h.2.2.2.lam st t⟩
theorem EvD.kinds (h : EvD CV PT q H Hx p m A ts l ds) : ∀ b o, b ∈ m :: A → Hx b = some o → (∃ C dx fs, o = .ins C dx fs) ∨ ∃ xs, o = .lst xs := fun b o hb g => by
  rcases List.mem_cons.mp hb with rfl | hb
  · rw [h.2.1] at g
    exact .inr ⟨_, (Option.some.inj g).symm⟩
  · exact h.1.kinds b o hb g
theorem EvD.deed (h : EvD CV PT q H Hx p m A ts l ds) (hA : EvenAt CV Hy p A' ts' l') (st : Step Hx A Hy A') : EvD CV PT q H Hy p m A' ts' l' ds :=
  ⟨hA, (st _ _ h.2.1 h.2.2.1).1, (st _ _ h.2.1 h.2.2.1).2, h.2.2.2.deed (st.cons m) h.kinds⟩
theorem EvD.due (h : EvD CV PT q H Hx p m A ts l ds) {xs : List V} (e : xs = ds'.map V.int) : EvD CV PT q H (upd Hx m (.lst xs)) p m A ts l ds' :=
  ⟨h.1.upd h.2.2.1, by rw [upd_same, e], h.2.2.1, h.2.2.2.deed (Step.store m _) h.kinds⟩
end
section
variable {P : Program} {w : World} {K : PySem.W.Frag} {mg : Str → Option Value} {base : Heap} {CV CL CT CE CM PT cc : Addr}
theorem scEvenP : FnScope ["_law_many", "_law_line", "_law_due", "_law_count", "_law_turn"] [] (defScope sEvenP) := ⟨rfl, rfl, rfl, by decide +kernel, rfl, by decide +kernel, by decide +kernel⟩
theorem ok_evenP {f : Addr} {oc kV doc pm ct : Value} {an od : Option Addr} {osl : Array (Option Value)} (lk : K.lookup f = some ⟨oc, od, .func (PySem.W.fnOf "_law_even_promises" "_law_even_promises" (defArgs sEvenP) (defBody sEvenP) (defScope sEvenP) .none kV doc pm an (.ref cc) ct), osl⟩)
    (hcd : PySem.W.codeIn K (.ref cc) "_law_even_promises" = true) (TB : LamX.TabB base mg cc PT) (TV : VTxt K mg CV CT CM) (L : PTxt K mg CL CT CE CM)
    (EI : InitOk P w K mg base CV (spInitE CV))
    (EP : MethOk P w K mg base (L2N.CX P w) 4 CV "put" ["self", "thing"] (spPutE K CV CT))
    (ET : MethOk P w K mg base (L2N.CX P w) 4 CV "take" ["self"] (spTakeE CV CM))
    (EF : MethOk P w K mg base (L2N.CX P w) 1 CV "first" ["self"] (spFirstE CV CM))
    (ES : MethOk P w K mg base CX0 1 CV "things" ["self"] (spThingsE CV))
    (EM : MethOk P w K mg base CX0 1 CV "moved_last" ["self"] (spMovedE CV))
    {fE : Addr} {fdE : FuncData}
    (FE : FnS P w K mg base CX0 6 fE fdE ["_law_ask"] (spIsE P w K mg base CM 5)) (gE : mg "_law_is_empty" = some (.ref fE)) (kE : PySem.W.keepIn K (.ref fE) = true) (bE : Binds K fdE ["_law_ask"] []) :
    FnOk P w K mg base CX0 7 f (PySem.W.fnOf "_law_even_promises" "_law_even_promises" (defArgs sEvenP) (defBody sEvenP) (defScope sEvenP) .none kV doc pm an (.ref cc) ct) [] (spTabs PT (qOf "_law_even_promises") []) := by
  obtain ⟨fEI, fdEI, MEI, bEI, GEI⟩ := EI
  obtain ⟨fEP, fdEP, mEP, bEP, GEP⟩ := EP
  obtain ⟨fET, fdET, mET, bET, GET⟩ := ET
  obtain ⟨fEF, fdEF, mEF, bEF, GEF⟩ := EF
  obtain ⟨fES, fdES, mES, bES, GES⟩ := ES
  obtain ⟨fEM, fdEM, mEM, bEM, GEM⟩ := EM
  refine fn_of lk hcd scEvenP (fun vs H Q E h => ?_) fun Ar outer s H vs Q E hr h => ?_
  · obtain ⟨rfl, _⟩ := h
    rfl
  · obtain ⟨rfl, hT, _, k⟩ := h
    have hr1 : Room 1 _ := hr.mono (by decide)
    have hr2 : Room 2 _ := hr.mono (by decide)
    have hr4 : Room 4 _ := hr.mono (by decide)
    have key : ∃ t, PSs (cxOf CX0 P w K mg base ["_law_many", "_law_line", "_law_due", "_law_count", "_law_turn"] "_law_even_promises" (defScope sEvenP) f (.ref cc) Ar outer s H E).nox (defBody sEvenP) t ∧ t { nx := fun _ H' => Q .non H', rt := Q } (L2.start ["_law_many", "_law_line", "_law_due", "_law_count", "_law_turn"] []) H := by
      refine ⟨_, pss_cons (ps_for PassesOwn.never rfl (pi_list (pe_lst (pa_cons pe_int (pa_cons pe_int (pa_cons pe_int (pa_cons pe_int (pa_cons pe_int (pa_cons pe_int (pa_cons pe_int (pa_cons pe_int (pa_cons pe_int (pa_cons pe_int (pa_cons pe_int (pa_cons pe_int pa_nil)))))))))))))) (pg_name (i := 0) scEvenP.nd rfl (Or.inl rfl))
          (pss_cons (ps_asg (pe_tup (pa_cons (pe_make0 MEI GEI hr2 rfl TV.gC bEI .nil pass0) (pa_cons (pe_lst pa_nil) (pa_cons pe_int pa_nil)))) (pg_tup rfl (pgs_cons (pg_name (i := 1) scEvenP.nd rfl (Or.inr rfl)) (pgs_cons (pg_name (i := 2) scEvenP.nd rfl (Or.inl rfl)) (pgs_cons (pg_name (i := 3) scEvenP.nd rfl (Or.inl rfl)) pgs_nil)))))
          (C8.pss_cut (ps_if (PW.pt (pw_or (pt_cmpR op_ne (pe_meth0 (pv 1) TV.cl mEM GEM hr1 bEM .nil pass0) pe_int (nomark _)) (pw_or1 (pt_not (pt_val (pe_callQ FE hr rfl gE kE bE pass0 (pa_cons (pe_lamV TB rfl rfl (NdefX.ndef_free (sc := defScope sEvenP) (fr := ["_law_line"]) (by decide +kernel))) pa_nil))))))) (pss_one (ps_ret pe_bl)) pss_nil)
          (C8.pss_cut (ps_if (pt_not (pt_val (pe_callQ FE hr rfl gE kE bE pass0 (pa_cons (pe_lamV TB rfl rfl (NdefX.ndef_free (sc := defScope sEvenP) (fr := ["_law_line"]) (by decide +kernel))) pa_nil)))) (pss_one (ps_ret pe_bl)) pss_nil)
          (pss_cons (ps_if (pt_cmpR op_ne (pe_meth0 (pv 1) TV.cl mEM GEM hr1 bEM .nil pass0) pe_int (nomark _)) (pss_one (ps_ret pe_bl)) pss_nil)
          (C8.pss_cut (ps_for PassesOwn.never rfl (pi_range1 (by rfl) L.range (pa_cons (pe_op op_add (pe_op op_mul pe_int (pv 0)) pe_int) pa_nil)) (pg_name (i := 4) scEvenP.nd rfl (Or.inl rfl))
            (pss_cons (ps_expr (pe_meth (pv 1) TV.cl mEP GEP hr4 bEP .nil passN (pa_cons (pv 4) pa_nil)))
            (pss_cons (ps_expr (pe_bm PySem.F.plainAttrs_list PySem.F.slot_list_append PySem.F.type_list_append mt_append (pv 2) (pa_cons (pv 4) pa_nil)))
            (pss_cons (ps_if (pt_not (pt_chain op_le op_le pe_int (pe_meth0 (pv 1) TV.cl mEM GEM hr1 bEM .nil pass0) pe_int)) (pss_one (ps_ret pe_bl)) pss_nil)
            (C8.pss_cut (ps_if (PW.pt (pw_or (PW.pt (pw_and (pt_cmpR op_ge (pv 4) (pv 0) (nomark _)) (pw_and1 (pt_cmpR op_ne (pe_meth0 (pv 1) TV.cl mET GET hr4 bET .nil passN) (pe_bm PySem.F.plainAttrs_list PySem.F.slot_list_pop PySem.F.type_list_pop mt_popAt (pv 2) (pa_cons pe_int pa_nil)) (nomark _))))) (pw_or (pt_not (pt_chain op_le op_le pe_int (pe_meth0 (pv 1) TV.cl mEM GEM hr1 bEM .nil pass0) pe_int)) (pw_or1 (pt_cmpR op_ne (pe_meth0 (pv 1) TV.cl mEF GEF hr1 bEF .nil passN) (pe_ix ix_list (pv 2) pe_int (fun _ _ => rfl)) (nomark _)))))) (pss_one (ps_ret pe_bl)) pss_nil)
            (pss_one (ps_if (pt_cmpR (op_neI hr.units) (pe_meth0 (pv 1) TV.cl mES GES hr1 bES .nil pass0) (pv 2) (nomark _)) (pss_one (ps_ret pe_bl)) pss_nil)))))))
          (pss_cons (ps_expr (pe_bm PySem.F.plainAttrs_list PySem.F.slot_list_append PySem.F.type_list_append mt_append (pe_meth0 (pv 1) TV.cl mES GES hr1 bES .nil pass0) (pa_cons pe_str pa_nil)))
          (C8.pss_cut (ps_while PassesOwn.never (pt_cmpR (op_neI hr.units) (pv 2) (pe_lst pa_nil) (nomark _))
            (pss_cons (ps_if (PW.pt (pw_or (pt_cmpR op_ne (pe_meth0 (pv 1) TV.cl mEF GEF hr1 bEF .nil passN) (pe_ix ix_list (pv 2) pe_int (fun _ _ => rfl)) (nomark _)) (pw_or (pt_cmpR op_ne (pe_meth0 (pv 1) TV.cl mET GET hr4 bET .nil passN) (pe_bm PySem.F.plainAttrs_list PySem.F.slot_list_pop PySem.F.type_list_pop mt_popAt (pv 2) (pa_cons pe_int pa_nil)) (nomark _)) (pw_or1 (pt_not (pt_chain op_le op_le pe_int (pe_meth0 (pv 1) TV.cl mEM GEM hr1 bEM .nil pass0) pe_int)))))) (pss_one (ps_ret pe_bl)) pss_nil)
            (pss_one (ps_if (pt_cmpR (op_neI hr.units) (pe_meth0 (pv 1) TV.cl mES GES hr1 bES .nil pass0) (pv 2) (nomark _)) (pss_one (ps_ret pe_bl)) pss_nil))))
          (pss_cons (ps_expr (pe_meth (pv 1) TV.cl mEP GEP hr4 bEP .nil passN (pa_cons pe_int pa_nil)))
          (pss_one (ps_if (PW.pt (pw_or (pt_cmpR op_ne (pe_meth0 (pv 1) TV.cl mET GET hr4 bET .nil passN) pe_int (nomark _)) (pw_or1 (pt_not (pt_val (pe_callQ FE hr rfl gE kE bE pass0 (pa_cons (pe_lamV TB rfl rfl (NdefX.ndef_free (sc := defScope sEvenP) (fr := ["_law_line"]) (by decide +kernel))) pa_nil))))))) (pss_one (ps_ret pe_bl)) pss_nil)))))))))))
        (pss_one (ps_ret pe_bl)), ?_⟩
      refine ⟨(by show 12 ≤ sizeLine; decide), fun g ng => ?_⟩
      have sg := Same.new (o := .lst (([1, 2, 3, 4, 7, 8, 9, 31, 32, 33, 64, 65] : List Int).map V.int)) ng
      have hg : upd H g (.lst (([1, 2, 3, 4, 7, 8, 9, 31, 32, 33, 64, 65] : List Int).map V.int)) g = some (.lst (([1, 2, 3, 4, 7, 8, 9, 31, 32, 33, 64, 65] : List Int).map V.int)) := upd_same
      have hT := TabS.same hT sg
      refine ⟨g, rfl, ⟨_, SqL.of hg⟩, ?_⟩
      show ∃ W : Nat → Nat → L2.St → Hp → Prop, (∃ m, W 0 m _ (upd H g (.lst (([1, 2, 3, 4, 7, 8, 9, 31, 32, 33, 64, 65] : List Int).map V.int)))) ∧ _
      generalize upd H g (.lst (([1, 2, 3, 4, 7, 8, 9, 31, 32, 33, 64, 65] : List Int).map V.int)) = Hg at sg hg hT ⊢
      refine for_list (K := K) (a := g) (xs := ([1, 2, 3, 4, 7, 8, 9, 31, 32, 33, 64, 65] : List Int).map V.int) (fun i σ Hc => ∃ (v0 v1 v2 v3 v4 : Option V), σ = [v0, v1, v2, v3, v4] ∧ SL (qOf "_law_even_promises") PT [] Hg Hc [])
        ⟨none, none, none, none, none, rfl, hT, fun t ht => absurd ht (by simp), fun y o e _ => ⟨e, by simp⟩⟩ (fun i σ Hc _ ⟨_, _, _, _, _, _, hS⟩ => SqL.of (hS.2.2 _ _ hg (fun ps z => by cases z)).1) ?_ ?_
      · rintro i x σ Hc hi ⟨v0, v1, v2, v3, v4, rfl, hS⟩
        obtain ⟨N, rfl, hN1, hN2⟩ : ∃ N : Nat, x = V.int (N : Nat) ∧ 1 ≤ N ∧ N ≤ 65 := by
          match i, hi with
          | 0, hi => exact ⟨1, (Option.some.inj hi).symm, by decide, by decide⟩
          | 1, hi => exact ⟨2, (Option.some.inj hi).symm, by decide, by decide⟩
          | 2, hi => exact ⟨3, (Option.some.inj hi).symm, by decide, by decide⟩
          | 3, hi => exact ⟨4, (Option.some.inj hi).symm, by decide, by decide⟩
          | 4, hi => exact ⟨7, (Option.some.inj hi).symm, by decide, by decide⟩
          | 5, hi => exact ⟨8, (Option.some.inj hi).symm, by decide, by decide⟩
          | 6, hi => exact ⟨9, (Option.some.inj hi).symm, by decide, by decide⟩
          | 7, hi => exact ⟨31, (Option.some.inj hi).symm, by decide, by decide⟩
          | 8, hi => exact ⟨32, (Option.some.inj hi).symm, by decide, by decide⟩
          | 9, hi => exact ⟨33, (Option.some.inj hi).symm, by decide, by decide⟩
          | 10, hi => exact ⟨64, (Option.some.inj hi).symm, by decide, by decide⟩
          | 11, hi => exact ⟨65, (Option.some.inj hi).symm, by decide, by decide⟩
          | i + 12, hi => simp at hi
        intro p dx np ndx ne
        refine ⟨p, dx, rfl, upd_same, fun H1 A hA kp => ⟨rfl, (by show 0 ≤ sizeLine; decide), fun m nm => ⟨(by show 3 ≤ sizeLine; decide), fun tp ntp => ?_⟩⟩⟩
        have st1 : Step Hc [] H1 A := made_step np ndx kp
        have hV : EvD CV PT (qOf "_law_even_promises") Hg (upd (upd H1 m (.lst [])) tp (.tup [.ref p, .ref m, .int 0])) p m A [] 0 [] := by
          refine EvD.same ⟨hA.same (Same.new nm), upd_same, hA.fresh nm, ?_⟩ (Same.new ntp)
          have h1 := hS.new st1
          refine ⟨TabS.same h1.1 (Same.new nm), fun t ht => absurd ht (by simp), fun y o e hne => ?_⟩
          have h2 := h1.2.2 y o e hne
          exact ⟨Same.new nm _ _ h2.1, fun z => (List.mem_cons.mp z).elim (ne_of_none h2.1 nm) h2.2⟩
        refine ⟨tp, _, rfl, SqT.of upd_same, rfl, _, _, rfl, _, _, rfl, _, _, rfl, rfl, ?_⟩
        generalize upd (upd H1 m (.lst [])) tp (.tup [.ref p, .ref m, .int 0]) = H2 at hV ⊢
        -- nothing there
        refine ⟨fun σ' H' => σ' = [some (.int (N : Nat)), some (.ref p), some (.ref m), some (.int 0), v4] ∧ EvD CV PT (qOf "_law_even_promises") Hg H' p m A [] 0 [], ?_, ?_⟩
        · refine rv_moved (p := p) rfl hV.1 ⟨rfl, false, by decide, iteF ?_⟩
          refine ⟨hV.2.2.2.1, fun f1 c1 Hl stl Tl nf1 hf1 hc1 => fun pins sI I => ?_⟩
          have hVl := hV.lam stl Tl
          have LO := lok_at hf1 (lok_of (CX := L2N.CX P w) (P := P) (w := w) (K := K) (mg := mg) (base := base) (N := ["_law_line"]) (ps := []) (fr := ["_law_line"]) (k := 4) (sp := spTakeEF CV CM) (NdefX.nscope_by (sc := scFree "_law_line") (by decide +kernel)) (fun pm ctv us hl => match us, hl with | [], _ => rfl)
            (fun ws vs H Q E h => by obtain ⟨_, _, rfl, _⟩ := h; rfl) (fun A outer s H vs ws Q E hr hw h => ⟨_, pe_methS0 (pv 0) TV.cl mET GET hr bET (fun σ => L2N.passAt (L2N.takes_of rfl rfl rfl rfl) σ), by
              obtain ⟨p, rfl, rfl, h⟩ := h
              have h' := h
              obtain ⟨p', A, ts, l, ep, hA, _⟩ := h'
              obtain rfl : p = p' := by injection ep with e1; injection e1
              obtain ⟨dx, fs, e1, e2⟩ := hA.obj (m := "take")
              exact ⟨_, rfl, p, dx, fs, rfl, e1, e2, h⟩⟩))
          have LA := lamAt_made (js := [1]) (sc := defScope sEvenP) (nsc := scFree "_law_line") I hf1 hc1 LO rfl rfl rfl (by decide +kernel) rfl
          refine ⟨f1, c1, _, fun H' => EvenAt CV H' p A [] 0 ∧ Step Hl A H' A, rfl, LA, fun Q' E' hE' => ⟨p, rfl, rfl, p, A, [], _, rfl, hVl.1, by decide, .inl ⟨rfl, fun H' hE st => hE' H' ⟨hE, st⟩⟩⟩, fun Hm hR => ⟨true, rfl, iteF ?_⟩⟩
          have hV := hVl.deed hR.1 hR.2
          exact ⟨rfl, hV⟩
        rintro σ3 H3 ⟨rfl, hV⟩
        refine ⟨fun σ' H' => σ' = [some (.int (N : Nat)), some (.ref p), some (.ref m), some (.int 0), v4] ∧ EvD CV PT (qOf "_law_even_promises") Hg H' p m A [] 0 [], ?_, ?_⟩
        · refine ⟨hV.2.2.2.1, fun f1 c1 Hl stl Tl nf1 hf1 hc1 => fun pins sI I => ?_⟩
          have hVl := hV.lam stl Tl
          have LO := lok_at hf1 (lok_of (CX := L2N.CX P w) (P := P) (w := w) (K := K) (mg := mg) (base := base) (N := ["_law_line"]) (ps := []) (fr := ["_law_line"]) (k := 4) (sp := spFirstEF CV CM) (NdefX.nscope_by (sc := scFree "_law_line") (by decide +kernel)) (fun pm ctv us hl => match us, hl with | [], _ => rfl)
            (fun ws vs H Q E h => by obtain ⟨_, _, rfl, _⟩ := h; rfl) (fun A outer s H vs ws Q E hr hw h => ⟨_, pe_methS0 (pv 0) TV.cl mEF GEF (hr.mono (by decide)) bEF (fun σ => L2N.passAt (L2N.takes_of rfl rfl rfl rfl) σ), by
              obtain ⟨p, rfl, rfl, h⟩ := h
              have h' := h
              obtain ⟨p', A, ts, l, ep, hA, _⟩ := h'
              obtain rfl : p = p' := by injection ep with e1; injection e1
              obtain ⟨dx, fs, e1, e2⟩ := hA.obj (m := "first")
              exact ⟨_, rfl, p, dx, fs, rfl, e1, e2, h⟩⟩))
          have LA := lamAt_made (js := [1]) (sc := defScope sEvenP) (nsc := scFree "_law_line") I hf1 hc1 LO rfl rfl rfl (by decide +kernel) rfl
          refine ⟨f1, c1, _, fun H' => H' = Hl, rfl, LA, fun Q' E' hE' => ⟨p, rfl, rfl, p, A, [], _, rfl, hVl.1, .inl ⟨rfl, hE' Hl rfl⟩⟩, fun Hm hR => ⟨true, rfl, iteF ?_⟩⟩
          have hV := hVl.same (Hy := Hm) (by rw [hR]; exact Same.refl _)
          exact ⟨rfl, hV⟩
        rintro σ4 H4 ⟨rfl, hV⟩
        refine rv_moved (p := p) rfl hV.1 ⟨rfl, false, by decide, iteF ?_⟩
        -- put, taken
        refine ⟨fun σ' H' => ∃ (A : List Addr) (ts : List Int) (l : Int) (v4 : Option V), σ' = [some (.int (N : Nat)), some (.ref p), some (.ref m), some (.int 0), v4] ∧ EvD CV PT (qOf "_law_even_promises") Hg H' p m A ts l ts ∧ ts.length < 1000, ?_, ?_⟩
        · refine ⟨_, rfl, _, _, rfl, rfl, (.inl ⟨by decide, by decide⟩), _, _, rfl, rfl, _, rfl, by omega, by omega, for_range (lo := 0) (n := (2 * ((N : Nat) : Int) + 3).toNat) (fun j σ Hd => ∃ (A : List Addr) (ts : List Int) (l : Int) (v4 : Option V), σ = [some (.int (N : Nat)), some (.ref p), some (.ref m), some (.int 0), v4] ∧ EvD CV PT (qOf "_law_even_promises") Hg Hd p m A ts l ts ∧ ts.length = min j N)
            ⟨A, [], 0, v4, rfl, hV, by simp⟩ ?_ ?_⟩
          · rintro j σ Hd hj ⟨A, ts, l, w4, rfl, hV, hlen⟩
            refine rv_put (p := p) (z := 0 + (j : Nat)) rfl hV.1 (by omega) (fun R q => ⟨_, rfl, q⟩) fun H8 A8 l8 hA8 h80 h84 st8 => ?_
            have hV := hV.deed hA8 st8
            refine ⟨_, rfl, .inl ⟨rfl, _, SqL.of hV.2.1⟩, _, rfl, m, _, _, rfl, rfl, hV.2.1, by rw [List.length_map, sizeLine_eq]; omega, ?_⟩
            have hV := hV.due (ds' := ts ++ [0 + ((j : Nat) : Int)]) (xs := ts.map V.int ++ [V.int (0 + ((j : Nat) : Int))]) (by rw [List.map_append]; rfl)
            generalize upd H8 m (.lst (ts.map V.int ++ [V.int (0 + ((j : Nat) : Int))])) = H9 at hV ⊢
            refine rv_moved (p := p) rfl hV.1 ⟨_, _, rfl, rfl, true, congrArg V.bl (decide_eq_true (by omega)), iteT ⟨_, _, rfl, rfl, true, congrArg V.bl (decide_eq_true (by omega)), iteF ?_⟩⟩
            have hl8 : (ts ++ [0 + ((j : Nat) : Int)]).length = min j N + 1 := by
              rw [List.length_append, hlen]
              rfl
            obtain ⟨z, r, hzr⟩ : ∃ z r, ts ++ [0 + ((j : Nat) : Int)] = z :: r := by
              cases hc : ts ++ [0 + ((j : Nat) : Int)] with
              | nil =>
                rw [hc] at hl8
                simp at hl8
              | cons z r => exact ⟨z, r, rfl⟩
            rw [hzr] at hV hl8
            have hl8 : r.length + 1 = min j N + 1 := hl8
            refine ⟨fun σ' H' => ∃ (A : List Addr) (ts : List Int) (l : Int), σ' = [some (.int (N : Nat)), some (.ref p), some (.ref m), some (.int 0), some (.int (0 + ((j : Nat) : Int)))] ∧ EvD CV PT (qOf "_law_even_promises") Hg H' p m A ts l ts ∧ ts.length = min (j + 1) N, ?_, ?_⟩
            · refine ⟨_, rfl, _, rfl, _, _, rfl, rfl, decide ((N : Int) ≤ 0 + (j : Nat)), rfl, ?_⟩
              by_cases hc : (N : Int) ≤ 0 + (j : Nat)
              · rw [decide_eq_true hc]
                refine iteT (rv_take (p := p) rfl hV.1 (by show r.length + 1 < 90000; omega) fun H10 A10 l10 hA10 h0 h4 st10 => ?_)
                have hV := hV.deed hA10 st10
                refine ⟨_, rfl, .inl ⟨rfl, _, SqL.of hV.2.1⟩, m, _, _, 0, _, rfl, rfl, hV.2.1, by decide, by decide, seq_first (by simp), rfl, ?_⟩
                have hV := hV.due (ds' := r) (xs := ((z :: r).map V.int).eraseIdx 0) rfl
                refine ⟨rfl, false, by simp, iteF ?_⟩
                generalize upd H10 m (.lst (((z :: r).map V.int).eraseIdx 0)) = H11 at hV ⊢
                refine rv_moved (p := p) rfl hV.1 ⟨_, _, rfl, rfl, true, congrArg V.bl (decide_eq_true (by omega)), iteT ⟨_, _, rfl, rfl, true, congrArg V.bl (decide_eq_true (by omega)), iteF ?_⟩⟩
                obtain ⟨z2, r2, rfl⟩ : ∃ z2 r2, r = z2 :: r2 := by
                  cases r with
                  | nil =>
                    simp at hl8
                    omega
                  | cons a b => exact ⟨a, b, rfl⟩
                refine rv_first (p := p) rfl hV.1 ⟨_, rfl, m, _, _, _, rfl, rfl, SqL.of hV.2.1, at_first, rfl, false, by simp, iteF ?_⟩
                exact ⟨A10, _, l10, rfl, hV, by omega⟩
              · rw [decide_eq_false hc]
                refine iteF (rv_moved (p := p) rfl hV.1 ⟨_, _, rfl, rfl, true, congrArg V.bl (decide_eq_true (by omega)), iteT ⟨_, _, rfl, rfl, true, congrArg V.bl (decide_eq_true (by omega)), iteF ?_⟩⟩)
                refine rv_first (p := p) rfl hV.1 ⟨_, rfl, m, _, _, _, rfl, rfl, SqL.of hV.2.1, at_first, rfl, false, by simp, iteF ?_⟩
                exact ⟨A8, _, l8, rfl, hV, by show r.length + 1 = _; omega⟩
            rintro σ12 H12 ⟨A, ts, l, rfl, hV, hlen⟩
            refine rv_things (p := p) rfl hV.1 (by omega) fun H13 l13 s13 nl13 hl13 => ?_
            have hV := hV.same s13
            refine ⟨_, rfl, l13, m, ts, ts, rfl, rfl, SqL.of hl13, SqL.of hV.2.1, false, by simp, iteF ?_⟩
            exact ⟨A, ts, l, _, rfl, hV, hlen⟩
          · rintro σ Hd ⟨A, ts, l, w4, rfl, hV, hlen⟩
            exact ⟨A, ts, l, w4, rfl, hV, by omega⟩
        rintro σ5 H5 ⟨A, ts, l, w4, rfl, hV, hlen⟩
        refine rv_things (p := p) rfl hV.1 (by omega) fun H6 l6 s6 nl6 hl6 => ?_
        refine ⟨.inl ⟨rfl, _, SqL.of hl6⟩, l6, _, _, rfl, rfl, hl6, by rw [List.length_map, sizeLine_eq]; omega, ?_⟩
        have s7 : ∀ o, Same H5 (upd H6 l6 o) := fun o => Same.upd s6 nl6
        have hV := hV.same (s7 (.lst (ts.map V.int ++ [.str "a"])))
        generalize upd H6 l6 (.lst (ts.map V.int ++ [.str "a"])) = H7 at hV ⊢
        -- taken to none
        refine ⟨fun σ' H' => ∃ (A : List Addr) (l : Int), σ' = [some (.int (N : Nat)), some (.ref p), some (.ref m), some (.int 0), w4] ∧ EvD CV PT (qOf "_law_even_promises") Hg H' p m A [] l [], ?_, ?_⟩
        · refine while_by (fun σ Hd => ∃ (A : List Addr) (ts : List Int) (l : Int), σ = [some (.int (N : Nat)), some (.ref p), some (.ref m), some (.int 0), w4] ∧ EvD CV PT (qOf "_law_even_promises") Hg Hd p m A ts l ts ∧ ts.length < 1000) (fun _ Hd => match Hd m with | some (.lst xs) => xs.length | _ => 0) ⟨A, ts, l, rfl, hV, hlen⟩ ?_ ?_
          · rintro σ Hd ⟨A, ts, l, rfl, hV, hlen⟩
            have hmu := hV.2.1
            refine ⟨_, rfl, (by show 0 ≤ sizeLine; decide), fun u nu => ?_⟩
            have hVu := hV.same (Same.new (o := .lst []) nu)
            refine ⟨m, u, ts, [], rfl, rfl, SqL.of hVu.2.1, SqL.of upd_same, _, rfl, ?_⟩
            generalize upd Hd u (.lst []) = H8 at hVu ⊢
            cases ts with
            | nil => exact iteF ⟨A, l, rfl, hVu⟩
            | cons z r =>
              rw [decide_eq_false (by simp)]
              refine iteT ?_
              refine rv_first (p := p) rfl hVu.1 ⟨_, rfl, m, _, _, _, rfl, rfl, SqL.of hVu.2.1, at_first, rfl, false, by simp, iteF ?_⟩
              refine rv_take (p := p) rfl hVu.1 (by omega) fun H10 A10 l10 hA10 h0 h4 st10 => ?_
              have hV := hVu.deed hA10 st10
              refine ⟨_, rfl, .inl ⟨rfl, _, SqL.of hV.2.1⟩, m, _, _, 0, _, rfl, rfl, hV.2.1, by decide, by decide, seq_first (by simp), rfl, ?_⟩
              have hV := hV.due (ds' := r) (xs := ((z :: r).map V.int).eraseIdx 0) rfl
              refine ⟨rfl, false, by simp, iteF ?_⟩
              generalize upd H10 m (.lst (((z :: r).map V.int).eraseIdx 0)) = H11 at hV ⊢
              refine rv_moved (p := p) rfl hV.1 ⟨_, _, rfl, rfl, true, congrArg V.bl (decide_eq_true (by omega)), iteT ⟨_, _, rfl, rfl, true, congrArg V.bl (decide_eq_true (by omega)), iteF ?_⟩⟩
              refine rv_things (p := p) rfl hV.1 (by simp at hlen; omega) fun H13 l13 s13 nl13 hl13 => ?_
              have hV := hV.same s13
              refine ⟨_, rfl, l13, m, r, r, rfl, rfl, SqL.of hl13, SqL.of hV.2.1, false, by simp, iteF ?_⟩
              refine ⟨⟨A10, r, l10, rfl, hV, by simp at hlen; omega⟩, ?_⟩
              show (match H13 m with | some (.lst xs) => xs.length | _ => 0) < (match Hd m with | some (.lst xs) => xs.length | _ => 0)
              rw [hV.2.1, hmu]
              simp
          · rintro σ Hd Q1 Q2 hQ ⟨v, e, hz, h⟩
            refine ⟨v, e, hz, fun u nu => ?_⟩
            obtain ⟨a, b, xs, ys, e1, e2, h1, h2, bb, eb, q⟩ := h u nu
            exact ⟨a, b, xs, ys, e1, e2, h1, h2, bb, eb, hQ _ _ q⟩
        rintro σ8 H8 ⟨A, l, rfl, hV⟩
        refine rv_put (p := p) (z := 7) rfl hV.1 (by decide) (fun R q => q) fun H9 A9 l9 hA9 _ _ st9 => ?_
        have hV := hV.deed hA9 st9
        refine rv_take (p := p) rfl hV.1 (by decide) fun H10 A hA10 l10 h0 h4 st10 => ⟨rfl, false, by decide, iteF ?_⟩
        have hV := hV.deed l10 st10
        refine ⟨hV.2.2.2.1, fun f1 c1 Hl stl Tl nf1 hf1 hc1 => fun pins sI I => ?_⟩
        have hVl := hV.lam stl Tl
        have LO := lok_at hf1 (lok_of (CX := L2N.CX P w) (P := P) (w := w) (K := K) (mg := mg) (base := base) (N := ["_law_line"]) (ps := []) (fr := ["_law_line"]) (k := 4) (sp := spTakeEF CV CM) (NdefX.nscope_by (sc := scFree "_law_line") (by decide +kernel)) (fun pm ctv us hl => match us, hl with | [], _ => rfl)
            (fun ws vs H Q E h => by obtain ⟨_, _, rfl, _⟩ := h; rfl) (fun A outer s H vs ws Q E hr hw h => ⟨_, pe_methS0 (pv 0) TV.cl mET GET hr bET (fun σ => L2N.passAt (L2N.takes_of rfl rfl rfl rfl) σ), by
              obtain ⟨p, rfl, rfl, h⟩ := h
              have h' := h
              obtain ⟨p', A, ts, l, ep, hA, _⟩ := h'
              obtain rfl : p = p' := by injection ep with e1; injection e1
              obtain ⟨dx, fs, e1, e2⟩ := hA.obj (m := "take")
              exact ⟨_, rfl, p, dx, fs, rfl, e1, e2, h⟩⟩))
        have LA := lamAt_made (js := [1]) (sc := defScope sEvenP) (nsc := scFree "_law_line") I hf1 hc1 LO rfl rfl rfl (by decide +kernel) rfl
        refine ⟨f1, c1, _, fun H' => EvenAt CV H' p A [] 0 ∧ Step Hl A H' A, rfl, LA, fun Q' E' hE' => ⟨p, rfl, rfl, p, A, [], _, rfl, hVl.1, by decide, .inl ⟨rfl, fun H' hE st => hE' H' ⟨hE, st⟩⟩⟩, fun Hm hR => ⟨true, rfl, iteF ?_⟩⟩
        have hV := hVl.deed hR.1 hR.2
        refine ⟨_, _, _, _, _, rfl, hV.2.2.2.1, fun t ht => absurd ht (by simp), fun y o e hne => ⟨(hV.2.2.2.2.2 y o e hne).1, by simp⟩⟩
      · rintro σ Hc ⟨v0, v1, v2, v3, v4, rfl, hS⟩
        exact k _ ((LamX.ExtN.of sg).trans hS.ext)
    obtain ⟨t, h1, h2⟩ := key
    exact ⟨t, h1.nox, h2⟩
end
end Hf
/-! ## k08: _law_promises_right -/
namespace Hf
open PySem PySem.Spec PyProof.Rows L2
abbrev sProm : Stmt := top 19
/-- what is known on paper of m put behind and one taken in front -/
def GoodP (m a b : Nat) (st pu : Int) : Prop := 1 ≤ m ∧ m ≤ 5 ∧ takeZ true [] (iv 0 m) = 0 ∧ (takeX true [] (iv 0 m)).length = a ∧ (takeY true [] (iv 0 m)).length = b ∧ (m : Int) + takeN true [] (iv 0 m) = st ∧
  3 * (if (a : Int) - (b : Int) < 0 then -((a : Int) - (b : Int)) else (a : Int) - (b : Int)) = pu ∧ (takeX true [] (iv 0 m)).reverse ++ takeY true [] (iv 0 m) = iv 1 (m - 1) ∧
  takeZ false (iv 0 m) [] = 0 ∧ (takeX false (iv 0 m) []).length = b ∧ (takeY false (iv 0 m) []).length = a ∧ (m : Int) + takeN false (iv 0 m) [] = st ∧ (takeX false (iv 0 m) []).reverse ++ takeY false (iv 0 m) [] = (iv 1 (m - 1)).reverse
section
variable {q : Str} {PT : Addr} {Ts : List (Addr × Str)} {H Hx : Hp} {B B' : List Addr}
theorem SL.sub (h : SL q PT Ts H Hx B) (s : ∀ b ∈ B', b ∈ B) : SL q PT Ts H Hx B' := ⟨h.1, h.2.1, fun y o g hne => ⟨(h.2.2 y o g hne).1, fun z => (h.2.2 y o g hne).2 (s y z)⟩⟩
theorem SL.fresh {D : Addr} {o : HO} (h : SL q PT Ts H Hx B) (n : Hx D = none) : SL q PT Ts H (upd Hx D o) (D :: B) :=
  ⟨(h.same (Same.new n)).1, (h.same (Same.new n)).2.1, fun y u g hne => ⟨((h.same (Same.new n)).2.2 y u g hne).1, fun z => (List.mem_cons.mp z).elim (fun e => by
    have z2 := (h.2.2 y u g hne).1
    rw [e, n] at z2
    cases z2) (h.2.2 y u g hne).2⟩⟩
end
section
variable {P : Program} {w : World} {K : PySem.W.Frag} {mg : Str → Option Value} {base : Heap} {C CL CT CE CM aE PT PT2 PT3 cc : Addr}
theorem scProm : FnScope ["_law_cases", "_law_many", "_law_steps", "_law_halves", "_law_purse", "_law_line", "_law_thing"] [] (defScope sProm) := ⟨rfl, rfl, rfl, by decide +kernel, rfl, by decide +kernel, by decide +kernel⟩
theorem ok_prom {f : Addr} {oc kV doc pm ct : Value} {an od : Option Addr} {osl : Array (Option Value)} (lk : K.lookup f = some ⟨oc, od, .func (PySem.W.fnOf "_law_promises_right" "_law_promises_right" (defArgs sProm) (defBody sProm) (defScope sProm) .none kV doc pm an (.ref cc) ct), osl⟩)
    (hcd : PySem.W.codeIn K (.ref cc) "_law_promises_right" = true) (TB : LamX.TabB base mg cc PT) (T : HTxt K mg C CT CE CM aE) (L : PTxt K mg CL CT CE CM) (n32 : PT3 ≠ PT2)
    (GI : InitOk P w K mg base C (spInitH C))
    (GP : MethOk P w K mg base (L2N.CX P w) 2 C "put" ["self", "end", "thing"] (spPutH K C CT CE))
    (GT : MethOk P w K mg base (L2N.CX P w) 2 C "take" ["self", "end"] (spTakeH K C CE CM))
    (GS : MethOk P w K mg base CX0 1 C "things" ["self"] (spThingsH C))
    (GN : MethOk P w K mg base CX0 1 C "steps_so_far" ["self"] (spStepsH C))
    (GH : MethOk P w K mg base CX0 1 C "halves" ["self"] (spHalvesH C))
    (GU : MethOk P w K mg base CX0 1 C "purse" ["self"] (spPurseH C))
    {fE : Addr} {fdE : FuncData}
    (FE : FnS P w K mg base CX0 6 fE fdE ["_law_ask"] (spIsE P w K mg base CM 5)) (gE : mg "_law_is_empty" = some (.ref fE)) (kE : PySem.W.keepIn K (.ref fE) = true) (bE : Binds K fdE ["_law_ask"] [])
    (GV : DefOk P w K mg base CX0 8 "_law_turned_promises" [] (spTabs PT2 (qOf "_law_turned_promises") [(PT3, qOf "_law_even_promises")])) :
    FnOk P w K mg base CX0 9 f (PySem.W.fnOf "_law_promises_right" "_law_promises_right" (defArgs sProm) (defBody sProm) (defScope sProm) .none kV doc pm an (.ref cc) ct) [] (spTabs PT (qOf "_law_promises_right") [(PT2, qOf "_law_turned_promises"), (PT3, qOf "_law_even_promises")]) := by
  obtain ⟨fI, fdI, MI, bI, GI⟩ := GI
  obtain ⟨fP, fdP, mP, bP, GP⟩ := GP
  obtain ⟨fT, fdT, mT, bT, GT⟩ := GT
  obtain ⟨fS, fdS, mS, bS, GS⟩ := GS
  obtain ⟨fN, fdN, mN, bN, GN⟩ := GN
  obtain ⟨fH, fdH, mH, bH, GH⟩ := GH
  obtain ⟨fU, fdU, mU, bU, GU⟩ := GU
  obtain ⟨fV, fdV, gV, kV2, bV, GV⟩ := GV
  refine fn_of lk hcd scProm (fun vs H Q E h => ?_) fun Ar outer s H vs Q E hr h => ?_
  · obtain ⟨rfl, _⟩ := h
    rfl
  · obtain ⟨rfl, hT, hTs, k⟩ := h
    have hr1 : Room 1 _ := hr.mono (by decide)
    have hr2 : Room 2 _ := hr.mono (by decide)
    have hr6 : Room 6 _ := hr.mono (by decide)
    have key : ∃ t, PSs (cxOf CX0 P w K mg base ["_law_cases", "_law_many", "_law_steps", "_law_halves", "_law_purse", "_law_line", "_law_thing"] "_law_promises_right" (defScope sProm) f (.ref cc) Ar outer s H E).nox (defBody sProm) t ∧ t { nx := fun _ H' => Q .non H', rt := Q } (L2.start ["_law_cases", "_law_many", "_law_steps", "_law_halves", "_law_purse", "_law_line", "_law_thing"] []) H := by
      refine ⟨_, pss_cons (ps_set (i := 0) scProm.nd rfl (Or.inl rfl) (pe_lst (pa_cons (pe_tup (pa_cons pe_int (pa_cons pe_int (pa_cons (pe_tup (pa_cons pe_int (pa_cons pe_int pa_nil))) (pa_cons pe_int pa_nil))))) (pa_cons (pe_tup (pa_cons pe_int (pa_cons pe_int (pa_cons (pe_tup (pa_cons pe_int (pa_cons pe_int pa_nil))) (pa_cons pe_int pa_nil))))) (pa_cons (pe_tup (pa_cons pe_int (pa_cons pe_int (pa_cons (pe_tup (pa_cons pe_int (pa_cons pe_int pa_nil))) (pa_cons pe_int pa_nil))))) (pa_cons (pe_tup (pa_cons pe_int (pa_cons pe_int (pa_cons (pe_tup (pa_cons pe_int (pa_cons pe_int pa_nil))) (pa_cons pe_int pa_nil))))) pa_nil))))))
        (pss_cons (ps_set (i := 0) scProm.nd rfl (Or.inl rfl) (pe_op op_cat (pv 0) (pe_lst (pa_cons (pe_tup (pa_cons pe_int (pa_cons pe_int (pa_cons (pe_tup (pa_cons pe_int (pa_cons pe_int pa_nil))) (pa_cons pe_int pa_nil))))) pa_nil))))
        (pss_cons (ps_for PassesOwn.never rfl (pi_list (pv 0)) (pg_tup rfl (pgs_cons (pg_name (i := 1) scProm.nd rfl (Or.inl rfl)) (pgs_cons (pg_name (i := 2) scProm.nd rfl (Or.inl rfl)) (pgs_cons (pg_name (i := 3) scProm.nd rfl (Or.inl rfl)) (pgs_cons (pg_name (i := 4) scProm.nd rfl (Or.inl rfl)) pgs_nil)))))
          (pss_cons (ps_set (i := 5) scProm.nd rfl (Or.inr rfl) (pe_make0 MI GI hr2 rfl T.gC bI .nil pass0))
            (C8.pss_cut (ps_for PassesOwn.never rfl (pi_range1 (by rfl) L.range (pa_cons (pv 1) pa_nil)) (pg_name (i := 6) scProm.nd rfl (Or.inl rfl)) (pss_one (ps_expr (pe_meth (pv 5) T.cl mP GP hr2 bP .nil passN (pa_cons pe_str (pa_cons (pv 6) pa_nil))))))
            (pss_cons (ps_if (PW.pt (pw_or (pt_cmpR op_ne (pe_meth0 (pv 5) T.cl mN GN hr1 bN .nil pass0) (pv 1) (nomark _)) (pw_or (pt_cmpR op_ne (pe_meth0 (pv 5) T.cl mU GU hr1 bU .nil pass0) (pe_op op_mul pe_int (pv 1)) (nomark _)) (pw_or1 (pt_cmpR (op_neT hr.units) (pe_meth0 (pv 5) T.cl mH GH hr1 bH .nil pass0) (pe_tup (pa_cons pe_int (pa_cons (pv 1) pa_nil))) (nomark _)))))) (pss_one (ps_ret pe_bl)) pss_nil)
            (pss_cons (ps_if (pt_cmpR op_ne (pe_meth (pv 5) T.cl mT GT hr2 bT .nil passN (pa_cons pe_str pa_nil)) pe_int (nomark _)) (pss_one (ps_ret pe_bl)) pss_nil)
            (pss_cons (ps_if (pt_cmpR (show OpR _ _ (rNeD K) from op_neD hr.units) (pe_tup (pa_cons (pe_meth0 (pv 5) T.cl mN GN hr1 bN .nil pass0) (pa_cons (pe_meth0 (pv 5) T.cl mH GH hr1 bH .nil pass0) (pa_cons (pe_meth0 (pv 5) T.cl mU GU hr1 bU .nil pass0) pa_nil)))) (pe_tup (pa_cons (pv 2) (pa_cons (pv 3) (pa_cons (pv 4) pa_nil)))) (nomark _)) (pss_one (ps_ret pe_bl)) pss_nil)
            (pss_cons (ps_if (pt_cmpR (op_neI hr.units) (pe_meth0 (pv 5) T.cl mS GS hr1 bS .nil pass0) (pe_listRg rfl (by rfl) L.list (prg_2 (by rfl) L.range pe_int (pv 1))) (nomark _)) (pss_one (ps_ret pe_bl)) pss_nil)
            (C8.pss_cut (ps_if (pt_cmpR (op_neI hr.units) (pe_lc (own := [("_law_thing", 6)]) (g := gName 6) (te := tMeth C "take" (spTakeH K C CE CM) [] E0 (tVar 5) (tCons (tC (.str "front")) tNil)) (tt := tYes) rfl scProm.nd (pi_range2 (by rfl) L.range (pa_cons pe_int (pa_cons (pv 1) pa_nil))) (blkOk_by (N := ["_law_cases", "_law_many", "_law_steps", "_law_halves", "_law_purse", "_law_line", "_law_thing"]) (sc := defScope sProm) (by decide +kernel)) (fun _ _ _ _ _ => pg_name (i := 6) scProm.nd rfl (Or.inl rfl)) (fun _ _ _ _ _ => pts_nil) (fun _ _ _ _ _ => (pe_meth (pv 5) T.cl mT GT hr2 bT .nil passN (pa_cons pe_str pa_nil)))) (pe_listRg rfl (by rfl) L.list (prg_2 (by rfl) L.range pe_int (pv 1))) (nomark _)) (pss_one (ps_ret pe_bl)) pss_nil)
            (C8.pss_cut (ps_if (pt_not (pt_val (pe_callQ FE hr6 rfl gE kE bE pass0 (pa_cons (pe_lamV TB rfl rfl (NdefX.ndef_free (sc := defScope sProm) (fr := ["_law_line"]) (by decide +kernel))) pa_nil)))) (pss_one (ps_ret pe_bl)) pss_nil)
            (pss_cons (ps_set (i := 5) scProm.nd rfl (Or.inr rfl) (pe_make0 MI GI hr2 rfl T.gC bI .nil pass0))
            (C8.pss_cut (ps_for PassesOwn.never rfl (pi_range1 (by rfl) L.range (pa_cons (pv 1) pa_nil)) (pg_name (i := 6) scProm.nd rfl (Or.inl rfl)) (pss_one (ps_expr (pe_meth (pv 5) T.cl mP GP hr2 bP .nil passN (pa_cons pe_str (pa_cons (pv 6) pa_nil))))))
            (pss_cons (ps_if (PW.pt (pw_or (pt_cmpR op_ne (pe_meth (pv 5) T.cl mT GT hr2 bT .nil passN (pa_cons pe_str pa_nil)) pe_int (nomark _)) (pw_or (pt_cmpR op_ne (pe_meth0 (pv 5) T.cl mN GN hr1 bN .nil pass0) (pv 2) (nomark _)) (pw_or1 (pt_cmpR (op_neT hr.units) (pe_meth0 (pv 5) T.cl mH GH hr1 bH .nil pass0) (pe_rev2 (pv 3)) (nomark _)))))) (pss_one (ps_ret pe_bl)) pss_nil)
            (pss_one (ps_if (pt_cmpR (op_neI hr.units) (pe_meth0 (pv 5) T.cl mS GS hr1 bS .nil pass0) (pe_revL (pe_listRg rfl (by rfl) L.list (prg_2 (by rfl) L.range pe_int (pv 1)))) (nomark _)) (pss_one (ps_ret pe_bl)) pss_nil))))))))))))))
        (pss_one (ps_ret (pe_call0 GV hr rfl gV kV2 bV .nil pass0))))), ?_⟩
      have t0 := Same.refl H
      refine ⟨(by show 2 ≤ sizeLine; decide), fun h0 nh0 => ?_⟩
      have fh0 : upd H h0 (.tup [.int 0, .int 0]) h0 = some (.tup [.int 0, .int 0]) := upd_same
      have sh0 : Same H (upd H h0 (.tup [.int 0, .int 0])) := Same.new nh0
      have t0 := t0.trans sh0
      generalize upd H h0 (.tup [.int 0, .int 0]) = Xh0 at t0 fh0 ⊢
      clear sh0 nh0
      refine ⟨(by show 4 ≤ sizeLine; decide), fun r0 nr0 => ?_⟩
      have fr0 : upd Xh0 r0 (.tup [.int 1, .int 3, .ref h0, .int 0]) r0 = some (.tup [.int 1, .int 3, .ref h0, .int 0]) := upd_same
      have sr0 : Same Xh0 (upd Xh0 r0 (.tup [.int 1, .int 3, .ref h0, .int 0])) := Same.new nr0
      have fh0 := sr0 _ _ fh0
      have t0 := t0.trans sr0
      generalize upd Xh0 r0 (.tup [.int 1, .int 3, .ref h0, .int 0]) = Xr0 at t0 fh0 fr0 ⊢
      clear sr0 nr0
      refine ⟨(by show 2 ≤ sizeLine; decide), fun h1 nh1 => ?_⟩
      have fh1 : upd Xr0 h1 (.tup [.int 0, .int 1]) h1 = some (.tup [.int 0, .int 1]) := upd_same
      have sh1 : Same Xr0 (upd Xr0 h1 (.tup [.int 0, .int 1])) := Same.new nh1
      have fh0 := sh1 _ _ fh0
      have fr0 := sh1 _ _ fr0
      have t0 := t0.trans sh1
      generalize upd Xr0 h1 (.tup [.int 0, .int 1]) = Xh1 at t0 fh0 fr0 fh1 ⊢
      clear sh1 nh1
      refine ⟨(by show 4 ≤ sizeLine; decide), fun r1 nr1 => ?_⟩
      have fr1 : upd Xh1 r1 (.tup [.int 2, .int 6, .ref h1, .int 3]) r1 = some (.tup [.int 2, .int 6, .ref h1, .int 3]) := upd_same
      have sr1 : Same Xh1 (upd Xh1 r1 (.tup [.int 2, .int 6, .ref h1, .int 3])) := Same.new nr1
      have fh0 := sr1 _ _ fh0
      have fr0 := sr1 _ _ fr0
      have fh1 := sr1 _ _ fh1
      have t0 := t0.trans sr1
      generalize upd Xh1 r1 (.tup [.int 2, .int 6, .ref h1, .int 3]) = Xr1 at t0 fh0 fr0 fh1 fr1 ⊢
      clear sr1 nr1
      refine ⟨(by show 2 ≤ sizeLine; decide), fun h2 nh2 => ?_⟩
      have fh2 : upd Xr1 h2 (.tup [.int 1, .int 1]) h2 = some (.tup [.int 1, .int 1]) := upd_same
      have sh2 : Same Xr1 (upd Xr1 h2 (.tup [.int 1, .int 1])) := Same.new nh2
      have fh0 := sh2 _ _ fh0
      have fr0 := sh2 _ _ fr0
      have fh1 := sh2 _ _ fh1
      have fr1 := sh2 _ _ fr1
      have t0 := t0.trans sh2
      generalize upd Xr1 h2 (.tup [.int 1, .int 1]) = Xh2 at t0 fh0 fr0 fh1 fr1 fh2 ⊢
      clear sh2 nh2
      refine ⟨(by show 4 ≤ sizeLine; decide), fun r2 nr2 => ?_⟩
      have fr2 : upd Xh2 r2 (.tup [.int 3, .int 8, .ref h2, .int 0]) r2 = some (.tup [.int 3, .int 8, .ref h2, .int 0]) := upd_same
      have sr2 : Same Xh2 (upd Xh2 r2 (.tup [.int 3, .int 8, .ref h2, .int 0])) := Same.new nr2
      have fh0 := sr2 _ _ fh0
      have fr0 := sr2 _ _ fr0
      have fh1 := sr2 _ _ fh1
      have fr1 := sr2 _ _ fr1
      have fh2 := sr2 _ _ fh2
      have t0 := t0.trans sr2
      generalize upd Xh2 r2 (.tup [.int 3, .int 8, .ref h2, .int 0]) = Xr2 at t0 fh0 fr0 fh1 fr1 fh2 fr2 ⊢
      clear sr2 nr2
      refine ⟨(by show 2 ≤ sizeLine; decide), fun h3 nh3 => ?_⟩
      have fh3 : upd Xr2 h3 (.tup [.int 1, .int 2]) h3 = some (.tup [.int 1, .int 2]) := upd_same
      have sh3 : Same Xr2 (upd Xr2 h3 (.tup [.int 1, .int 2])) := Same.new nh3
      have fh0 := sh3 _ _ fh0
      have fr0 := sh3 _ _ fr0
      have fh1 := sh3 _ _ fh1
      have fr1 := sh3 _ _ fr1
      have fh2 := sh3 _ _ fh2
      have fr2 := sh3 _ _ fr2
      have t0 := t0.trans sh3
      generalize upd Xr2 h3 (.tup [.int 1, .int 2]) = Xh3 at t0 fh0 fr0 fh1 fr1 fh2 fr2 fh3 ⊢
      clear sh3 nh3
      refine ⟨(by show 4 ≤ sizeLine; decide), fun r3 nr3 => ?_⟩
      have fr3 : upd Xh3 r3 (.tup [.int 4, .int 11, .ref h3, .int 3]) r3 = some (.tup [.int 4, .int 11, .ref h3, .int 3]) := upd_same
      have sr3 : Same Xh3 (upd Xh3 r3 (.tup [.int 4, .int 11, .ref h3, .int 3])) := Same.new nr3
      have fh0 := sr3 _ _ fh0
      have fr0 := sr3 _ _ fr0
      have fh1 := sr3 _ _ fh1
      have fr1 := sr3 _ _ fr1
      have fh2 := sr3 _ _ fh2
      have fr2 := sr3 _ _ fr2
      have fh3 := sr3 _ _ fh3
      have t0 := t0.trans sr3
      generalize upd Xh3 r3 (.tup [.int 4, .int 11, .ref h3, .int 3]) = Xr3 at t0 fh0 fr0 fh1 fr1 fh2 fr2 fh3 fr3 ⊢
      clear sr3 nr3
      refine ⟨(by show 4 ≤ sizeLine; decide), fun l1 nl1 => ?_⟩
      have fl1 : upd Xr3 l1 (.lst [.ref r0, .ref r1, .ref r2, .ref r3]) l1 = some (.lst [.ref r0, .ref r1, .ref r2, .ref r3]) := upd_same
      have sl1 : Same Xr3 (upd Xr3 l1 (.lst [.ref r0, .ref r1, .ref r2, .ref r3])) := Same.new nl1
      have fh0 := sl1 _ _ fh0
      have fr0 := sl1 _ _ fr0
      have fh1 := sl1 _ _ fh1
      have fr1 := sl1 _ _ fr1
      have fh2 := sl1 _ _ fh2
      have fr2 := sl1 _ _ fr2
      have fh3 := sl1 _ _ fh3
      have fr3 := sl1 _ _ fr3
      have t0 := t0.trans sl1
      generalize upd Xr3 l1 (.lst [.ref r0, .ref r1, .ref r2, .ref r3]) = Xl1 at t0 fh0 fr0 fh1 fr1 fh2 fr2 fh3 fr3 fl1 ⊢
      clear sl1 nl1
      refine ⟨_, rfl, (by show 2 ≤ sizeLine; decide), fun h4 nh4 => ?_⟩
      have fh4 : upd Xl1 h4 (.tup [.int 2, .int 2]) h4 = some (.tup [.int 2, .int 2]) := upd_same
      have sh4 : Same Xl1 (upd Xl1 h4 (.tup [.int 2, .int 2])) := Same.new nh4
      have fh0 := sh4 _ _ fh0
      have fr0 := sh4 _ _ fr0
      have fh1 := sh4 _ _ fh1
      have fr1 := sh4 _ _ fr1
      have fh2 := sh4 _ _ fh2
      have fr2 := sh4 _ _ fr2
      have fh3 := sh4 _ _ fh3
      have fr3 := sh4 _ _ fr3
      have fl1 := sh4 _ _ fl1
      have t0 := t0.trans sh4
      generalize upd Xl1 h4 (.tup [.int 2, .int 2]) = Xh4 at t0 fh0 fr0 fh1 fr1 fh2 fr2 fh3 fr3 fl1 fh4 ⊢
      clear sh4 nh4
      refine ⟨(by show 4 ≤ sizeLine; decide), fun r4 nr4 => ?_⟩
      have fr4 : upd Xh4 r4 (.tup [.int 5, .int 13, .ref h4, .int 0]) r4 = some (.tup [.int 5, .int 13, .ref h4, .int 0]) := upd_same
      have sr4 : Same Xh4 (upd Xh4 r4 (.tup [.int 5, .int 13, .ref h4, .int 0])) := Same.new nr4
      have fh0 := sr4 _ _ fh0
      have fr0 := sr4 _ _ fr0
      have fh1 := sr4 _ _ fh1
      have fr1 := sr4 _ _ fr1
      have fh2 := sr4 _ _ fh2
      have fr2 := sr4 _ _ fr2
      have fh3 := sr4 _ _ fh3
      have fr3 := sr4 _ _ fr3
      have fl1 := sr4 _ _ fl1
      have fh4 := sr4 _ _ fh4
      have t0 := t0.trans sr4
      generalize upd Xh4 r4 (.tup [.int 5, .int 13, .ref h4, .int 0]) = Xr4 at t0 fh0 fr0 fh1 fr1 fh2 fr2 fh3 fr3 fl1 fh4 fr4 ⊢
      clear sr4 nr4
      refine ⟨(by show 1 ≤ sizeLine; decide), fun l2 nl2 => ?_⟩
      have fl2 : upd Xr4 l2 (.lst [.ref r4]) l2 = some (.lst [.ref r4]) := upd_same
      have sl2 : Same Xr4 (upd Xr4 l2 (.lst [.ref r4])) := Same.new nl2
      have fh0 := sl2 _ _ fh0
      have fr0 := sl2 _ _ fr0
      have fh1 := sl2 _ _ fh1
      have fr1 := sl2 _ _ fr1
      have fh2 := sl2 _ _ fh2
      have fr2 := sl2 _ _ fr2
      have fh3 := sl2 _ _ fh3
      have fr3 := sl2 _ _ fr3
      have fl1 := sl2 _ _ fl1
      have fh4 := sl2 _ _ fh4
      have fr4 := sl2 _ _ fr4
      have t0 := t0.trans sl2
      generalize upd Xr4 l2 (.lst [.ref r4]) = Xl2 at t0 fh0 fr0 fh1 fr1 fh2 fr2 fh3 fr3 fl1 fh4 fr4 fl2 ⊢
      clear sl2 nl2
      refine ⟨l1, l2, _, _, rfl, rfl, fl1, fl2, (by show 5 ≤ sizeLine; decide), fun g ng => ?_⟩
      have fg : upd Xl2 g (.lst ([.ref r0, .ref r1, .ref r2, .ref r3] ++ [.ref r4])) g = some (.lst ([.ref r0, .ref r1, .ref r2, .ref r3] ++ [.ref r4])) := upd_same
      have sg : Same Xl2 (upd Xl2 g (.lst ([.ref r0, .ref r1, .ref r2, .ref r3] ++ [.ref r4]))) := Same.new ng
      have fh0 := sg _ _ fh0
      have fr0 := sg _ _ fr0
      have fh1 := sg _ _ fh1
      have fr1 := sg _ _ fr1
      have fh2 := sg _ _ fh2
      have fr2 := sg _ _ fr2
      have fh3 := sg _ _ fh3
      have fr3 := sg _ _ fr3
      have fl1 := sg _ _ fl1
      have fh4 := sg _ _ fh4
      have fr4 := sg _ _ fr4
      have fl2 := sg _ _ fl2
      have t0 := t0.trans sg
      generalize upd Xl2 g (.lst ([.ref r0, .ref r1, .ref r2, .ref r3] ++ [.ref r4])) = Xg at t0 fh0 fr0 fh1 fr1 fh2 fr2 fh3 fr3 fl1 fh4 fr4 fl2 fg ⊢
      clear sg ng
      have row : ∀ (i : Nat) (x : V), ([.ref r0, .ref r1, .ref r2, .ref r3, .ref r4] : List V)[i]? = some x → ∃ (r h : Addr) (m a b : Nat) (st pu : Int), x = .ref r ∧ Xg r = some (.tup [.int (m : Nat), .int st, .ref h, .int pu]) ∧ Xg h = some (.tup [.int (a : Nat), .int (b : Nat)]) ∧ GoodP m a b st pu := by
        intro i x hi
        match i, hi with
        | 0, hi => exact ⟨r0, h0, 1, 0, 0, 3, 0, (Option.some.inj hi).symm, fr0, fh0, by unfold GoodP; decide⟩
        | 1, hi => exact ⟨r1, h1, 2, 0, 1, 6, 3, (Option.some.inj hi).symm, fr1, fh1, by unfold GoodP; decide⟩
        | 2, hi => exact ⟨r2, h2, 3, 1, 1, 8, 0, (Option.some.inj hi).symm, fr2, fh2, by unfold GoodP; decide⟩
        | 3, hi => exact ⟨r3, h3, 4, 1, 2, 11, 3, (Option.some.inj hi).symm, fr3, fh3, by unfold GoodP; decide⟩
        | 4, hi => exact ⟨r4, h4, 5, 2, 2, 13, 0, (Option.some.inj hi).symm, fr4, fh4, by unfold GoodP; decide⟩
        | i + 5, hi => simp at hi
      have hSg : SL (qOf "_law_promises_right") PT [(PT2, qOf "_law_turned_promises"), (PT3, qOf "_law_even_promises")] Xg Xg [] := ⟨TabS.same hT t0, fun t ht => ⟨(hTs t ht).1, TabS.same (hTs t ht).2 t0⟩, fun y o e _ => ⟨e, by simp⟩⟩
      refine ⟨_, rfl, g, rfl, ⟨_, SqL.of fg⟩, for_list (K := K) (a := g) (xs := [.ref r0, .ref r1, .ref r2, .ref r3, .ref r4]) (fun i σ Hc => ∃ (v1 v2 v3 v4 v5 v6 : Option V), σ = [some (.ref g), v1, v2, v3, v4, v5, v6] ∧ SL (qOf "_law_promises_right") PT [(PT2, qOf "_law_turned_promises"), (PT3, qOf "_law_even_promises")] Xg Hc [])
        ⟨none, none, none, none, none, none, rfl, hSg⟩ (fun i σ Hc _ ⟨_, _, _, _, _, _, _, hS⟩ => SqL.of (hS.2.2 _ _ fg (fun ps z => by cases z)).1) ?_ ?_⟩
      · rintro i x σ Hc hi ⟨v1, v2, v3, v4, v5, v6, rfl, hS⟩
        obtain ⟨r, h, m, a, b, st, pu, rfl, hr0, hh0, g1, g2, gz, gx, gy, gn, gp, gt, mz, mx, my, mn, mt⟩ := row i x hi
        have hrc := (hS.2.2 _ _ hr0 (fun ps z => by cases z)).1
        refine ⟨r, _, rfl, SqT.of hrc, rfl, _, _, rfl, _, _, rfl, _, _, rfl, _, _, rfl, rfl, ?_⟩
        have hlen : (iv 0 m).length = m := iv_len 0 m
        intro p dx np ndx ne
        refine ⟨p, dx, rfl, upd_same, fun H1 B1 hB1 kp => ⟨rfl, ?_⟩⟩
        have hS := hS.new (made_step np ndx kp)
        refine ⟨fun σ' H' => ∃ (B : List Addr) (v6 : Option V), σ' = [some (.ref g), some (.int (m : Nat)), some (.int st), some (.ref h), some (.int pu), some (.ref p), v6] ∧ HalfAt C H' p B [] (iv 0 m) (m : Int) ∧ SL (qOf "_law_promises_right") PT [(PT2, qOf "_law_turned_promises"), (PT3, qOf "_law_even_promises")] Xg H' B, ?_, ?_⟩
        · refine ⟨_, rfl, _, rfl, by omega, by omega, for_range (lo := 0) (n := ((m : Nat) : Int).toNat) (fun j σ Hd => ∃ (B : List Addr) (v6 : Option V), σ = [some (.ref g), some (.int (m : Nat)), some (.int st), some (.ref h), some (.int pu), some (.ref p), v6] ∧ HalfAt C Hd p B [] (iv 0 j) (j : Int) ∧ SL (qOf "_law_promises_right") PT [(PT2, qOf "_law_turned_promises"), (PT3, qOf "_law_even_promises")] Xg Hd B)
            ⟨B1, v6, rfl, hB1, hS⟩ ?_ ?_⟩
          · rintro j σ Hd hj ⟨B, w6, rfl, hB, hS⟩
            have hj : j < m := by simpa using hj
            refine rd_put (p := p) (fr := false) (z := 0 + (j : Nat)) rfl hB (by simp [iv_len]; omega) (fun R q => ⟨_, rfl, q⟩) fun H8 B8 hB8 st8 => ?_
            refine ⟨B8, _, rfl, ?_, hS.deed st8 hB.kinds⟩
            rw [iv_snoc, show ((0 + j : Nat) : Int) = 0 + (j : Nat) by omega]
            exact hB8
          · rintro σ Hd ⟨B, w6, rfl, hB, hS⟩
            rw [show ((m : Nat) : Int).toNat = m by simp] at hB
            exact ⟨B, w6, rfl, hB, hS⟩
        rintro σ2 H2 ⟨B, w6, rfl, hB, hS⟩
        refine rd_steps (p := p) rfl hB ⟨_, rfl, rfl, false, by simp, iteF ?_⟩
        refine rd_purse (p := p) rfl hB ⟨_, rfl, _, _, rfl, rfl, .inl ⟨by decide, by decide⟩, rfl, false, ?_, iteF ?_⟩
        · rw [hlen]
          refine congrArg (fun q => V.bl (!q)) (decide_eq_true (congrArg V.int ?_))
          show (3 : Int) * (if ((([] : List Int).length : Nat) : Int) - (m : Int) < 0 then -(((([] : List Int).length : Nat) : Int) - (m : Int)) else ((([] : List Int).length : Nat) : Int) - (m : Int)) = 3 * (m : Int)
          simp only [List.length_nil]
          split <;> omega
        refine rd_halves (p := p) rfl hB fun H3 t3 s3 nt3 ht3 => ?_
        refine ⟨_, rfl, (by show 2 ≤ sizeLine; decide), fun u4 nu4 => ?_⟩
        have s4 := s3.trans (Same.new (o := .tup [.int 0, .int (m : Nat)]) nu4)
        refine ⟨t3, u4, [0, (m : Nat)], [0, (m : Nat)], rfl, rfl, SqT.of (by rw [hlen] at ht3; exact Same.new nu4 _ _ ht3), SqT.of upd_same, false, by simp, iteF ?_⟩
        have hB := hB.same s4
        have hS := hS.same s4
        generalize upd H3 u4 (.tup [.int 0, .int (m : Nat)]) = H4 at hB hS ⊢
        have hne0 : iv 0 m ≠ [] := fun z => by
          have := congrArg List.length z
          rw [hlen] at this
          simp at this
          omega
        refine rd_take (p := p) (fr := true) rfl hB (by simp [hlen]; omega) (.inr hne0) (fun R q => q) fun H5 B5 hB5 st5 => ?_
        refine ⟨rfl, false, by rw [gz]; rfl, iteF ?_⟩
        have hS := hS.deed st5 hB.kinds
        rw [gn] at hB5
        generalize takeX true [] (iv 0 m) = X at hB5 gx gt
        generalize takeY true [] (iv 0 m) = Y at hB5 gy gt
        subst gx gy
        refine rd_steps (p := p) rfl hB5 ?_
        refine rd_halves (p := p) rfl hB5 fun H6 t6 s6 nt6 ht6 => ?_
        refine rd_purse (p := p) rfl (hB5.same s6) ?_
        rw [gp]
        refine ⟨(by show 3 ≤ sizeLine; decide), fun u7 nu7 => ⟨_, rfl, _, rfl, _, rfl, (by show 3 ≤ sizeLine; decide), fun u8 nu8 => ?_⟩⟩
        have s7 := Same.new (o := .tup [.int st, .ref t6, .int pu]) nu7
        have s8 := Same.new (o := .tup [.int st, .ref h, .int pu]) nu8
        have hh6 := s8 _ _ (s7 _ _ (s6 _ _ (hS.2.2 _ _ hh0 (fun ps z => by cases z)).1))
        have ht8 := s8 _ _ (s7 _ _ ht6)
        refine ⟨.tuple [.int st, .tuple ([(X.length : Int), (Y.length : Int)].map PyData.int), .int pu], .tuple [.int st, .tuple ([(X.length : Int), (Y.length : Int)].map PyData.int), .int pu], .tup (SqT.of (s8 _ _ upd_same)) (.cons (.int _) (.cons (.tup (SqT.of ht8) (dp_ints [(X.length : Int), (Y.length : Int)])) (.cons (.int _) .nil))), .tup (SqT.of upd_same) (.cons (.int _) (.cons (.tup (SqT.of hh6) (dp_ints [(X.length : Int), (Y.length : Int)])) (.cons (.int _) .nil))), rfl, rfl, false, by simp [PyData.eqv, PyData.eqvAll], iteF ?_⟩
        have hB := hB5.same (s6.trans (s7.trans s8))
        have hS := hS.same (s6.trans (s7.trans s8))
        generalize upd (upd H6 u7 (.tup [.int st, .ref t6, .int pu])) u8 (.tup [.int st, .ref h, .int pu]) = H8 at hB hS ⊢
        have hlX : X.length + Y.length = m - 1 := by
          have e := congrArg List.length gt
          rw [iv_len, List.length_append, List.length_reverse] at e
          exact e
        have eR : rgV (1 : Int) ((m : Nat) : Int) = (iv 1 (m - 1)).map V.int := rgV_iv 1 m
        refine rd_things (p := p) rfl hB (by omega) fun H9 l9 s9 nl9 hl9 => ?_
        refine ⟨_, rfl, _, _, rfl, rfl, RgOk.of_le (by decide) (by omega) (by decide) (by omega), fun u10 nu10 => ?_⟩
        have s10 := s9.trans (Same.new (o := .lst (rgV (1 : Int) ((m : Nat) : Int))) nu10)
        rw [gt] at hl9
        refine ⟨l9, u10, iv 1 (m - 1), iv 1 (m - 1), rfl, rfl, SqL.of (Same.new nu10 _ _ hl9), SqL.of (by rw [upd_same]; exact congrArg (fun q => some (HO.lst q)) eR), false, by simp, iteF ?_⟩
        have hB := hB.same s10
        have hS := hS.same s10
        generalize upd H9 u10 (.lst (rgV (1 : Int) ((m : Nat) : Int))) = H10 at hB hS ⊢
        -- all are taken
        refine ⟨fun σ' H' => ∃ (B : List Addr) (n : Int), σ' = [some (.ref g), some (.int (m : Nat)), some (.int st), some (.ref h), some (.int pu), some (.ref p), w6] ∧ HalfAt C H' p B [] [] n ∧ SL (qOf "_law_promises_right") PT [(PT2, qOf "_law_turned_promises"), (PT3, qOf "_law_even_promises")] Xg H' B, ?_, ?_⟩
        · refine ⟨_, rfl, 1, ((m : Nat) : Int), rfl, ⟨by decide, by decide, by omega, by omega⟩, fun D nD => lc_range (lo := 1) (n := (((m : Nat) : Int) - 1).toNat) (fun j Hj => ∃ (B : List Addr) (xs ys : List Int) (n : Int), HalfAt C Hj p B xs ys n ∧ xs.reverse ++ ys = iv (1 + j) (m - 1 - j) ∧ D ∉ B ∧ Hj D = some (.lst ((iv 1 j).map V.int)) ∧ SL (qOf "_law_promises_right") PT [(PT2, qOf "_law_turned_promises"), (PT3, qOf "_law_even_promises")] Xg Hj (D :: B))
            ⟨B5, X, Y, _, hB.same (Same.new nD), gt, hB.fresh nD, upd_same, hS.fresh nD⟩ ?_ ?_⟩
          · rintro j Hj hj ⟨B, xs, ys, n, hB, ht, nB, hD, hS⟩
            have hj : j < m - 1 := by omega
            refine ⟨rfl, ?_⟩
            unfold tYes
            dsimp only
            have hne : xs.reverse ++ ys ≠ [] := fun z => by
              rw [z] at ht
              have e := congrArg List.length ht
              rw [iv_len] at e
              simp at e
              omega
            have hl : xs.length + ys.length = m - 1 - j := by
              have e := congrArg List.length ht
              rw [iv_len, List.length_append, List.length_reverse] at e
              exact e
            have e0 := iv_cons (1 + j) (m - 1 - j - 1)
            rw [show m - 1 - j - 1 + 1 = m - 1 - j by omega] at e0
            have etk := (e0.symm.trans ht.symm).trans (take_front (ne_things hne))
            injection etk with ez eth
            refine iteT (rd_take (p := p) (fr := true) rfl hB (by omega) (ne_things hne) (fun R q => q) fun H' B' hB' st' => ?_)
            have hD' := st' _ _ hD nB
            refine ⟨_, hD'.1, ?_, B', _, _, _, hB'.upd hD'.2, ?_, hD'.2, ?_, (hS.deed (st'.cons D) ?_).deed (Step.store D _) ?_⟩
            · rw [List.length_map, iv_len, sizeLine_eq]
              omega
            · rw [← eth]
              rfl
            · rw [upd_same, ← ez, iv_snoc, List.map_append]
              rfl
            · intro b o hb e
              rcases List.mem_cons.mp hb with rfl | hb
              · rw [hD] at e
                exact .inr ⟨_, (Option.some.inj e).symm⟩
              · exact hB.kinds b o hb e
            · intro b o hb e
              rcases List.mem_cons.mp hb with rfl | hb
              · rw [hD'.1] at e
                exact .inr ⟨_, (Option.some.inj e).symm⟩
              · exact hB'.kinds b o hb e
          · rintro Hj ⟨B, xs, ys, n, hB, ht, nB, hD, hS⟩
            rw [show (((m : Nat) : Int) - 1).toNat = m - 1 by omega] at ht hD
            obtain ⟨rfl, rfl⟩ := things_nil.mp (ht.trans (by rw [Nat.sub_self]; rfl))
            refine ⟨_, rfl, _, _, rfl, rfl, RgOk.of_le (by decide) (by omega) (by decide) (by omega), fun u11 nu11 => ?_⟩
            have s11 := Same.new (o := .lst (rgV (1 : Int) ((m : Nat) : Int))) nu11
            refine ⟨D, u11, iv 1 (m - 1), iv 1 (m - 1), rfl, rfl, SqL.of (s11 _ _ hD), SqL.of (by rw [upd_same]; exact congrArg (fun q => some (HO.lst q)) eR), false, by simp, iteF ?_⟩
            exact ⟨B, n, rfl, hB.same s11, (hS.sub fun b hb => List.mem_cons_of_mem _ hb).same s11⟩
        rintro σ11 H11 ⟨B, n, rfl, hB, hS⟩
        refine ⟨fun σ' H' => σ' = [some (.ref g), some (.int (m : Nat)), some (.int st), some (.ref h), some (.int pu), some (.ref p), w6] ∧ SL (qOf "_law_promises_right") PT [(PT2, qOf "_law_turned_promises"), (PT3, qOf "_law_even_promises")] Xg H' [], ?_, ?_⟩
        · refine ⟨hS.1, fun f1 c1 Hl stl Tl nf1 hf1 hc1 => fun pins sI I => ?_⟩
          have hBl := hB.keep fun q o hq g => (stl q o g fun z => tab_notin hB.kinds hS.1 (by rw [← List.mem_singleton.mp z]; exact hq)).1
          have hSl := hS.lam stl Tl
          have LO := lok_at hf1 (lok_of (CX := L2N.CX P w) (P := P) (w := w) (K := K) (mg := mg) (base := base) (N := ["_law_line"]) (ps := []) (fr := ["_law_line"]) (k := 4) (sp := spTakeF K C CE CM false) (NdefX.nscope_by (sc := scFree "_law_line") (by decide +kernel)) (fun pm ctv us hl => match us, hl with | [], _ => rfl)
            (fun ws vs H Q E h => by obtain ⟨_, _, rfl, _⟩ := h; rfl) (fun A outer s H vs ws Q E hr hw h => ⟨_, pe_methS (pv 0) T.cl mT GT (hr.mono (by decide)) bT (fun σ => L2N.passAt (L2N.takes_of rfl rfl rfl rfl) σ) (pa_cons pe_str pa_nil), by
              obtain ⟨p, rfl, rfl, ⟨B, xs, ys, n, hB⟩, h⟩ := h
              obtain ⟨dx, fs, e1, e2⟩ := hB.obj (m := "take")
              exact ⟨_, rfl, p, dx, fs, rfl, e1, e2, h⟩⟩))
          have LA := lamAt_made (js := [5]) (sc := defScope sProm) (nsc := scFree "_law_line") I hf1 hc1 LO rfl rfl rfl (by decide +kernel) rfl
          refine ⟨f1, c1, _, fun H' => Same Hl H', rfl, LA, fun Q' E' hE' => ⟨p, rfl, rfl, ⟨_, _, _, _, hBl⟩, p, _, [], [], _, hBl, by decide, .inl ⟨false, rfl, rfl, rfl, fun H' s' => hE' H' s'⟩⟩, fun Hm hR => ⟨true, rfl, iteF ?_⟩⟩
          have hB := hBl.same hR
          have hS := hSl.same hR
          exact ⟨rfl, hS.sub fun b hb => absurd hb (by simp)⟩
        rintro σ12 H12 ⟨rfl, hS⟩
        -- the other way round
        clear hB hB1 kp hB5
        intro p2 dx2 np2 ndx2 ne2
        refine ⟨p2, dx2, rfl, upd_same, fun H1 B1 hB1 kp => ⟨rfl, ?_⟩⟩
        have hS := hS.new (made_step np2 ndx2 kp)
        refine ⟨fun σ' H' => ∃ (B : List Addr) (v6 : Option V), σ' = [some (.ref g), some (.int (m : Nat)), some (.int st), some (.ref h), some (.int pu), some (.ref p2), v6] ∧ HalfAt C H' p2 B (iv 0 m) [] (m : Int) ∧ SL (qOf "_law_promises_right") PT [(PT2, qOf "_law_turned_promises"), (PT3, qOf "_law_even_promises")] Xg H' B, ?_, ?_⟩
        · refine ⟨_, rfl, _, rfl, by omega, by omega, for_range (lo := 0) (n := ((m : Nat) : Int).toNat) (fun j σ Hd => ∃ (B : List Addr) (v6 : Option V), σ = [some (.ref g), some (.int (m : Nat)), some (.int st), some (.ref h), some (.int pu), some (.ref p2), v6] ∧ HalfAt C Hd p2 B (iv 0 j) [] (j : Int) ∧ SL (qOf "_law_promises_right") PT [(PT2, qOf "_law_turned_promises"), (PT3, qOf "_law_even_promises")] Xg Hd B)
            ⟨B1, w6, rfl, hB1, hS⟩ ?_ ?_⟩
          · rintro j σ Hd hj ⟨B, v6, rfl, hB, hS⟩
            have hj : j < m := by simpa using hj
            refine rd_put (p := p2) (fr := true) (z := 0 + (j : Nat)) rfl hB (by simp [iv_len]; omega) (fun R q => ⟨_, rfl, q⟩) fun H8 B8 hB8 st8 => ?_
            refine ⟨B8, _, rfl, ?_, hS.deed st8 hB.kinds⟩
            rw [iv_snoc, show ((0 + j : Nat) : Int) = 0 + (j : Nat) by omega]
            exact hB8
          · rintro σ Hd ⟨B, v6, rfl, hB, hS⟩
            rw [show ((m : Nat) : Int).toNat = m by simp] at hB
            exact ⟨B, v6, rfl, hB, hS⟩
        rintro σ13 H13 ⟨B, v6, rfl, hB, hS⟩
        refine rd_take (p := p2) (fr := false) rfl hB (by simp [hlen]; omega) (.inl hne0) (fun R q => q) fun H14 B14 hB14 st14 => ?_
        refine ⟨rfl, false, by rw [mz]; rfl, iteF ?_⟩
        have hS := hS.deed st14 hB.kinds
        rw [mn] at hB14
        generalize takeX false (iv 0 m) [] = X2 at hB14 mx mt
        generalize takeY false (iv 0 m) [] = Y2 at hB14 my mt
        refine rd_steps (p := p2) rfl hB14 ⟨_, rfl, rfl, false, by simp, iteF ?_⟩
        refine rd_halves (p := p2) rfl hB14 fun H15 t15 s15 nt15 ht15 => ?_
        have hh15 := s15 _ _ (hS.2.2 _ _ hh0 (fun ps z => by cases z)).1
        refine ⟨_, rfl, h, _, _, rfl, SqT.of hh15, fun u16 nu16 => ?_⟩
        have s16 := Same.new (o := .tup [.int (Y.length : Nat), .int (X.length : Nat)]) nu16
        refine ⟨t15, u16, [(Y.length : Int), (X.length : Int)], [(Y.length : Int), (X.length : Int)], rfl, rfl, SqT.of (by rw [mx, my] at ht15; exact s16 _ _ ht15), SqT.of upd_same, false, by simp, iteF ?_⟩
        have hB := hB14.same (s15.trans s16)
        have hS := hS.same (s15.trans s16)
        generalize upd H15 u16 (.tup [.int (Y.length : Nat), .int (X.length : Nat)]) = H16 at hB hS ⊢
        refine rd_things (p := p2) rfl hB (by omega) fun H17 l17 s17 nl17 hl17 => ?_
        refine ⟨_, rfl, _, _, rfl, rfl, RgOk.of_le (by decide) (by omega) (by decide) (by omega), fun u18 nu18 => ⟨u18, _, rfl, SqL.of upd_same, fun u19 nu19 => ?_⟩⟩
        have s18 := Same.new (o := .lst (rgV (1 : Int) ((m : Nat) : Int))) nu18
        have s19 := Same.new (o := .lst (rgV (1 : Int) ((m : Nat) : Int)).reverse) nu19
        rw [mt] at hl17
        refine ⟨l17, u19, (iv 1 (m - 1)).reverse, (iv 1 (m - 1)).reverse, rfl, rfl, SqL.of (s19 _ _ (s18 _ _ hl17)), SqL.of (by rw [upd_same, eR, List.map_reverse]), false, by simp, iteF ?_⟩
        exact ⟨_, _, _, _, _, _, rfl, (hS.same (s17.trans (s18.trans s19))).sub fun b hb => absurd hb (by simp)⟩
      · rintro σ Hc ⟨v1, v2, v3, v4, v5, v6, rfl, hS⟩
        exact ⟨rfl, (hS.2.1 _ List.mem_cons_self).2, fun t ht => by
          obtain rfl := List.mem_singleton.mp ht
          exact ⟨n32, (hS.2.1 _ (List.mem_cons_of_mem _ (List.mem_singleton.mpr rfl))).2⟩, fun H' x' => k H' (((LamX.ExtN.of t0).trans hS.ext).trans x')⟩
    obtain ⟨t, h1, h2⟩ := key
    exact ⟨t, h1.nox, h2⟩
end
end Hf
/-! ## the law k08 -/
namespace Hf
open PySem PySem.Spec PyProof.Rows L2
abbrev sLaw : Stmt := top 21
def spLaw (K : PySem.W.Frag) (PT1 PT2 PT3 : Addr) : Sp := fun vs H Q _ => ∃ (a : Addr) (ns : List Int), vs = [.ref a] ∧ SqL K H a (ns.map V.int) ∧ ns.length ≤ 63 ∧ (∀ n ∈ ns, Builtin.Int.intBits n ≤ 1048576) ∧ LamX.TabS H PT1 (qOf "_law_promises_right") ∧ LamX.TabS H PT2 (qOf "_law_turned_promises") ∧ LamX.TabS H PT3 (qOf "_law_even_promises") ∧ ∀ H', Q (.bl true) H'
theorem sq_ext {K : PySem.W.Frag} {H H' : Hp} {a : Addr} {xs : List V} (e : LamX.ExtN H H') (h : SqL K H a xs) : SqL K H' a xs := by
  rcases h with (h | ⟨o, h⟩) | h
  · exact .inl (.inl (e _ _ h fun ps z => by cases z))
  · exact .inl (.inr ⟨o, e _ _ h fun ps z => by cases z⟩)
  · exact .inr h
section
variable {P : Program} {w : World} {K : PySem.W.Frag} {mg : Str → Option Value} {base : Heap} {C CL CT CE CM aE PT1 PT2 PT3 : Addr}
theorem scLaw : FnScope ["_law_script", "_law_one", "_law_by"] ["_law_script"] (defScope sLaw) := ⟨rfl, rfl, rfl, by decide +kernel, rfl, by decide +kernel, by decide +kernel⟩
theorem ok_law {f : Addr} {fd : FuncData} (F : Fun K "law" "law" sLaw f fd) (T : HTxt K mg C CT CE CM aE) (L : PTxt K mg CL CT CE CM) (n21 : PT2 ≠ PT1) (n31 : PT3 ≠ PT1)
    (GI : InitOk P w K mg base C (spInitH C))
    (GP : MethOk P w K mg base (L2N.CX P w) 2 C "put" ["self", "end", "thing"] (spPutH K C CT CE))
    (GS : MethOk P w K mg base CX0 1 C "things" ["self"] (spThingsH C))
    (GN : MethOk P w K mg base CX0 1 C "steps_so_far" ["self"] (spStepsH C))
    (GH : MethOk P w K mg base CX0 1 C "halves" ["self"] (spHalvesH C))
    (GU : MethOk P w K mg base CX0 1 C "purse" ["self"] (spPurseH C))
    (GR : MethOk P w K mg base CX0 1 C "turn" ["self"] (spTurnH C))
    (GD : DefOk P w K mg base CX0 2 "_law_deeds" ["_law_script", "_law_by"] (spDeeds K))
    (GL : DefOk P w K mg base CX0 3 "_law_plain" ["_law_thing"] (spPl K 2))
    (GB : DefOk P w K mg base CX0 5 "_law_lines_right" ["_law_deeds_here"] (spLines K))
    (GW : DefOk P w K mg base CX0 9 "_law_promises_right" [] (spTabs PT1 (qOf "_law_promises_right") [(PT2, qOf "_law_turned_promises"), (PT3, qOf "_law_even_promises")])) : FnOk P w K mg base CX0 10 f fd ["_law_script"] (spLaw K PT1 PT2 PT3) := by
  obtain ⟨fI, fdI, MI, bI, GI⟩ := GI
  obtain ⟨fP, fdP, mP, bP, GP⟩ := GP
  obtain ⟨fS, fdS, mS, bS, GS⟩ := GS
  obtain ⟨fN, fdN, mN, bN, GN⟩ := GN
  obtain ⟨fH, fdH, mH, bH, GH⟩ := GH
  obtain ⟨fU, fdU, mU, bU, GU⟩ := GU
  obtain ⟨fR, fdR, mR, bR, GR⟩ := GR
  obtain ⟨fD, fdD, gD, kD, bD, GD⟩ := GD
  obtain ⟨fL, fdL, gL, kL, bL, GL⟩ := GL
  obtain ⟨fB, fdB, gB, kB, bB, GB⟩ := GB
  obtain ⟨fW, fdW, gW, kW, bW, GW⟩ := GW
  refine F.ok scLaw (fun vs H Q E h => ?_) (fun cdv A outer s H vs Q E hr h => ?_)
  · obtain ⟨a, ns, rfl, _⟩ := h
    rfl
  · obtain ⟨a, ns, rfl, hS, hlen, hbits, hT1, hT2, hT3, k⟩ := h
    have hr1 : Room 1 _ := hr.mono (by decide)
    have hr2 : Room 2 _ := hr.mono (by decide)
    have hr3 : Room 3 _ := hr.mono (by decide)
    have hr5 : Room 5 _ := hr.mono (by decide)
    refine ⟨_, C8.pss_cut (ps_if (pt_not (pt_val (pe_call0 GW hr rfl gW kW bW .nil pass0))) (pss_one (ps_ret pe_bl)) pss_nil)
      (C8.pss_cut (ps_if (pt_not (pt_val (pe_callB (cr_all rfl) (by rfl) L.all (by decide +kernel) (pa_cons (pe_lc (own := [("_law_by", 2)]) (g := gName 2) (te := tCall (spLines K) [] E0 (tCons (tCall (spDeeds K) [] E0 (tCons (tVar 0) (tCons (tVar 2) tNil))) tNil)) (tt := tYes) rfl scLaw.nd (pi_list (pe_lst (pa_cons pe_int (pa_cons pe_int pa_nil)))) (blkOk_by (N := ["_law_script", "_law_one", "_law_by"]) (sc := defScope sLaw) (by decide +kernel)) (fun _ _ _ _ _ => pg_name (i := 2) scLaw.nd rfl (Or.inl rfl)) (fun _ _ _ _ _ => pts_nil)
          (fun _ _ _ _ _ => pe_call GB hr5 rfl gB kB bB .nil pass0 (pa_cons (pe_call GD hr2 rfl gD kD bD .nil pass0 (pa_cons (pv 0) (pa_cons (pv 2) pa_nil))) pa_nil))) pa_nil)))) (pss_one (ps_ret pe_bl)) pss_nil)
      (pss_cons (ps_set (i := 1) scLaw.nd rfl (Or.inl rfl) (pe_make0 MI GI hr2 rfl T.gC bI .nil pass0))
      (pss_cons (ps_expr (pe_meth (pv 1) T.cl mP GP hr2 bP .nil passN (pa_cons pe_str (pa_cons pe_int pa_nil))))
      (pss_cons (ps_expr (pe_meth (pv 1) T.cl mP GP hr2 bP .nil passN (pa_cons pe_str (pa_cons pe_int pa_nil))))
      (pss_cons (ps_expr (pe_meth0 (pv 1) T.cl mR GR hr1 bR .nil pass0))
      (pss_one (ps_ret (pe_and (pe_call GL hr3 rfl gL kL bL .nil pass0 (pa_cons (pe_lst (pa_cons (pe_meth0 (pv 1) T.cl mN GN hr1 bN .nil pass0) (pa_cons (pe_meth0 (pv 1) T.cl mU GU hr1 bU .nil pass0) (pa_cons (pe_meth0 (pv 1) T.cl mH GH hr1 bH .nil pass0) (pa_cons (pe_meth0 (pv 1) T.cl mS GS hr1 bS .nil pass0) pa_nil))))) pa_nil))
        (pe_one (pe_cmpR (op_eqT hr.units) (pe_meth0 (pv 1) T.cl mH GH hr1 bH .nil pass0) (pe_tup (pa_cons pe_int (pa_cons pe_int pa_nil))) (nomark _))))))))))), ?_⟩
    refine ⟨fun σ' H' => σ' = [some (.ref a), none, none] ∧ LamX.ExtN H H', ?_, ?_⟩
    · refine ⟨rfl, hT1, fun t ht => ?_, fun H1 x1 => ⟨true, rfl, iteF ⟨rfl, x1⟩⟩⟩
      rcases List.mem_cons.mp ht with rfl | ht
      · exact ⟨n21, hT2⟩
      · obtain rfl := List.mem_singleton.mp ht
        exact ⟨n31, hT3⟩
    rintro σ1 H1 ⟨rfl, x1⟩
    have hS1 := sq_ext x1 hS
    refine ⟨fun σ' H' => σ' = [some (.ref a), none, none], ?_, ?_⟩
    · refine ⟨(by show 2 ≤ sizeLine; decide), fun g ng => ?_⟩
      have sg := Same.new (o := .lst [.int 0, .int 1]) ng
      have hg : upd H1 g (.lst [.int 0, .int 1]) g = some (.lst [.int 0, .int 1]) := upd_same
      refine ⟨g, rfl, ⟨_, SqL.of hg⟩, fun D nD => lc_list (K := K) (a := g) (xs := [.int 0, .int 1]) (fun m Hm => Same (upd H1 g (.lst [.int 0, .int 1])) Hm ∧ Hm D = some (.lst ((List.replicate m true).map V.bl)))
        ⟨Same.new nD, upd_same⟩ (fun m Hm _ ⟨sm, _⟩ => SqL.of (sm _ _ hg)) ?_ ?_⟩
      · rintro m x Hm hm ⟨sm, hD⟩
        obtain ⟨b, rfl, hb0, hb1⟩ : ∃ b : Int, x = .int b ∧ 0 ≤ b ∧ b ≤ 10 := by
          match m, hm with
          | 0, hi => exact ⟨0, (Option.some.inj hi).symm, by decide, by decide⟩
          | 1, hi => exact ⟨1, (Option.some.inj hi).symm, by decide, by decide⟩
          | i + 2, hi => simp at hi
        have hm2 : m < 2 := (List.getElem?_eq_some_iff.mp hm).1
        refine ⟨rfl, ?_⟩
        unfold tYes
        dsimp only
        refine iteT ⟨_, rfl, _, rfl, a, ns, b, rfl, (sg.trans sm).seq hS1, hlen, hbits, hb0, hb1, fun H7 l rs ds s7 hDs nl nrs hok hdl => ?_⟩
        refine ⟨l, rs, ds, rfl, hDs, hok, hdl, fun H8 s8 => ⟨_, s8 _ _ (s7 _ _ hD), ?_, Same.upd (sm.trans (s7.trans s8)) nD, ?_⟩⟩
        · rw [List.length_map, List.length_replicate, sizeLine_eq]
          omega
        · rw [upd_same, List.replicate_succ', List.map_append]
          rfl
      · rintro Hm ⟨sm, hD⟩
        exact ⟨D, List.replicate 2 true, rfl, SqL.of hD, true, rfl, iteF rfl⟩
    rintro σ2 H2 rfl
    intro p dx np ndx ne
    refine ⟨p, dx, rfl, upd_same, fun H3 B3 hB3 kp => ⟨rfl, ?_⟩⟩
    refine rd_put (p := p) (fr := true) (z := 5) rfl hB3 (by decide) (fun R q => q) fun H4 B4 hB4 st4 => ?_
    refine rd_put (p := p) (fr := false) (z := 6) rfl hB4 (by decide) (fun R q => q) fun H5 B5 hB5 st5 => ?_
    refine rd_turn (p := p) rfl hB5 fun H6 B6 hB6 st6 => ?_
    have hB : HalfAt C H6 p B6 [6] [5] _ := hB6
    refine rd_steps (p := p) rfl hB (rd_purse (p := p) rfl hB (rd_halves (p := p) rfl hB fun Hf t1 sf nt1 ht1 => rd_things (p := p) rfl (hB.same sf) (by decide) fun Hg l1 sg nl1 hl1 => ⟨(by show 4 ≤ sizeLine; decide), fun lb nlb => ?_⟩))
    have sl : ∀ o, Same Hg (upd Hg lb o) := fun o => Same.new nlb
    refine ⟨_, rfl, .inr ⟨lb, _, rfl, .inl upd_same, (by show 4 < 1000000; decide), fun y hy => ?_⟩, fun H' s' => ⟨true, rfl, iteT ?_⟩⟩
    · simp only [List.mem_cons, List.not_mem_nil, or_false] at hy
      rcases hy with rfl | rfl | rfl | rfl
      · exact .inl ⟨_, rfl⟩
      · exact .inl ⟨_, rfl⟩
      · exact .inr ⟨t1, _, rfl, .inr (sl _ _ _ (sg _ _ ht1)), (by show 2 < 1000000; decide), PlV.ints [1, 1]⟩
      · exact .inr ⟨l1, _, rfl, .inl (sl _ _ _ hl1), (by show 2 < 1000000; decide), PlV.ints [6, 5]⟩
    have hB := (((hB.same sf).same sg).same (sl _)).same s'
    refine rd_halves (p := p) rfl hB fun Hh t2 sh nt2 ht2 => ?_
    refine ⟨(by show 2 ≤ sizeLine; decide), fun u9 nu9 => ?_⟩
    refine ⟨t2, u9, [1, 1], [1, 1], rfl, rfl, SqT.of (Same.new nu9 _ _ ht2), SqT.of upd_same, ?_⟩
    exact k _
end
end Hf
/-! ## the end -/
namespace Hf
open PySem PySem.Spec PyProof.Rows L2
theorem all_mk {l : PySem.W.OpenLaw} {w : World} {K : PySem.W.Frag} {h : Heap} {mg : Str → Option Value} {fa C V CL CT CE CM f_h_init f_h_put f_h_lay_over f_h_take f_h_turn f_h_things f_h_steps_so_far f_h_halves f_h_purse f_v_init f_v_move f_v_done f_v_check f_v_put f_v_take f_v_first f_v_things f_v_moved_last f_d_asked_thing f_d_asked_end f_d_law_number f_d_law_deeds f_d_law_plain f_d_law_lines_right f_d_law_is_empty f_d_law_even_promises f_d_law_promises_right f_d_law_turned_promises f_d_law aE : Addr}
    {odE : Option Addr} {tE1 tE2 : Tok} {nE : Nat} {slE : Array (Option Value)}
    {oc_h_init kV_h_init dc_h_init pm_h_init ct_h_init : Value} {od_h_init an_h_init : Option Addr} {sl_h_init : Array (Option Value)} {cd_h_init : Value}
    {oc_h_put kV_h_put dc_h_put pm_h_put ct_h_put : Value} {od_h_put an_h_put : Option Addr} {sl_h_put : Array (Option Value)} {cd_h_put : Value}
    {oc_h_lay_over kV_h_lay_over dc_h_lay_over pm_h_lay_over ct_h_lay_over : Value} {od_h_lay_over an_h_lay_over : Option Addr} {sl_h_lay_over : Array (Option Value)} {cd_h_lay_over : Value}
    {oc_h_take kV_h_take dc_h_take pm_h_take ct_h_take : Value} {od_h_take an_h_take : Option Addr} {sl_h_take : Array (Option Value)} {cd_h_take : Value}
    {oc_h_turn kV_h_turn dc_h_turn pm_h_turn ct_h_turn : Value} {od_h_turn an_h_turn : Option Addr} {sl_h_turn : Array (Option Value)} {cd_h_turn : Value}
    {oc_h_things kV_h_things dc_h_things pm_h_things ct_h_things : Value} {od_h_things an_h_things : Option Addr} {sl_h_things : Array (Option Value)} {cd_h_things : Value}
    {oc_h_steps_so_far kV_h_steps_so_far dc_h_steps_so_far pm_h_steps_so_far ct_h_steps_so_far : Value} {od_h_steps_so_far an_h_steps_so_far : Option Addr} {sl_h_steps_so_far : Array (Option Value)} {cd_h_steps_so_far : Value}
    {oc_h_halves kV_h_halves dc_h_halves pm_h_halves ct_h_halves : Value} {od_h_halves an_h_halves : Option Addr} {sl_h_halves : Array (Option Value)} {cd_h_halves : Value}
    {oc_h_purse kV_h_purse dc_h_purse pm_h_purse ct_h_purse : Value} {od_h_purse an_h_purse : Option Addr} {sl_h_purse : Array (Option Value)} {cd_h_purse : Value}
    {oc_v_init kV_v_init dc_v_init pm_v_init ct_v_init : Value} {od_v_init an_v_init : Option Addr} {sl_v_init : Array (Option Value)} {cd_v_init : Value}
    {oc_v_move kV_v_move dc_v_move pm_v_move ct_v_move : Value} {od_v_move an_v_move : Option Addr} {sl_v_move : Array (Option Value)} {cd_v_move : Value}
    {oc_v_done kV_v_done dc_v_done pm_v_done ct_v_done : Value} {od_v_done an_v_done : Option Addr} {sl_v_done : Array (Option Value)} {cd_v_done : Value}
    {oc_v_check kV_v_check dc_v_check pm_v_check ct_v_check : Value} {od_v_check an_v_check : Option Addr} {sl_v_check : Array (Option Value)} {cd_v_check : Value}
    {oc_v_put kV_v_put dc_v_put pm_v_put ct_v_put : Value} {od_v_put an_v_put : Option Addr} {sl_v_put : Array (Option Value)} {cd_v_put : Value}
    {oc_v_take kV_v_take dc_v_take pm_v_take ct_v_take : Value} {od_v_take an_v_take : Option Addr} {sl_v_take : Array (Option Value)} {cd_v_take : Value}
    {oc_v_first kV_v_first dc_v_first pm_v_first ct_v_first : Value} {od_v_first an_v_first : Option Addr} {sl_v_first : Array (Option Value)} {cd_v_first : Value}
    {oc_v_things kV_v_things dc_v_things pm_v_things ct_v_things : Value} {od_v_things an_v_things : Option Addr} {sl_v_things : Array (Option Value)} {cd_v_things : Value}
    {oc_v_moved_last kV_v_moved_last dc_v_moved_last pm_v_moved_last ct_v_moved_last : Value} {od_v_moved_last an_v_moved_last : Option Addr} {sl_v_moved_last : Array (Option Value)} {cd_v_moved_last : Value}
    {oc_d_asked_thing kV_d_asked_thing dc_d_asked_thing pm_d_asked_thing ct_d_asked_thing : Value} {od_d_asked_thing an_d_asked_thing : Option Addr} {sl_d_asked_thing : Array (Option Value)} {cd_d_asked_thing : Value}
    {oc_d_asked_end kV_d_asked_end dc_d_asked_end pm_d_asked_end ct_d_asked_end : Value} {od_d_asked_end an_d_asked_end : Option Addr} {sl_d_asked_end : Array (Option Value)} {cd_d_asked_end : Value}
    {oc_d_law_number kV_d_law_number dc_d_law_number pm_d_law_number ct_d_law_number : Value} {od_d_law_number an_d_law_number : Option Addr} {sl_d_law_number : Array (Option Value)} {cd_d_law_number : Value}
    {oc_d_law_deeds kV_d_law_deeds dc_d_law_deeds pm_d_law_deeds ct_d_law_deeds : Value} {od_d_law_deeds an_d_law_deeds : Option Addr} {sl_d_law_deeds : Array (Option Value)} {cd_d_law_deeds : Value}
    {oc_d_law_plain kV_d_law_plain dc_d_law_plain pm_d_law_plain ct_d_law_plain : Value} {od_d_law_plain an_d_law_plain : Option Addr} {sl_d_law_plain : Array (Option Value)} {cd_d_law_plain : Value}
    {oc_d_law_lines_right kV_d_law_lines_right dc_d_law_lines_right pm_d_law_lines_right ct_d_law_lines_right : Value} {od_d_law_lines_right an_d_law_lines_right : Option Addr} {sl_d_law_lines_right : Array (Option Value)} {cd_d_law_lines_right : Value}
    {oc_d_law_is_empty kV_d_law_is_empty dc_d_law_is_empty pm_d_law_is_empty ct_d_law_is_empty : Value} {od_d_law_is_empty an_d_law_is_empty : Option Addr} {sl_d_law_is_empty : Array (Option Value)} {cd_d_law_is_empty : Value}
    {oc_d_law_even_promises kV_d_law_even_promises dc_d_law_even_promises pm_d_law_even_promises ct_d_law_even_promises : Value} {od_d_law_even_promises an_d_law_even_promises : Option Addr} {sl_d_law_even_promises : Array (Option Value)} {cc_d_law_even_promises pt_d_law_even_promises : Addr} {oC_d_law_even_promises : Value} {dC_d_law_even_promises : Option Addr} {vC_d_law_even_promises : Array Value} {sC_d_law_even_promises : Array (Option Value)}
    {oc_d_law_promises_right kV_d_law_promises_right dc_d_law_promises_right pm_d_law_promises_right ct_d_law_promises_right : Value} {od_d_law_promises_right an_d_law_promises_right : Option Addr} {sl_d_law_promises_right : Array (Option Value)} {cc_d_law_promises_right pt_d_law_promises_right : Addr} {oC_d_law_promises_right : Value} {dC_d_law_promises_right : Option Addr} {vC_d_law_promises_right : Array Value} {sC_d_law_promises_right : Array (Option Value)}
    {oc_d_law_turned_promises kV_d_law_turned_promises dc_d_law_turned_promises pm_d_law_turned_promises ct_d_law_turned_promises : Value} {od_d_law_turned_promises an_d_law_turned_promises : Option Addr} {sl_d_law_turned_promises : Array (Option Value)} {cc_d_law_turned_promises pt_d_law_turned_promises : Addr} {oC_d_law_turned_promises : Value} {dC_d_law_turned_promises : Option Addr} {vC_d_law_turned_promises : Array Value} {sC_d_law_turned_promises : Array (Option Value)}
    {oc_d_law kV_d_law dc_d_law pm_d_law ct_d_law : Value} {od_d_law an_d_law : Option Addr} {sl_d_law : Array (Option Value)} {cd_d_law : Value}
    (X : K.In h) (G : h.Ns mainGlobals mg) (hfa : mg "law" = some (.ref fa))
    (aC : PySem.W.nsIn K mainGlobals "Halfline" = some (some (.ref C)))
    (aV : PySem.W.nsIn K mainGlobals "Evenline" = some (some (.ref V)))
    (aCL : PySem.W.nsIn K mainGlobals "LineError" = some (some (.ref CL)))
    (aCT : PySem.W.nsIn K mainGlobals "BadThing" = some (some (.ref CT)))
    (aCE : PySem.W.nsIn K mainGlobals "BadEnd" = some (some (.ref CE)))
    (aCM : PySem.W.nsIn K mainGlobals "Empty" = some (some (.ref CM)))
    (aENDS : PySem.W.nsIn K mainGlobals "ENDS" = some (some (.ref aE)))
    (lENDS : K.lookup aE = some ⟨.type "tuple", odE, .seq #[.str "front" tE1, .str "back" tE2] nE, slE⟩)
    (a_h_init : PySem.W.findIn K (.ref C) "__init__" = some (some (.ref f_h_init)))
    (i_h_init : PySem.W.isFn K (.ref f_h_init) = true)
    (l_h_init : K.lookup f_h_init = some ⟨oc_h_init, od_h_init, .func (PySem.W.fnOf "__init__" "Halfline.__init__" (defArgs sHI) (defBody sHI) (defScope sHI) .none kV_h_init dc_h_init pm_h_init an_h_init cd_h_init ct_h_init), sl_h_init⟩)
    (c_h_init : PySem.W.codeIn K cd_h_init "Halfline.__init__" = true)
    (k_h_init : PySem.W.keepIn K (.ref f_h_init) = true)
    (a_h_put : PySem.W.findIn K (.ref C) "put" = some (some (.ref f_h_put)))
    (i_h_put : PySem.W.isFn K (.ref f_h_put) = true)
    (l_h_put : K.lookup f_h_put = some ⟨oc_h_put, od_h_put, .func (PySem.W.fnOf "put" "Halfline.put" (defArgs sHPut) (defBody sHPut) (defScope sHPut) .none kV_h_put dc_h_put pm_h_put an_h_put cd_h_put ct_h_put), sl_h_put⟩)
    (c_h_put : PySem.W.codeIn K cd_h_put "Halfline.put" = true)
    (k_h_put : PySem.W.keepIn K (.ref f_h_put) = true)
    (a_h_lay_over : PySem.W.findIn K (.ref C) "lay_over" = some (some (.ref f_h_lay_over)))
    (i_h_lay_over : PySem.W.isFn K (.ref f_h_lay_over) = true)
    (l_h_lay_over : K.lookup f_h_lay_over = some ⟨oc_h_lay_over, od_h_lay_over, .func (PySem.W.fnOf "lay_over" "Halfline.lay_over" (defArgs sHLay) (defBody sHLay) (defScope sHLay) .none kV_h_lay_over dc_h_lay_over pm_h_lay_over an_h_lay_over cd_h_lay_over ct_h_lay_over), sl_h_lay_over⟩)
    (c_h_lay_over : PySem.W.codeIn K cd_h_lay_over "Halfline.lay_over" = true)
    (k_h_lay_over : PySem.W.keepIn K (.ref f_h_lay_over) = true)
    (a_h_take : PySem.W.findIn K (.ref C) "take" = some (some (.ref f_h_take)))
    (i_h_take : PySem.W.isFn K (.ref f_h_take) = true)
    (l_h_take : K.lookup f_h_take = some ⟨oc_h_take, od_h_take, .func (PySem.W.fnOf "take" "Halfline.take" (defArgs sHTake) (defBody sHTake) (defScope sHTake) .none kV_h_take dc_h_take pm_h_take an_h_take cd_h_take ct_h_take), sl_h_take⟩)
    (c_h_take : PySem.W.codeIn K cd_h_take "Halfline.take" = true)
    (k_h_take : PySem.W.keepIn K (.ref f_h_take) = true)
    (a_h_turn : PySem.W.findIn K (.ref C) "turn" = some (some (.ref f_h_turn)))
    (i_h_turn : PySem.W.isFn K (.ref f_h_turn) = true)
    (l_h_turn : K.lookup f_h_turn = some ⟨oc_h_turn, od_h_turn, .func (PySem.W.fnOf "turn" "Halfline.turn" (defArgs sHTurn) (defBody sHTurn) (defScope sHTurn) .none kV_h_turn dc_h_turn pm_h_turn an_h_turn cd_h_turn ct_h_turn), sl_h_turn⟩)
    (c_h_turn : PySem.W.codeIn K cd_h_turn "Halfline.turn" = true)
    (k_h_turn : PySem.W.keepIn K (.ref f_h_turn) = true)
    (a_h_things : PySem.W.findIn K (.ref C) "things" = some (some (.ref f_h_things)))
    (i_h_things : PySem.W.isFn K (.ref f_h_things) = true)
    (l_h_things : K.lookup f_h_things = some ⟨oc_h_things, od_h_things, .func (PySem.W.fnOf "things" "Halfline.things" (defArgs sHThings) (defBody sHThings) (defScope sHThings) .none kV_h_things dc_h_things pm_h_things an_h_things cd_h_things ct_h_things), sl_h_things⟩)
    (c_h_things : PySem.W.codeIn K cd_h_things "Halfline.things" = true)
    (k_h_things : PySem.W.keepIn K (.ref f_h_things) = true)
    (a_h_steps_so_far : PySem.W.findIn K (.ref C) "steps_so_far" = some (some (.ref f_h_steps_so_far)))
    (i_h_steps_so_far : PySem.W.isFn K (.ref f_h_steps_so_far) = true)
    (l_h_steps_so_far : K.lookup f_h_steps_so_far = some ⟨oc_h_steps_so_far, od_h_steps_so_far, .func (PySem.W.fnOf "steps_so_far" "Halfline.steps_so_far" (defArgs sHSteps) (defBody sHSteps) (defScope sHSteps) .none kV_h_steps_so_far dc_h_steps_so_far pm_h_steps_so_far an_h_steps_so_far cd_h_steps_so_far ct_h_steps_so_far), sl_h_steps_so_far⟩)
    (c_h_steps_so_far : PySem.W.codeIn K cd_h_steps_so_far "Halfline.steps_so_far" = true)
    (k_h_steps_so_far : PySem.W.keepIn K (.ref f_h_steps_so_far) = true)
    (a_h_halves : PySem.W.findIn K (.ref C) "halves" = some (some (.ref f_h_halves)))
    (i_h_halves : PySem.W.isFn K (.ref f_h_halves) = true)
    (l_h_halves : K.lookup f_h_halves = some ⟨oc_h_halves, od_h_halves, .func (PySem.W.fnOf "halves" "Halfline.halves" (defArgs sHHalves) (defBody sHHalves) (defScope sHHalves) .none kV_h_halves dc_h_halves pm_h_halves an_h_halves cd_h_halves ct_h_halves), sl_h_halves⟩)
    (c_h_halves : PySem.W.codeIn K cd_h_halves "Halfline.halves" = true)
    (k_h_halves : PySem.W.keepIn K (.ref f_h_halves) = true)
    (a_h_purse : PySem.W.findIn K (.ref C) "purse" = some (some (.ref f_h_purse)))
    (i_h_purse : PySem.W.isFn K (.ref f_h_purse) = true)
    (l_h_purse : K.lookup f_h_purse = some ⟨oc_h_purse, od_h_purse, .func (PySem.W.fnOf "purse" "Halfline.purse" (defArgs sHPurse) (defBody sHPurse) (defScope sHPurse) .none kV_h_purse dc_h_purse pm_h_purse an_h_purse cd_h_purse ct_h_purse), sl_h_purse⟩)
    (c_h_purse : PySem.W.codeIn K cd_h_purse "Halfline.purse" = true)
    (k_h_purse : PySem.W.keepIn K (.ref f_h_purse) = true)
    (a_v_init : PySem.W.findIn K (.ref V) "__init__" = some (some (.ref f_v_init)))
    (i_v_init : PySem.W.isFn K (.ref f_v_init) = true)
    (l_v_init : K.lookup f_v_init = some ⟨oc_v_init, od_v_init, .func (PySem.W.fnOf "__init__" "Evenline.__init__" (defArgs sVI) (defBody sVI) (defScope sVI) .none kV_v_init dc_v_init pm_v_init an_v_init cd_v_init ct_v_init), sl_v_init⟩)
    (c_v_init : PySem.W.codeIn K cd_v_init "Evenline.__init__" = true)
    (k_v_init : PySem.W.keepIn K (.ref f_v_init) = true)
    (a_v_move : PySem.W.findIn K (.ref V) "move" = some (some (.ref f_v_move)))
    (i_v_move : PySem.W.isFn K (.ref f_v_move) = true)
    (l_v_move : K.lookup f_v_move = some ⟨oc_v_move, od_v_move, .func (PySem.W.fnOf "move" "Evenline.move" (defArgs sVMove) (defBody sVMove) (defScope sVMove) .none kV_v_move dc_v_move pm_v_move an_v_move cd_v_move ct_v_move), sl_v_move⟩)
    (c_v_move : PySem.W.codeIn K cd_v_move "Evenline.move" = true)
    (k_v_move : PySem.W.keepIn K (.ref f_v_move) = true)
    (a_v_done : PySem.W.findIn K (.ref V) "done" = some (some (.ref f_v_done)))
    (i_v_done : PySem.W.isFn K (.ref f_v_done) = true)
    (l_v_done : K.lookup f_v_done = some ⟨oc_v_done, od_v_done, .func (PySem.W.fnOf "done" "Evenline.done" (defArgs sVDone) (defBody sVDone) (defScope sVDone) .none kV_v_done dc_v_done pm_v_done an_v_done cd_v_done ct_v_done), sl_v_done⟩)
    (c_v_done : PySem.W.codeIn K cd_v_done "Evenline.done" = true)
    (k_v_done : PySem.W.keepIn K (.ref f_v_done) = true)
    (a_v_check : PySem.W.findIn K (.ref V) "check" = some (some (.ref f_v_check)))
    (i_v_check : PySem.W.isFn K (.ref f_v_check) = true)
    (l_v_check : K.lookup f_v_check = some ⟨oc_v_check, od_v_check, .func (PySem.W.fnOf "check" "Evenline.check" (defArgs sVCheck) (defBody sVCheck) (defScope sVCheck) .none kV_v_check dc_v_check pm_v_check an_v_check cd_v_check ct_v_check), sl_v_check⟩)
    (c_v_check : PySem.W.codeIn K cd_v_check "Evenline.check" = true)
    (k_v_check : PySem.W.keepIn K (.ref f_v_check) = true)
    (a_v_put : PySem.W.findIn K (.ref V) "put" = some (some (.ref f_v_put)))
    (i_v_put : PySem.W.isFn K (.ref f_v_put) = true)
    (l_v_put : K.lookup f_v_put = some ⟨oc_v_put, od_v_put, .func (PySem.W.fnOf "put" "Evenline.put" (defArgs sVPut) (defBody sVPut) (defScope sVPut) .none kV_v_put dc_v_put pm_v_put an_v_put cd_v_put ct_v_put), sl_v_put⟩)
    (c_v_put : PySem.W.codeIn K cd_v_put "Evenline.put" = true)
    (k_v_put : PySem.W.keepIn K (.ref f_v_put) = true)
    (a_v_take : PySem.W.findIn K (.ref V) "take" = some (some (.ref f_v_take)))
    (i_v_take : PySem.W.isFn K (.ref f_v_take) = true)
    (l_v_take : K.lookup f_v_take = some ⟨oc_v_take, od_v_take, .func (PySem.W.fnOf "take" "Evenline.take" (defArgs sVTake) (defBody sVTake) (defScope sVTake) .none kV_v_take dc_v_take pm_v_take an_v_take cd_v_take ct_v_take), sl_v_take⟩)
    (c_v_take : PySem.W.codeIn K cd_v_take "Evenline.take" = true)
    (k_v_take : PySem.W.keepIn K (.ref f_v_take) = true)
    (a_v_first : PySem.W.findIn K (.ref V) "first" = some (some (.ref f_v_first)))
    (i_v_first : PySem.W.isFn K (.ref f_v_first) = true)
    (l_v_first : K.lookup f_v_first = some ⟨oc_v_first, od_v_first, .func (PySem.W.fnOf "first" "Evenline.first" (defArgs sVFirst) (defBody sVFirst) (defScope sVFirst) .none kV_v_first dc_v_first pm_v_first an_v_first cd_v_first ct_v_first), sl_v_first⟩)
    (c_v_first : PySem.W.codeIn K cd_v_first "Evenline.first" = true)
    (k_v_first : PySem.W.keepIn K (.ref f_v_first) = true)
    (a_v_things : PySem.W.findIn K (.ref V) "things" = some (some (.ref f_v_things)))
    (i_v_things : PySem.W.isFn K (.ref f_v_things) = true)
    (l_v_things : K.lookup f_v_things = some ⟨oc_v_things, od_v_things, .func (PySem.W.fnOf "things" "Evenline.things" (defArgs sVThings) (defBody sVThings) (defScope sVThings) .none kV_v_things dc_v_things pm_v_things an_v_things cd_v_things ct_v_things), sl_v_things⟩)
    (c_v_things : PySem.W.codeIn K cd_v_things "Evenline.things" = true)
    (k_v_things : PySem.W.keepIn K (.ref f_v_things) = true)
    (a_v_moved_last : PySem.W.findIn K (.ref V) "moved_last" = some (some (.ref f_v_moved_last)))
    (i_v_moved_last : PySem.W.isFn K (.ref f_v_moved_last) = true)
    (l_v_moved_last : K.lookup f_v_moved_last = some ⟨oc_v_moved_last, od_v_moved_last, .func (PySem.W.fnOf "moved_last" "Evenline.moved_last" (defArgs sVMoved) (defBody sVMoved) (defScope sVMoved) .none kV_v_moved_last dc_v_moved_last pm_v_moved_last an_v_moved_last cd_v_moved_last ct_v_moved_last), sl_v_moved_last⟩)
    (c_v_moved_last : PySem.W.codeIn K cd_v_moved_last "Evenline.moved_last" = true)
    (k_v_moved_last : PySem.W.keepIn K (.ref f_v_moved_last) = true)
    (a_d_asked_thing : PySem.W.nsIn K mainGlobals "asked_thing" = some (some (.ref f_d_asked_thing)))
    (l_d_asked_thing : K.lookup f_d_asked_thing = some ⟨oc_d_asked_thing, od_d_asked_thing, .func (PySem.W.fnOf "asked_thing" "asked_thing" (defArgs sThing) (defBody sThing) (defScope sThing) .none kV_d_asked_thing dc_d_asked_thing pm_d_asked_thing an_d_asked_thing cd_d_asked_thing ct_d_asked_thing), sl_d_asked_thing⟩)
    (c_d_asked_thing : PySem.W.codeIn K cd_d_asked_thing "asked_thing" = true)
    (k_d_asked_thing : PySem.W.keepIn K (.ref f_d_asked_thing) = true)
    (a_d_asked_end : PySem.W.nsIn K mainGlobals "asked_end" = some (some (.ref f_d_asked_end)))
    (l_d_asked_end : K.lookup f_d_asked_end = some ⟨oc_d_asked_end, od_d_asked_end, .func (PySem.W.fnOf "asked_end" "asked_end" (defArgs sEnd) (defBody sEnd) (defScope sEnd) .none kV_d_asked_end dc_d_asked_end pm_d_asked_end an_d_asked_end cd_d_asked_end ct_d_asked_end), sl_d_asked_end⟩)
    (c_d_asked_end : PySem.W.codeIn K cd_d_asked_end "asked_end" = true)
    (k_d_asked_end : PySem.W.keepIn K (.ref f_d_asked_end) = true)
    (a_d_law_number : PySem.W.nsIn K mainGlobals "_law_number" = some (some (.ref f_d_law_number)))
    (l_d_law_number : K.lookup f_d_law_number = some ⟨oc_d_law_number, od_d_law_number, .func (PySem.W.fnOf "_law_number" "_law_number" (defArgs sNum) (defBody sNum) (defScope sNum) .none kV_d_law_number dc_d_law_number pm_d_law_number an_d_law_number cd_d_law_number ct_d_law_number), sl_d_law_number⟩)
    (c_d_law_number : PySem.W.codeIn K cd_d_law_number "_law_number" = true)
    (k_d_law_number : PySem.W.keepIn K (.ref f_d_law_number) = true)
    (a_d_law_deeds : PySem.W.nsIn K mainGlobals "_law_deeds" = some (some (.ref f_d_law_deeds)))
    (l_d_law_deeds : K.lookup f_d_law_deeds = some ⟨oc_d_law_deeds, od_d_law_deeds, .func (PySem.W.fnOf "_law_deeds" "_law_deeds" (defArgs sDeeds) (defBody sDeeds) (defScope sDeeds) .none kV_d_law_deeds dc_d_law_deeds pm_d_law_deeds an_d_law_deeds cd_d_law_deeds ct_d_law_deeds), sl_d_law_deeds⟩)
    (c_d_law_deeds : PySem.W.codeIn K cd_d_law_deeds "_law_deeds" = true)
    (k_d_law_deeds : PySem.W.keepIn K (.ref f_d_law_deeds) = true)
    (a_d_law_plain : PySem.W.nsIn K mainGlobals "_law_plain" = some (some (.ref f_d_law_plain)))
    (l_d_law_plain : K.lookup f_d_law_plain = some ⟨oc_d_law_plain, od_d_law_plain, .func (PySem.W.fnOf "_law_plain" "_law_plain" (defArgs sPlain) (defBody sPlain) (defScope sPlain) .none kV_d_law_plain dc_d_law_plain pm_d_law_plain an_d_law_plain cd_d_law_plain ct_d_law_plain), sl_d_law_plain⟩)
    (c_d_law_plain : PySem.W.codeIn K cd_d_law_plain "_law_plain" = true)
    (k_d_law_plain : PySem.W.keepIn K (.ref f_d_law_plain) = true)
    (a_d_law_lines_right : PySem.W.nsIn K mainGlobals "_law_lines_right" = some (some (.ref f_d_law_lines_right)))
    (l_d_law_lines_right : K.lookup f_d_law_lines_right = some ⟨oc_d_law_lines_right, od_d_law_lines_right, .func (PySem.W.fnOf "_law_lines_right" "_law_lines_right" (defArgs sLines) (defBody sLines) (defScope sLines) .none kV_d_law_lines_right dc_d_law_lines_right pm_d_law_lines_right an_d_law_lines_right cd_d_law_lines_right ct_d_law_lines_right), sl_d_law_lines_right⟩)
    (c_d_law_lines_right : PySem.W.codeIn K cd_d_law_lines_right "_law_lines_right" = true)
    (k_d_law_lines_right : PySem.W.keepIn K (.ref f_d_law_lines_right) = true)
    (a_d_law_is_empty : PySem.W.nsIn K mainGlobals "_law_is_empty" = some (some (.ref f_d_law_is_empty)))
    (l_d_law_is_empty : K.lookup f_d_law_is_empty = some ⟨oc_d_law_is_empty, od_d_law_is_empty, .func (PySem.W.fnOf "_law_is_empty" "_law_is_empty" (defArgs sIsE) (defBody sIsE) (defScope sIsE) .none kV_d_law_is_empty dc_d_law_is_empty pm_d_law_is_empty an_d_law_is_empty cd_d_law_is_empty ct_d_law_is_empty), sl_d_law_is_empty⟩)
    (c_d_law_is_empty : PySem.W.codeIn K cd_d_law_is_empty "_law_is_empty" = true)
    (k_d_law_is_empty : PySem.W.keepIn K (.ref f_d_law_is_empty) = true)
    (a_d_law_even_promises : PySem.W.nsIn K mainGlobals "_law_even_promises" = some (some (.ref f_d_law_even_promises)))
    (l_d_law_even_promises : K.lookup f_d_law_even_promises = some ⟨oc_d_law_even_promises, od_d_law_even_promises, .func (PySem.W.fnOf "_law_even_promises" "_law_even_promises" (defArgs sEvenP) (defBody sEvenP) (defScope sEvenP) .none kV_d_law_even_promises dc_d_law_even_promises pm_d_law_even_promises an_d_law_even_promises (.ref cc_d_law_even_promises) ct_d_law_even_promises), sl_d_law_even_promises⟩)
    (c_d_law_even_promises : PySem.W.codeIn K (.ref cc_d_law_even_promises) "_law_even_promises" = true)
    (lc_d_law_even_promises : K.lookup cc_d_law_even_promises = some ⟨oC_d_law_even_promises, dC_d_law_even_promises, .fields vC_d_law_even_promises, sC_d_law_even_promises⟩)
    (e_d_law_even_promises : (vC_d_law_even_promises[11]? : Option Value) = some (.ref pt_d_law_even_promises))
    (n_d_law_even_promises : K.lookup pt_d_law_even_promises = none)
    (k_d_law_even_promises : PySem.W.keepIn K (.ref f_d_law_even_promises) = true)
    (a_d_law_promises_right : PySem.W.nsIn K mainGlobals "_law_promises_right" = some (some (.ref f_d_law_promises_right)))
    (l_d_law_promises_right : K.lookup f_d_law_promises_right = some ⟨oc_d_law_promises_right, od_d_law_promises_right, .func (PySem.W.fnOf "_law_promises_right" "_law_promises_right" (defArgs sProm) (defBody sProm) (defScope sProm) .none kV_d_law_promises_right dc_d_law_promises_right pm_d_law_promises_right an_d_law_promises_right (.ref cc_d_law_promises_right) ct_d_law_promises_right), sl_d_law_promises_right⟩)
    (c_d_law_promises_right : PySem.W.codeIn K (.ref cc_d_law_promises_right) "_law_promises_right" = true)
    (lc_d_law_promises_right : K.lookup cc_d_law_promises_right = some ⟨oC_d_law_promises_right, dC_d_law_promises_right, .fields vC_d_law_promises_right, sC_d_law_promises_right⟩)
    (e_d_law_promises_right : (vC_d_law_promises_right[11]? : Option Value) = some (.ref pt_d_law_promises_right))
    (n_d_law_promises_right : K.lookup pt_d_law_promises_right = none)
    (k_d_law_promises_right : PySem.W.keepIn K (.ref f_d_law_promises_right) = true)
    (a_d_law_turned_promises : PySem.W.nsIn K mainGlobals "_law_turned_promises" = some (some (.ref f_d_law_turned_promises)))
    (l_d_law_turned_promises : K.lookup f_d_law_turned_promises = some ⟨oc_d_law_turned_promises, od_d_law_turned_promises, .func (PySem.W.fnOf "_law_turned_promises" "_law_turned_promises" (defArgs sTurned) (defBody sTurned) (defScope sTurned) .none kV_d_law_turned_promises dc_d_law_turned_promises pm_d_law_turned_promises an_d_law_turned_promises (.ref cc_d_law_turned_promises) ct_d_law_turned_promises), sl_d_law_turned_promises⟩)
    (c_d_law_turned_promises : PySem.W.codeIn K (.ref cc_d_law_turned_promises) "_law_turned_promises" = true)
    (lc_d_law_turned_promises : K.lookup cc_d_law_turned_promises = some ⟨oC_d_law_turned_promises, dC_d_law_turned_promises, .fields vC_d_law_turned_promises, sC_d_law_turned_promises⟩)
    (e_d_law_turned_promises : (vC_d_law_turned_promises[11]? : Option Value) = some (.ref pt_d_law_turned_promises))
    (n_d_law_turned_promises : K.lookup pt_d_law_turned_promises = none)
    (k_d_law_turned_promises : PySem.W.keepIn K (.ref f_d_law_turned_promises) = true)
    (a_d_law : PySem.W.nsIn K mainGlobals "law" = some (some (.ref f_d_law)))
    (l_d_law : K.lookup f_d_law = some ⟨oc_d_law, od_d_law, .func (PySem.W.fnOf "law" "law" (defArgs sLaw) (defBody sLaw) (defScope sLaw) .none kV_d_law dc_d_law pm_d_law an_d_law cd_d_law ct_d_law), sl_d_law⟩)
    (c_d_law : PySem.W.codeIn K cd_d_law "law" = true)
    (k_d_law : PySem.W.keepIn K (.ref f_d_law) = true)
    (pgC : PySem.W.plainGet K C Str.empty = true)
    (hdC : PySem.W.hasDictIn K C = true)
    (poC : PySem.W.plainOver K C = true)
    (saC : PySem.W.findIn K (.ref C) "__setattr__" = some (some (.builtin "object.__setattr__")))
    (mkC : PySem.W.makesIn K C = true)
    (kcC : PySem.W.keepIn K (.ref C) = true)
    (nC_front : PySem.W.findIn K (.ref C) "front" = some none)
    (nC_back : PySem.W.findIn K (.ref C) "back" = some none)
    (nC_steps : PySem.W.findIn K (.ref C) "steps" = some none)
    (pgV : PySem.W.plainGet K V Str.empty = true)
    (hdV : PySem.W.hasDictIn K V = true)
    (poV : PySem.W.plainOver K V = true)
    (saV : PySem.W.findIn K (.ref V) "__setattr__" = some (some (.builtin "object.__setattr__")))
    (mkV : PySem.W.makesIn K V = true)
    (kcV : PySem.W.keepIn K (.ref V) = true)
    (nV_front : PySem.W.findIn K (.ref V) "front" = some none)
    (nV_top : PySem.W.findIn K (.ref V) "top" = some none)
    (nV_back : PySem.W.findIn K (.ref V) "back" = some none)
    (nV_waiting : PySem.W.findIn K (.ref V) "waiting" = some none)
    (nV_left : PySem.W.findIn K (.ref V) "left" = some none)
    (nV_turned : PySem.W.findIn K (.ref V) "turned" = some none)
    (nV_spare : PySem.W.findIn K (.ref V) "spare" = some none)
    (nV_reading : PySem.W.findIn K (.ref V) "reading" = some none)
    (nV_good : PySem.W.findIn K (.ref V) "good" = some none)
    (nV_state : PySem.W.findIn K (.ref V) "state" = some none)
    (nV_last : PySem.W.findIn K (.ref V) "last" = some none)
    (gsp : PySem.W.specialIn K (.builtin "object.__class__") "__get__" = some (some (.builtin "getset_descriptor.__get__")))
    (gtk : PySem.W.takesIn K (.builtin "object.__class__") = some true)
    (xCT : PySem.W.excIn K CT bmV "ValueError.__new__" = true)
    (kCT : PySem.W.keepIn K (.ref CT) = true)
    (bCT : PySem.W.subIn K (.ref CT) (.type "BaseException") = some true)
    (tCT : PySem.W.typeIn K (.ref CT) = some (.type "type"))
    (egCT : PySem.W.findIn K (.ref CT) "__getattribute__" = some (some (.builtin "BaseException.__getattribute__")))
    (ekCT : PySem.W.findIn K (.ref CT) "__getattr__" = some none)
    (edCT : PySem.W.hasDictIn K CT = true)
    (eaCT : PySem.W.findIn K (.ref CT) "__class__" = some (some (.builtin "object.__class__")))
    (emCT : PySem.W.mroIn K CT (.type "object") = some true)
    (xCE : PySem.W.excIn K CE bmV "ValueError.__new__" = true)
    (kCE : PySem.W.keepIn K (.ref CE) = true)
    (bCE : PySem.W.subIn K (.ref CE) (.type "BaseException") = some true)
    (tCE : PySem.W.typeIn K (.ref CE) = some (.type "type"))
    (egCE : PySem.W.findIn K (.ref CE) "__getattribute__" = some (some (.builtin "BaseException.__getattribute__")))
    (ekCE : PySem.W.findIn K (.ref CE) "__getattr__" = some none)
    (edCE : PySem.W.hasDictIn K CE = true)
    (eaCE : PySem.W.findIn K (.ref CE) "__class__" = some (some (.builtin "object.__class__")))
    (emCE : PySem.W.mroIn K CE (.type "object") = some true)
    (xCM : PySem.W.excIn K CM bmV "ValueError.__new__" = true)
    (kCM : PySem.W.keepIn K (.ref CM) = true)
    (bCM : PySem.W.subIn K (.ref CM) (.type "BaseException") = some true)
    (tCM : PySem.W.typeIn K (.ref CM) = some (.type "type"))
    (egCM : PySem.W.findIn K (.ref CM) "__getattribute__" = some (some (.builtin "BaseException.__getattribute__")))
    (ekCM : PySem.W.findIn K (.ref CM) "__getattr__" = some none)
    (edCM : PySem.W.hasDictIn K CM = true)
    (eaCM : PySem.W.findIn K (.ref CM) "__class__" = some (some (.builtin "object.__class__")))
    (emCM : PySem.W.mroIn K CM (.type "object") = some true)
    (edCL : PySem.W.hasDictIn K CL = true)
    (tCL : PySem.W.typeIn K (.ref CL) = some (.type "type"))
    (bCL : PySem.W.subIn K (.ref CL) (.type "BaseException") = some true)
    (sTL : PySem.W.subIn K (.ref CT) (.ref CL) = some true)
    (sEL : PySem.W.subIn K (.ref CE) (.ref CL) = some true)
    (sML : PySem.W.subIn K (.ref CM) (.ref CL) = some true)
    (sTT : PySem.W.subIn K (.ref CT) (.ref CT) = some true)
    (sTE : PySem.W.subIn K (.ref CT) (.ref CE) = some false)
    (sTM : PySem.W.subIn K (.ref CT) (.ref CM) = some false)
    (sET : PySem.W.subIn K (.ref CE) (.ref CT) = some false)
    (sEE : PySem.W.subIn K (.ref CE) (.ref CE) = some true)
    (sEM : PySem.W.subIn K (.ref CE) (.ref CM) = some false)
    (sMT : PySem.W.subIn K (.ref CM) (.ref CT) = some false)
    (sME : PySem.W.subIn K (.ref CM) (.ref CE) = some false)
    (sMM : PySem.W.subIn K (.ref CM) (.ref CM) = some true)
    (n21 : pt_d_law_turned_promises ≠ pt_d_law_promises_right)
    (n31 : pt_d_law_even_promises ≠ pt_d_law_promises_right)
    (n32 : pt_d_law_even_promises ≠ pt_d_law_turned_promises)
    (z_isinstance : PySem.W.nsIn K mainGlobals "isinstance" = some none)
    (z_int : PySem.W.nsIn K mainGlobals "int" = some none)
    (z_bool : PySem.W.nsIn K mainGlobals "bool" = some none)
    (z_str : PySem.W.nsIn K mainGlobals "str" = some none)
    (z_len : PySem.W.nsIn K mainGlobals "len" = some none)
    (z_abs : PySem.W.nsIn K mainGlobals "abs" = some none)
    (z_range : PySem.W.nsIn K mainGlobals "range" = some none)
    (z_list : PySem.W.nsIn K mainGlobals "list" = some none)
    (z_tuple : PySem.W.nsIn K mainGlobals "tuple" = some none)
    (z_all : PySem.W.nsIn K mainGlobals "all" = some none)
    (z_sum : PySem.W.nsIn K mainGlobals "sum" = some none)
    (z_enumerate : PySem.W.nsIn K mainGlobals "enumerate" = some none)
    (TO : TabsOf K ["_law_promises_right", "_law_turned_promises", "_law_even_promises"] h) : LamX.LawAtS l w K L2.CX0 10 63 "_law_script" mg fa h := by
  unfold LamX.LawAtS
  generalize l.prog = P
  have t_d_law_promises_right : PySem.W.tabIn K "_law_promises_right" = some (cc_d_law_promises_right, pt_d_law_promises_right) := by
    unfold PySem.W.tabIn
    rw [a_d_law_promises_right]
    simp only [l_d_law_promises_right]
    simp only [lc_d_law_promises_right, e_d_law_promises_right]
  have t_d_law_turned_promises : PySem.W.tabIn K "_law_turned_promises" = some (cc_d_law_turned_promises, pt_d_law_turned_promises) := by
    unfold PySem.W.tabIn
    rw [a_d_law_turned_promises]
    simp only [l_d_law_turned_promises]
    simp only [lc_d_law_turned_promises, e_d_law_turned_promises]
  have t_d_law_even_promises : PySem.W.tabIn K "_law_even_promises" = some (cc_d_law_even_promises, pt_d_law_even_promises) := by
    unfold PySem.W.tabIn
    rw [a_d_law_even_promises]
    simp only [l_d_law_even_promises]
    simp only [lc_d_law_even_promises, e_d_law_even_promises]
  have e := hfa.symm.trans (PySem.W.mg_of X G a_d_law)
  cases e
  have m_isinstance := PySem.W.mg_none_of X G z_isinstance
  have m_int := PySem.W.mg_none_of X G z_int
  have m_bool := PySem.W.mg_none_of X G z_bool
  have m_str := PySem.W.mg_none_of X G z_str
  have m_len := PySem.W.mg_none_of X G z_len
  have m_abs := PySem.W.mg_none_of X G z_abs
  have m_range := PySem.W.mg_none_of X G z_range
  have m_list := PySem.W.mg_none_of X G z_list
  have m_tuple := PySem.W.mg_none_of X G z_tuple
  have m_all := PySem.W.mg_none_of X G z_all
  have m_sum := PySem.W.mg_none_of X G z_sum
  have m_enumerate := PySem.W.mg_none_of X G z_enumerate
  have gC := PySem.W.mg_of X G aC
  have clC : Cls K C := ⟨pgC, hdC, poC, saC⟩
  have gV := PySem.W.mg_of X G aV
  have clV : Cls K V := ⟨pgV, hdV, poV, saV⟩
  have gCL := PySem.W.mg_of X G aCL
  have gCT := PySem.W.mg_of X G aCT
  have TCT : ETxt K mg "BadThing" CT := ⟨gCT, xCT, kCT, bCT, tCT⟩
  have ICT : ExcC K CT := ⟨egCT, ekCT, bCT, edCT, eaCT, gsp, gtk, emCT⟩
  have gCE := PySem.W.mg_of X G aCE
  have TCE : ETxt K mg "BadEnd" CE := ⟨gCE, xCE, kCE, bCE, tCE⟩
  have ICE : ExcC K CE := ⟨egCE, ekCE, bCE, edCE, eaCE, gsp, gtk, emCE⟩
  have gCM := PySem.W.mg_of X G aCM
  have TCM : ETxt K mg "Empty" CM := ⟨gCM, xCM, kCM, bCM, tCM⟩
  have ICM : ExcC K CM := ⟨egCM, ekCM, bCM, edCM, eaCM, gsp, gtk, emCM⟩
  have gENDS := PySem.W.mg_of X G aENDS
  have tENDS : ∀ H, SqT K H aE [.str "front", .str "back"] := fun H => .inr ⟨_, _, _, lENDS, rfl, rfl, (by show 2 ≤ sizeLine; decide), .cons ⟨_, rfl⟩ (.cons ⟨_, rfl⟩ .nil)⟩
  have F_h_init := fun_mk (st := sHI) l_h_init c_h_init k_h_init
  have b_h_init := F_h_init.binds (ps := ["self"]) fun _ _ _ _ _ _ us hl => match us, hl with | [_], _ => rfl
  have m_h_init : Meth K C "__init__" f_h_init := ⟨a_h_init, i_h_init, k_h_init⟩
  have M_h_init : Mk K C f_h_init := ⟨mkC, a_h_init, i_h_init, kcC⟩
  have F_h_put := fun_mk (st := sHPut) l_h_put c_h_put k_h_put
  have b_h_put := F_h_put.binds (ps := ["self", "end", "thing"]) fun _ _ _ _ _ _ us hl => match us, hl with | [_, _, _], _ => rfl
  have m_h_put : Meth K C "put" f_h_put := ⟨a_h_put, i_h_put, k_h_put⟩
  have F_h_lay_over := fun_mk (st := sHLay) l_h_lay_over c_h_lay_over k_h_lay_over
  have b_h_lay_over := F_h_lay_over.binds (ps := ["self", "full"]) fun _ _ _ _ _ _ us hl => match us, hl with | [_, _], _ => rfl
  have m_h_lay_over : Meth K C "lay_over" f_h_lay_over := ⟨a_h_lay_over, i_h_lay_over, k_h_lay_over⟩
  have F_h_take := fun_mk (st := sHTake) l_h_take c_h_take k_h_take
  have b_h_take := F_h_take.binds (ps := ["self", "end"]) fun _ _ _ _ _ _ us hl => match us, hl with | [_, _], _ => rfl
  have m_h_take : Meth K C "take" f_h_take := ⟨a_h_take, i_h_take, k_h_take⟩
  have F_h_turn := fun_mk (st := sHTurn) l_h_turn c_h_turn k_h_turn
  have b_h_turn := F_h_turn.binds (ps := ["self"]) fun _ _ _ _ _ _ us hl => match us, hl with | [_], _ => rfl
  have m_h_turn : Meth K C "turn" f_h_turn := ⟨a_h_turn, i_h_turn, k_h_turn⟩
  have F_h_things := fun_mk (st := sHThings) l_h_things c_h_things k_h_things
  have b_h_things := F_h_things.binds (ps := ["self"]) fun _ _ _ _ _ _ us hl => match us, hl with | [_], _ => rfl
  have m_h_things : Meth K C "things" f_h_things := ⟨a_h_things, i_h_things, k_h_things⟩
  have F_h_steps_so_far := fun_mk (st := sHSteps) l_h_steps_so_far c_h_steps_so_far k_h_steps_so_far
  have b_h_steps_so_far := F_h_steps_so_far.binds (ps := ["self"]) fun _ _ _ _ _ _ us hl => match us, hl with | [_], _ => rfl
  have m_h_steps_so_far : Meth K C "steps_so_far" f_h_steps_so_far := ⟨a_h_steps_so_far, i_h_steps_so_far, k_h_steps_so_far⟩
  have F_h_halves := fun_mk (st := sHHalves) l_h_halves c_h_halves k_h_halves
  have b_h_halves := F_h_halves.binds (ps := ["self"]) fun _ _ _ _ _ _ us hl => match us, hl with | [_], _ => rfl
  have m_h_halves : Meth K C "halves" f_h_halves := ⟨a_h_halves, i_h_halves, k_h_halves⟩
  have F_h_purse := fun_mk (st := sHPurse) l_h_purse c_h_purse k_h_purse
  have b_h_purse := F_h_purse.binds (ps := ["self"]) fun _ _ _ _ _ _ us hl => match us, hl with | [_], _ => rfl
  have m_h_purse : Meth K C "purse" f_h_purse := ⟨a_h_purse, i_h_purse, k_h_purse⟩
  have F_v_init := fun_mk (st := sVI) l_v_init c_v_init k_v_init
  have b_v_init := F_v_init.binds (ps := ["self"]) fun _ _ _ _ _ _ us hl => match us, hl with | [_], _ => rfl
  have m_v_init : Meth K V "__init__" f_v_init := ⟨a_v_init, i_v_init, k_v_init⟩
  have M_v_init : Mk K V f_v_init := ⟨mkV, a_v_init, i_v_init, kcV⟩
  have F_v_move := fun_mk (st := sVMove) l_v_move c_v_move k_v_move
  have b_v_move := F_v_move.binds (ps := ["self"]) fun _ _ _ _ _ _ us hl => match us, hl with | [_], _ => rfl
  have m_v_move : Meth K V "move" f_v_move := ⟨a_v_move, i_v_move, k_v_move⟩
  have F_v_done := fun_mk (st := sVDone) l_v_done c_v_done k_v_done
  have b_v_done := F_v_done.binds (ps := ["self"]) fun _ _ _ _ _ _ us hl => match us, hl with | [_], _ => rfl
  have m_v_done : Meth K V "done" f_v_done := ⟨a_v_done, i_v_done, k_v_done⟩
  have F_v_check := fun_mk (st := sVCheck) l_v_check c_v_check k_v_check
  have b_v_check := F_v_check.binds (ps := ["self"]) fun _ _ _ _ _ _ us hl => match us, hl with | [_], _ => rfl
  have m_v_check : Meth K V "check" f_v_check := ⟨a_v_check, i_v_check, k_v_check⟩
  have F_v_put := fun_mk (st := sVPut) l_v_put c_v_put k_v_put
  have b_v_put := F_v_put.binds (ps := ["self", "thing"]) fun _ _ _ _ _ _ us hl => match us, hl with | [_, _], _ => rfl
  have m_v_put : Meth K V "put" f_v_put := ⟨a_v_put, i_v_put, k_v_put⟩
  have F_v_take := fun_mk (st := sVTake) l_v_take c_v_take k_v_take
  have b_v_take := F_v_take.binds (ps := ["self"]) fun _ _ _ _ _ _ us hl => match us, hl with | [_], _ => rfl
  have m_v_take : Meth K V "take" f_v_take := ⟨a_v_take, i_v_take, k_v_take⟩
  have F_v_first := fun_mk (st := sVFirst) l_v_first c_v_first k_v_first
  have b_v_first := F_v_first.binds (ps := ["self"]) fun _ _ _ _ _ _ us hl => match us, hl with | [_], _ => rfl
  have m_v_first : Meth K V "first" f_v_first := ⟨a_v_first, i_v_first, k_v_first⟩
  have F_v_things := fun_mk (st := sVThings) l_v_things c_v_things k_v_things
  have b_v_things := F_v_things.binds (ps := ["self"]) fun _ _ _ _ _ _ us hl => match us, hl with | [_], _ => rfl
  have m_v_things : Meth K V "things" f_v_things := ⟨a_v_things, i_v_things, k_v_things⟩
  have F_v_moved_last := fun_mk (st := sVMoved) l_v_moved_last c_v_moved_last k_v_moved_last
  have b_v_moved_last := F_v_moved_last.binds (ps := ["self"]) fun _ _ _ _ _ _ us hl => match us, hl with | [_], _ => rfl
  have m_v_moved_last : Meth K V "moved_last" f_v_moved_last := ⟨a_v_moved_last, i_v_moved_last, k_v_moved_last⟩
  have F_d_asked_thing := fun_mk (st := sThing) l_d_asked_thing c_d_asked_thing k_d_asked_thing
  have b_d_asked_thing := F_d_asked_thing.binds (ps := ["thing"]) fun _ _ _ _ _ _ us hl => match us, hl with | [_], _ => rfl
  have g_d_asked_thing := PySem.W.mg_of X G a_d_asked_thing
  have F_d_asked_end := fun_mk (st := sEnd) l_d_asked_end c_d_asked_end k_d_asked_end
  have b_d_asked_end := F_d_asked_end.binds (ps := ["end"]) fun _ _ _ _ _ _ us hl => match us, hl with | [_], _ => rfl
  have g_d_asked_end := PySem.W.mg_of X G a_d_asked_end
  have F_d_law_number := fun_mk (st := sNum) l_d_law_number c_d_law_number k_d_law_number
  have b_d_law_number := F_d_law_number.binds (ps := ["_law_cell", "_law_at", "_law_whole"]) fun _ _ _ _ _ _ us hl => match us, hl with | [_, _, _], _ => rfl
  have g_d_law_number := PySem.W.mg_of X G a_d_law_number
  have F_d_law_deeds := fun_mk (st := sDeeds) l_d_law_deeds c_d_law_deeds k_d_law_deeds
  have b_d_law_deeds := F_d_law_deeds.binds (ps := ["_law_script", "_law_by"]) fun _ _ _ _ _ _ us hl => match us, hl with | [_, _], _ => rfl
  have g_d_law_deeds := PySem.W.mg_of X G a_d_law_deeds
  have F_d_law_plain := fun_mk (st := sPlain) l_d_law_plain c_d_law_plain k_d_law_plain
  have b_d_law_plain := F_d_law_plain.binds (ps := ["_law_thing"]) fun _ _ _ _ _ _ us hl => match us, hl with | [_], _ => rfl
  have g_d_law_plain := PySem.W.mg_of X G a_d_law_plain
  have F_d_law_lines_right := fun_mk (st := sLines) l_d_law_lines_right c_d_law_lines_right k_d_law_lines_right
  have b_d_law_lines_right := F_d_law_lines_right.binds (ps := ["_law_deeds_here"]) fun _ _ _ _ _ _ us hl => match us, hl with | [_], _ => rfl
  have g_d_law_lines_right := PySem.W.mg_of X G a_d_law_lines_right
  have F_d_law_is_empty := fun_mk (st := sIsE) l_d_law_is_empty c_d_law_is_empty k_d_law_is_empty
  have b_d_law_is_empty := F_d_law_is_empty.binds (ps := ["_law_ask"]) fun _ _ _ _ _ _ us hl => match us, hl with | [_], _ => rfl
  have g_d_law_is_empty := PySem.W.mg_of X G a_d_law_is_empty
  have F_d_law_even_promises := fun_mk (st := sEvenP) l_d_law_even_promises c_d_law_even_promises k_d_law_even_promises
  have b_d_law_even_promises := F_d_law_even_promises.binds (ps := []) fun _ _ _ _ _ _ us hl => match us, hl with | [], _ => rfl
  have g_d_law_even_promises := PySem.W.mg_of X G a_d_law_even_promises
  have F_d_law_promises_right := fun_mk (st := sProm) l_d_law_promises_right c_d_law_promises_right k_d_law_promises_right
  have b_d_law_promises_right := F_d_law_promises_right.binds (ps := []) fun _ _ _ _ _ _ us hl => match us, hl with | [], _ => rfl
  have g_d_law_promises_right := PySem.W.mg_of X G a_d_law_promises_right
  have F_d_law_turned_promises := fun_mk (st := sTurned) l_d_law_turned_promises c_d_law_turned_promises k_d_law_turned_promises
  have b_d_law_turned_promises := F_d_law_turned_promises.binds (ps := []) fun _ _ _ _ _ _ us hl => match us, hl with | [], _ => rfl
  have g_d_law_turned_promises := PySem.W.mg_of X G a_d_law_turned_promises
  have F_d_law := fun_mk (st := sLaw) l_d_law c_d_law k_d_law
  have b_d_law := F_d_law.binds (ps := ["_law_script"]) fun _ _ _ _ _ _ us hl => match us, hl with | [_], _ => rfl
  have g_d_law := PySem.W.mg_of X G a_d_law
  have B : BTxt mg := ⟨m_isinstance, m_int, m_bool, m_str, m_len, m_abs⟩
  have T : HTxt K mg C CT CE CM aE := ⟨clC, nC_front, nC_back, nC_steps, gC, TCT, TCE, TCM, B, gENDS, tENDS⟩
  have TV : VTxt K mg V CT CM := ⟨clV, fun x => match x with | .front => nV_front | .back => nV_back | .waiting => nV_waiting | .turned => nV_turned | .spare => nV_spare, fun x => match x with | .top => nV_top | .left => nV_left | .reading => nV_reading | .good => nV_good | .last => nV_last, nV_state, gV, TCT, TCM, B⟩
  have IS : EIs K CL CT CE CM := ⟨ICT, ICE, ICM, PySem.W.exm_ref bCL edCL tCL sTL, PySem.W.exm_ref bCL edCL tCL sEL, PySem.W.exm_ref bCL edCL tCL sML, kit_ref edCT tCT sMM sMT, kit_ref edCE tCE sMM sME, kit_ref edCM tCM sMM sMM, kit_ref edCT tCT sTT sTT, kit_ref edCE tCE sTT sTE, kit_ref edCM tCM sTT sTM, kit_ref edCT tCT sEE sET, kit_ref edCE tCE sEE sEE, kit_ref edCM tCM sEE sEM⟩
  have DT : DTxt mg := ⟨m_abs, m_sum, m_enumerate, m_int⟩
  have PX : PTxt K mg CL CT CE CM := ⟨gCL, IS, m_list, m_tuple, m_all, m_range⟩
  have hTs : ∀ p ∈ [(cc_d_law_promises_right, pt_d_law_promises_right), (cc_d_law_turned_promises, pt_d_law_turned_promises), (cc_d_law_even_promises, pt_d_law_even_promises)], h.get? p.2 = some { cls := .none, data := .fields #[] } := by
    intro p hp
    simp only [List.mem_cons, List.not_mem_nil, or_false] at hp
    rcases hp with rfl | rfl | rfl
    · exact (TO "_law_promises_right" (by simp) _ _ t_d_law_promises_right).2
    · exact (TO "_law_turned_promises" (by simp) _ _ t_d_law_turned_promises).2
    · exact (TO "_law_even_promises" (by simp) _ _ t_d_law_even_promises).2
  have hNs : ∀ p ∈ [(cc_d_law_promises_right, pt_d_law_promises_right), (cc_d_law_turned_promises, pt_d_law_turned_promises), (cc_d_law_even_promises, pt_d_law_even_promises)], K.lookup p.2 = none := by
    intro p hp
    simp only [List.mem_cons, List.not_mem_nil, or_false] at hp
    rcases hp with rfl | rfl | rfl
    · exact n_d_law_promises_right
    · exact n_d_law_turned_promises
    · exact n_d_law_even_promises
  have hCs : ∀ p ∈ [(cc_d_law_promises_right, pt_d_law_promises_right), (cc_d_law_turned_promises, pt_d_law_turned_promises), (cc_d_law_even_promises, pt_d_law_even_promises)], PySem.W.CodeHd h p.1 p.2 := by
    intro p hp
    simp only [List.mem_cons, List.not_mem_nil, or_false] at hp
    rcases hp with rfl | rfl | rfl
    · exact (TO "_law_promises_right" (by simp) _ _ t_d_law_promises_right).1
    · exact (TO "_law_turned_promises" (by simp) _ _ t_d_law_turned_promises).1
    · exact (TO "_law_even_promises" (by simp) _ _ t_d_law_even_promises).1
  refine ⟨PySem.W.fnOf "law" "law" (defArgs sLaw) (defBody sLaw) (defScope sLaw) .none kV_d_law dc_d_law pm_d_law an_d_law cd_d_law ct_d_law, [(cc_d_law_promises_right, pt_d_law_promises_right), (cc_d_law_turned_promises, pt_d_law_turned_promises), (cc_d_law_even_promises, pt_d_law_even_promises)], (spLaw K pt_d_law_promises_right pt_d_law_turned_promises pt_d_law_even_promises), hTs, hNs, hCs, fun s v => .of_eq rfl, fun H a ns hl hb hP hS => ⟨a, ns, rfl, hS, hl, hb, LamX.TabS.nil (hP (cc_d_law_promises_right, pt_d_law_promises_right) (by simp)), LamX.TabS.nil (hP (cc_d_law_turned_promises, pt_d_law_turned_promises) (by simp)), LamX.TabS.nil (hP (cc_d_law_even_promises, pt_d_law_even_promises) (by simp)), fun _ => rfl⟩, fun base _ _ TB => ?_⟩
  have TB_d_law_promises_right : LamX.TabB base mg cc_d_law_promises_right pt_d_law_promises_right := TB (cc_d_law_promises_right, pt_d_law_promises_right) (by simp)
  have TB_d_law_turned_promises : LamX.TabB base mg cc_d_law_turned_promises pt_d_law_turned_promises := TB (cc_d_law_turned_promises, pt_d_law_turned_promises) (by simp)
  have TB_d_law_even_promises : LamX.TabB base mg cc_d_law_even_promises pt_d_law_even_promises := TB (cc_d_law_even_promises, pt_d_law_even_promises) (by simp)
  have GI : InitOk P w K mg base C (spInitH C) := ⟨_, _, M_h_init, b_h_init, ok_hi F_h_init T⟩
  have GP : MethOk P w K mg base (L2N.CX P w) 2 C "put" ["self", "end", "thing"] (spPutH K C CT CE) := ⟨_, _, m_h_put, b_h_put, ok_hput F_h_put T F_d_asked_thing b_d_asked_thing g_d_asked_thing F_d_asked_end b_d_asked_end g_d_asked_end⟩
  have GT : MethOk P w K mg base (L2N.CX P w) 2 C "take" ["self", "end"] (spTakeH K C CE CM) := ⟨_, _, m_h_take, b_h_take, ok_htake F_h_take T F_d_asked_end b_d_asked_end g_d_asked_end F_h_lay_over b_h_lay_over m_h_lay_over⟩
  have GS : MethOk P w K mg base CX0 1 C "things" ["self"] (spThingsH C) := ⟨_, _, m_h_things, b_h_things, ok_hthings F_h_things T⟩
  have GN : MethOk P w K mg base CX0 1 C "steps_so_far" ["self"] (spStepsH C) := ⟨_, _, m_h_steps_so_far, b_h_steps_so_far, ok_hsteps F_h_steps_so_far T⟩
  have GH : MethOk P w K mg base CX0 1 C "halves" ["self"] (spHalvesH C) := ⟨_, _, m_h_halves, b_h_halves, ok_hhalves F_h_halves T⟩
  have GU : MethOk P w K mg base CX0 1 C "purse" ["self"] (spPurseH C) := ⟨_, _, m_h_purse, b_h_purse, ok_hpurse F_h_purse T⟩
  have GR : MethOk P w K mg base CX0 1 C "turn" ["self"] (spTurnH C) := ⟨_, _, m_h_turn, b_h_turn, ok_hturn F_h_turn T⟩
  have GD : DefOk P w K mg base CX0 2 "_law_deeds" ["_law_script", "_law_by"] (spDeeds K) := ⟨_, _, g_d_law_deeds, k_d_law_deeds, b_d_law_deeds, ok_deeds F_d_law_deeds DT F_d_law_number b_d_law_number g_d_law_number⟩
  have EI : InitOk P w K mg base V (spInitE V) := ⟨_, _, M_v_init, b_v_init, ok_vi F_v_init TV⟩
  have EC : FnOk P w K mg base CX0 3 f_v_check _ ["self"] (spCheck V) := ok_vcheck F_v_check TV F_v_done b_v_done m_v_done F_v_move b_v_move m_v_move
  have EP : MethOk P w K mg base (L2N.CX P w) 4 V "put" ["self", "thing"] (spPutE K V CT) := ⟨_, _, m_v_put, b_v_put, ok_vput F_v_put TV F_d_asked_thing b_d_asked_thing g_d_asked_thing EC b_v_check m_v_check⟩
  have ET : MethOk P w K mg base (L2N.CX P w) 4 V "take" ["self"] (spTakeE V CM) := ⟨_, _, m_v_take, b_v_take, ok_vtake F_v_take TV EC b_v_check m_v_check⟩
  have EF : MethOk P w K mg base (L2N.CX P w) 1 V "first" ["self"] (spFirstE V CM) := ⟨_, _, m_v_first, b_v_first, ok_vfirst F_v_first TV⟩
  have ES : MethOk P w K mg base CX0 1 V "things" ["self"] (spThingsE V) := ⟨_, _, m_v_things, b_v_things, ok_vthings F_v_things TV⟩
  have EV : MethOk P w K mg base CX0 1 V "moved_last" ["self"] (spMovedE V) := ⟨_, _, m_v_moved_last, b_v_moved_last, ok_vmoved F_v_moved_last TV⟩
  have GL : DefOk P w K mg base CX0 3 "_law_plain" ["_law_thing"] (spPl K 2) := ⟨_, _, g_d_law_plain, k_d_law_plain, b_d_law_plain, ok_plain F_d_law_plain T PX g_d_law_plain k_d_law_plain b_d_law_plain 2⟩
  have GB : DefOk P w K mg base CX0 5 "_law_lines_right" ["_law_deeds_here"] (spLines K) := ⟨_, _, g_d_law_lines_right, k_d_law_lines_right, b_d_law_lines_right, ok_lines F_d_law_lines_right T TV PX (PySem.W.exm_ref bCM edCM tCM sMM) GI GP GT m_h_things b_h_things (ok_hthingsH F_h_things T) m_v_things b_v_things GN GH GU EI EP ET EF EV GL⟩
  have FE : FnS P w K mg base CX0 6 f_d_law_is_empty _ ["_law_ask"] (spIsE P w K mg base CM 5) := ok_isE F_d_law_is_empty T PX
  have G3 : DefOk P w K mg base CX0 7 "_law_even_promises" [] (spTabs pt_d_law_even_promises (qOf "_law_even_promises") []) := ⟨_, _, g_d_law_even_promises, k_d_law_even_promises, b_d_law_even_promises, ok_evenP l_d_law_even_promises c_d_law_even_promises TB_d_law_even_promises TV PX EI EP ET EF ES EV FE g_d_law_is_empty k_d_law_is_empty b_d_law_is_empty⟩
  have G2 : DefOk P w K mg base CX0 8 "_law_turned_promises" [] (spTabs pt_d_law_turned_promises (qOf "_law_turned_promises") [(pt_d_law_even_promises, qOf "_law_even_promises")]) := ⟨_, _, g_d_law_turned_promises, k_d_law_turned_promises, b_d_law_turned_promises, ok_turned l_d_law_turned_promises c_d_law_turned_promises TB_d_law_turned_promises T GI GP GT GS GN GH GU GR FE g_d_law_is_empty k_d_law_is_empty b_d_law_is_empty G3⟩
  have G1 : DefOk P w K mg base CX0 9 "_law_promises_right" [] (spTabs pt_d_law_promises_right (qOf "_law_promises_right") [(pt_d_law_turned_promises, qOf "_law_turned_promises"), (pt_d_law_even_promises, qOf "_law_even_promises")]) := ⟨_, _, g_d_law_promises_right, k_d_law_promises_right, b_d_law_promises_right, ok_prom l_d_law_promises_right c_d_law_promises_right TB_d_law_promises_right T PX n32 GI GP GT GS GN GH GU FE g_d_law_is_empty k_d_law_is_empty b_d_law_is_empty G2⟩
  exact ok_law F_d_law T PX n21 n31 GI GP GS GN GH GU GR GD GL GB G1
theorem walk {l : PySem.W.OpenLaw} {q : Program} {loose : List Str} {XP : (Str → Option Value) → Heap → Prop} {YP : World → Heap → Prop} {d : DefRec} {K : Params → PySem.W.Frag} (hn : l.most = some 63) (hdf : d.params.defaults = []) (hrec : ((["_law_promises_right", "_law_turned_promises", "_law_even_promises"] : List Str).all fun x => (recsOf q).any fun e => e.name == x) = true)
    (hY : ∀ (w : World) (h : Heap), YP w h → (K w.params).In h)
    (F : ∀ (w : World) (mg : Str → Option Value) (fa : Addr) (h : Heap), (K w.params).In h → h.Ns mainGlobals mg → mg d.name = some (.ref fa) → TabsOf (K w.params) ["_law_promises_right", "_law_turned_promises", "_law_even_promises"] h → LamX.LawAtS l w (K w.params) L2.CX0 10 63 "_law_script" mg fa h) :
    PySem.W.WalkO q loose XP YP l.row.toRowW d [] (fun f vs => PySem.call f vs) :=
  walk_tabs (n := 63) (k := 10) (x := "_law_script") hn (by decide) hdf ⟨rfl, by decide, by decide⟩ hrec hY F
end Hf
open PySem PySem.W PyProof.Rows
set_option maxRecDepth 100000 in
set_option maxHeartbeats 0 in
theorem PySem.Challenge.cw_halfline_k08_whole_numbers_holds : PySem.Challenge.rw_halfline_k08_whole_numbers.Holds := by
  w_on; o_law; k_head; (case hw => w_witness2)
  k_fill
  refine Hf.walk (l := PySem.Challenge.rw_halfline_k08_whole_numbers) rfl rfl (by first | rfl | decide +kernel) (fun w h Y => PySem.W.km_in_of Y) ?F
  case F =>
    intro w mg fa h KX G hmg TO
    refine' Hf.all_mk KX G hmg ?aC ?aV ?aCL ?aCT ?aCE ?aCM ?aENDS ?lENDS ?a_h_init ?i_h_init ?l_h_init ?c_h_init ?k_h_init ?a_h_put ?i_h_put ?l_h_put ?c_h_put ?k_h_put ?a_h_lay_over ?i_h_lay_over ?l_h_lay_over ?c_h_lay_over ?k_h_lay_over ?a_h_take ?i_h_take ?l_h_take ?c_h_take ?k_h_take ?a_h_turn ?i_h_turn ?l_h_turn ?c_h_turn ?k_h_turn ?a_h_things ?i_h_things ?l_h_things ?c_h_things ?k_h_things ?a_h_steps_so_far ?i_h_steps_so_far ?l_h_steps_so_far ?c_h_steps_so_far ?k_h_steps_so_far ?a_h_halves ?i_h_halves ?l_h_halves ?c_h_halves ?k_h_halves ?a_h_purse ?i_h_purse ?l_h_purse ?c_h_purse ?k_h_purse ?a_v_init ?i_v_init ?l_v_init ?c_v_init ?k_v_init ?a_v_move ?i_v_move ?l_v_move ?c_v_move ?k_v_move ?a_v_done ?i_v_done ?l_v_done ?c_v_done ?k_v_done ?a_v_check ?i_v_check ?l_v_check ?c_v_check ?k_v_check ?a_v_put ?i_v_put ?l_v_put ?c_v_put ?k_v_put ?a_v_take ?i_v_take ?l_v_take ?c_v_take ?k_v_take ?a_v_first ?i_v_first ?l_v_first ?c_v_first ?k_v_first ?a_v_things ?i_v_things ?l_v_things ?c_v_things ?k_v_things ?a_v_moved_last ?i_v_moved_last ?l_v_moved_last ?c_v_moved_last ?k_v_moved_last ?a_d_asked_thing ?l_d_asked_thing ?c_d_asked_thing ?k_d_asked_thing ?a_d_asked_end ?l_d_asked_end ?c_d_asked_end ?k_d_asked_end ?a_d_law_number ?l_d_law_number ?c_d_law_number ?k_d_law_number ?a_d_law_deeds ?l_d_law_deeds ?c_d_law_deeds ?k_d_law_deeds ?a_d_law_plain ?l_d_law_plain ?c_d_law_plain ?k_d_law_plain ?a_d_law_lines_right ?l_d_law_lines_right ?c_d_law_lines_right ?k_d_law_lines_right ?a_d_law_is_empty ?l_d_law_is_empty ?c_d_law_is_empty ?k_d_law_is_empty ?a_d_law_even_promises ?l_d_law_even_promises ?c_d_law_even_promises ?lc_d_law_even_promises ?e_d_law_even_promises ?n_d_law_even_promises ?k_d_law_even_promises ?a_d_law_promises_right ?l_d_law_promises_right ?c_d_law_promises_right ?lc_d_law_promises_right ?e_d_law_promises_right ?n_d_law_promises_right ?k_d_law_promises_right ?a_d_law_turned_promises ?l_d_law_turned_promises ?c_d_law_turned_promises ?lc_d_law_turned_promises ?e_d_law_turned_promises ?n_d_law_turned_promises ?k_d_law_turned_promises ?a_d_law ?l_d_law ?c_d_law ?k_d_law ?pgC ?hdC ?poC ?saC ?mkC ?kcC ?nC_front ?nC_back ?nC_steps ?pgV ?hdV ?poV ?saV ?mkV ?kcV ?nV_front ?nV_top ?nV_back ?nV_waiting ?nV_left ?nV_turned ?nV_spare ?nV_reading ?nV_good ?nV_state ?nV_last ?gsp ?gtk ?xCT ?kCT ?bCT ?tCT ?egCT ?ekCT ?edCT ?eaCT ?emCT ?xCE ?kCE ?bCE ?tCE ?egCE ?ekCE ?edCE ?eaCE ?emCE ?xCM ?kCM ?bCM ?tCM ?egCM ?ekCM ?edCM ?eaCM ?emCM ?edCL ?tCL ?bCL ?sTL ?sEL ?sML ?sTT ?sTE ?sTM ?sET ?sEE ?sEM ?sMT ?sME ?sMM ?n21 ?n31 ?n32 ?z_isinstance ?z_int ?z_bool ?z_str ?z_len ?z_abs ?z_range ?z_list ?z_tuple ?z_all ?z_sum ?z_enumerate TO
    (case aC => k_is)
    (case aV => k_is)
    (case aCL => k_is)
    (case aCT => k_is)
    (case aCE => k_is)
    (case aCM => k_is)
    (case aENDS => k_is)
    (case lENDS => k_is)
    (case a_h_init => k_is)
    (case i_h_init => k_is)
    (case l_h_init => k_is)
    (case c_h_init => k_is)
    (case k_h_init => k_is)
    (case a_h_put => k_is)
    (case i_h_put => k_is)
    (case l_h_put => k_is)
    (case c_h_put => k_is)
    (case k_h_put => k_is)
    (case a_h_lay_over => k_is)
    (case i_h_lay_over => k_is)
    (case l_h_lay_over => k_is)
    (case c_h_lay_over => k_is)
    (case k_h_lay_over => k_is)
    (case a_h_take => k_is)
    (case i_h_take => k_is)
    (case l_h_take => k_is)
    (case c_h_take => k_is)
    (case k_h_take => k_is)
    (case a_h_turn => k_is)
    (case i_h_turn => k_is)
    (case l_h_turn => k_is)
    (case c_h_turn => k_is)
    (case k_h_turn => k_is)
    (case a_h_things => k_is)
    (case i_h_things => k_is)
    (case l_h_things => k_is)
    (case c_h_things => k_is)
    (case k_h_things => k_is)
    (case a_h_steps_so_far => k_is)
    (case i_h_steps_so_far => k_is)
    (case l_h_steps_so_far => k_is)
    (case c_h_steps_so_far => k_is)
    (case k_h_steps_so_far => k_is)
    (case a_h_halves => k_is)
    (case i_h_halves => k_is)
    (case l_h_halves => k_is)
    (case c_h_halves => k_is)
    (case k_h_halves => k_is)
    (case a_h_purse => k_is)
    (case i_h_purse => k_is)
    (case l_h_purse => k_is)
    (case c_h_purse => k_is)
    (case k_h_purse => k_is)
    (case a_v_init => k_is)
    (case i_v_init => k_is)
    (case l_v_init => k_is)
    (case c_v_init => k_is)
    (case k_v_init => k_is)
    (case a_v_move => k_is)
    (case i_v_move => k_is)
    (case l_v_move => k_is)
    (case c_v_move => k_is)
    (case k_v_move => k_is)
    (case a_v_done => k_is)
    (case i_v_done => k_is)
    (case l_v_done => k_is)
    (case c_v_done => k_is)
    (case k_v_done => k_is)
    (case a_v_check => k_is)
    (case i_v_check => k_is)
    (case l_v_check => k_is)
    (case c_v_check => k_is)
    (case k_v_check => k_is)
    (case a_v_put => k_is)
    (case i_v_put => k_is)
    (case l_v_put => k_is)
    (case c_v_put => k_is)
    (case k_v_put => k_is)
    (case a_v_take => k_is)
    (case i_v_take => k_is)
    (case l_v_take => k_is)
    (case c_v_take => k_is)
    (case k_v_take => k_is)
    (case a_v_first => k_is)
    (case i_v_first => k_is)
    (case l_v_first => k_is)
    (case c_v_first => k_is)
    (case k_v_first => k_is)
    (case a_v_things => k_is)
    (case i_v_things => k_is)
    (case l_v_things => k_is)
    (case c_v_things => k_is)
    (case k_v_things => k_is)
    (case a_v_moved_last => k_is)
    (case i_v_moved_last => k_is)
    (case l_v_moved_last => k_is)
    (case c_v_moved_last => k_is)
    (case k_v_moved_last => k_is)
    (case a_d_asked_thing => k_is)
    (case l_d_asked_thing => k_is)
    (case c_d_asked_thing => k_is)
    (case k_d_asked_thing => k_is)
    (case a_d_asked_end => k_is)
    (case l_d_asked_end => k_is)
    (case c_d_asked_end => k_is)
    (case k_d_asked_end => k_is)
    (case a_d_law_number => k_is)
    (case l_d_law_number => k_is)
    (case c_d_law_number => k_is)
    (case k_d_law_number => k_is)
    (case a_d_law_deeds => k_is)
    (case l_d_law_deeds => k_is)
    (case c_d_law_deeds => k_is)
    (case k_d_law_deeds => k_is)
    (case a_d_law_plain => k_is)
    (case l_d_law_plain => k_is)
    (case c_d_law_plain => k_is)
    (case k_d_law_plain => k_is)
    (case a_d_law_lines_right => k_is)
    (case l_d_law_lines_right => k_is)
    (case c_d_law_lines_right => k_is)
    (case k_d_law_lines_right => k_is)
    (case a_d_law_is_empty => k_is)
    (case l_d_law_is_empty => k_is)
    (case c_d_law_is_empty => k_is)
    (case k_d_law_is_empty => k_is)
    (case a_d_law_even_promises => k_is)
    (case l_d_law_even_promises => k_is)
    (case c_d_law_even_promises => k_is)
    (case lc_d_law_even_promises => k_is)
    (case e_d_law_even_promises => exact rfl)
    (case n_d_law_even_promises => exact rfl)
    (case k_d_law_even_promises => k_is)
    (case a_d_law_promises_right => k_is)
    (case l_d_law_promises_right => k_is)
    (case c_d_law_promises_right => k_is)
    (case lc_d_law_promises_right => k_is)
    (case e_d_law_promises_right => exact rfl)
    (case n_d_law_promises_right => exact rfl)
    (case k_d_law_promises_right => k_is)
    (case a_d_law_turned_promises => k_is)
    (case l_d_law_turned_promises => k_is)
    (case c_d_law_turned_promises => k_is)
    (case lc_d_law_turned_promises => k_is)
    (case e_d_law_turned_promises => exact rfl)
    (case n_d_law_turned_promises => exact rfl)
    (case k_d_law_turned_promises => k_is)
    (case a_d_law => k_is)
    (case l_d_law => k_is)
    (case c_d_law => k_is)
    (case k_d_law => k_is)
    (case pgC => k_is)
    (case hdC => k_is)
    (case poC => k_is)
    (case saC => k_is)
    (case mkC => k_is)
    (case kcC => k_is)
    (case nC_front => k_is)
    (case nC_back => k_is)
    (case nC_steps => k_is)
    (case pgV => k_is)
    (case hdV => k_is)
    (case poV => k_is)
    (case saV => k_is)
    (case mkV => k_is)
    (case kcV => k_is)
    (case nV_front => k_is)
    (case nV_top => k_is)
    (case nV_back => k_is)
    (case nV_waiting => k_is)
    (case nV_left => k_is)
    (case nV_turned => k_is)
    (case nV_spare => k_is)
    (case nV_reading => k_is)
    (case nV_good => k_is)
    (case nV_state => k_is)
    (case nV_last => k_is)
    (case gsp => k_is)
    (case gtk => k_is)
    (case xCT => k_exc)
    (case kCT => k_is)
    (case bCT => k_is)
    (case tCT => k_is)
    (case egCT => k_is)
    (case ekCT => k_is)
    (case edCT => k_is)
    (case eaCT => k_is)
    (case emCT => k_is)
    (case xCE => k_exc)
    (case kCE => k_is)
    (case bCE => k_is)
    (case tCE => k_is)
    (case egCE => k_is)
    (case ekCE => k_is)
    (case edCE => k_is)
    (case eaCE => k_is)
    (case emCE => k_is)
    (case xCM => k_exc)
    (case kCM => k_is)
    (case bCM => k_is)
    (case tCM => k_is)
    (case egCM => k_is)
    (case ekCM => k_is)
    (case edCM => k_is)
    (case eaCM => k_is)
    (case emCM => k_is)
    (case edCL => k_is)
    (case tCL => k_is)
    (case bCL => k_is)
    (case sTL => k_is)
    (case sEL => k_is)
    (case sML => k_is)
    (case sTT => first | rfl | k_is)
    (case sTE => k_is)
    (case sTM => k_is)
    (case sET => k_is)
    (case sEE => first | rfl | k_is)
    (case sEM => k_is)
    (case sMT => k_is)
    (case sME => k_is)
    (case sMM => first | rfl | k_is)
    (case n21 => decide)
    (case n31 => decide)
    (case n32 => decide)
    (case z_isinstance => k_is)
    (case z_int => k_is)
    (case z_bool => k_is)
    (case z_str => k_is)
    (case z_len => k_is)
    (case z_abs => k_is)
    (case z_range => k_is)
    (case z_list => k_is)
    (case z_tuple => k_is)
    (case z_all => k_is)
    (case z_sum => k_is)
    (case z_enumerate => k_is)
#print axioms PySem.Challenge.cw_halfline_k08_whole_numbers_holds
