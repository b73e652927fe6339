import PyProof.Rows.All
import Wide.All
import OpenK.AllK
import Wide.FinOn
import KE.GoesEnum
import HandS.ForMost
import HandS.Walk
import HandS.Wide
import HandS.TupAny
import HandS.Defaults
import HandS.IsInst
import HandS.Words
import HandS.WordsList
import HandS.HeadEnd
import HandS.HeadHook1
import HandS.HeadHook2
import HandS.Exc
import HandS.TryOnly
import HandS.WordsExc
import HandS.Steps
import HandS.Style
import HandS.Flow
import HandS.Strs
import HandS.Deep
import HandS.Conv
import HandS.Dict
import HandS.Text
import HandS.Ends
import HandS.Set
import HandS.SetFor
import PyProof.Rows.SortShellAny
import PyProof.Rows.SetFrom
import KE.SortKeyHeap
import HandS.SortKw
import HandS.NamedTup0
import HandS.NamedTupGet
import PyProof.ListStr
import HandS.DictComp
import HandS.Property
import HandS.Star
import HandS.More
import HandS.ExcInit
import HandS.ExcField
import KE.KExcInit
import PyProof.ExcBaseAll.ValueError
import PyProof.ExcBaseAll.LookupError
import PyProof.ExcBaseAll.IndexError
import HandS.NoneIn
import HandS.Iter
import HandS.OwnEq
import HandS.FStr
import HandS.SlotsOwn
import PyProof.InstSpecial
import HandS.ExcOwn
import HandS.TryMany
import KE.KOpsOwn
import HandS.StrMore
import KE.DataMinMax
import ObjForm.LawKit
import PyProof.Rows.StrCut
import PySem.Challenge.RW_newesttells_k31_standing_counts_of_windo
import KE.KStateDown
import Lean
import HandS.Head0
import HandS.Head1
import HandS.Head2
set_option Elab.async false
set_option linter.all false
set_option maxRecDepth 100000
set_option maxHeartbeats 8000000
namespace Nt
open PySem PySem.Spec PyProof.Rows L2
/-! ### what may be walked beside another one -/
inductive Src where
  | lst (a : Addr)
  | tup (a : Addr)
  | txt (z : Str)
def Src.v : Src → V
  | .lst a => .ref a
  | .tup a => .ref a
  | .txt z => .str z
def signs (z : Str) : List V := z.cps.toList.map fun c => .str ⟨#[c]⟩
def Src.has (K : PySem.W.Frag) (H : Hp) : Src → List V → Prop
  | .lst a, xs => SqL K H a xs
  | .tup a, xs => SqT K H a xs
  | .txt z, xs => xs = signs z
def Src.far (c : Addr) : Src → Prop
  | .lst a => a ≠ c
  | .tup a => a ≠ c
  | .txt _ => True
def Src.at_ (it : Addr) (i : Nat) (h : Heap) : Src → Prop
  | .lst a => h.IsListIter it a i
  | .tup a => h.IsTupleIter it a i
  | .txt z => ∃ t, h.IsStrIter it (strIterType z) z t i
def Src.fp (it : Addr) : Src → List Addr
  | .lst a => [it, a]
  | .tup a => [it, a]
  | .txt _ => [it]
theorem Src.mem_fp {it : Addr} : ∀ s : Src, it ∈ s.fp it
  | .lst _ => by simp [Src.fp]
  | .tup _ => by simp [Src.fp]
  | .txt _ => by simp [Src.fp]
theorem Src.not_fp {it c : Addr} (hi : c ≠ it) : ∀ s : Src, s.far c → c ∉ s.fp it
  | .lst _, h => by simp [Src.fp]; exact ⟨hi, fun e => h e.symm⟩
  | .tup _, h => by simp [Src.fp]; exact ⟨hi, fun e => h e.symm⟩
  | .txt _, _ => by simp [Src.fp]; exact hi
theorem Src.at_obj {it : Addr} {i : Nat} {h : Heap} : ∀ s : Src, s.at_ it i h → ∃ o, h.get? it = some o ∧ ∀ v, o.data ≠ .cell v
  | .lst _, ⟨o, e, _, d⟩ => ⟨o, e, fun v q => by rw [d] at q; cases q⟩
  | .tup _, ⟨o, e, _, d⟩ => ⟨o, e, fun v q => by rw [d] at q; cases q⟩
  | .txt _, ⟨_, o, e, _, d⟩ => ⟨o, e, fun v q => by rw [d] at q; cases q⟩
theorem Src.at_keep {it : Addr} {i : Nat} {h h' : Heap} (k : ∀ o, h.get? it = some o → h'.get? it = some o) : ∀ s : Src, s.at_ it i h → s.at_ it i h'
  | .lst _, x => Heap.IsListIter.at x k
  | .tup _, x => Heap.IsTupleIter.at x k
  | .txt _, ⟨t, o, e, r⟩ => ⟨t, o, k o e, r⟩
variable {X : Cx} {pins : List (Addr × Obj)} {σ : L2.St} {H : Hp} {s : Shared}
/-- what such a thing draws at a turn -/
structure Drawn (X : Cx) (s : Shared) (S : Src) (it : Addr) (i : Nat) (xs : List V) (P : Nat → Value → Prop) (T : Nat → Heap → Prop) : Prop where
  dr : ∀ A : Around, A.handled = none → Draws X.prog X.w A it (S.fp it) xs.length P T
  here : T i s.heap
  rel : ∀ j u, P j u → ∃ x, xs[j]? = some x ∧ RelV x u
  to : ∀ j h, T j h → S.at_ it j h
theorem drawn (I : Inv X pins σ H s) {S : Src} {it : Addr} {i : Nat} {xs : List V} (hs : S.has X.K H xs) (hf : S.far it) (ha : S.at_ it i s.heap) :
    ∃ P T, Drawn X s S it i xs P T := by
  cases S with
  | lst a =>
    obtain ⟨its, rv, p, hz⟩ := I.list hs
    have el : its.toArray.size = xs.length := by rw [List.size_toArray]; exact rv.length.symm
    refine ⟨fun i v => its.toArray[i]? = some v, fun i h => h.IsListIter it a i ∧ h.IsList a its.toArray, ⟨fun A hA => ?_, ⟨ha, p.isList⟩, fun j u e => ?_, fun j h z => z.1⟩⟩
    · rw [← el]
      exact Draws.list hA it a hf its.toArray
    · have e2 : its[j]? = some u := by simpa using e
      have hj : j < xs.length := by
        have := (List.getElem?_eq_some_iff.mp e2).1
        have := rv.length
        omega
      obtain ⟨u', e3, r⟩ := rv.get (i := j) (x := xs[j]) (by simp [hj])
      rw [e2] at e3
      cases e3
      exact ⟨xs[j], by simp [hj], r⟩
  | tup a =>
    obtain ⟨its, rv, p, hz⟩ := I.tuple hs
    have el : its.toArray.size = xs.length := by rw [List.size_toArray]; exact rv.length.symm
    refine ⟨fun i v => its.toArray[i]? = some v, fun i h => h.IsTupleIter it a i ∧ h.IsTuple a its.toArray, ⟨fun A hA => ?_, ⟨ha, p⟩, fun j u e => ?_, fun j h z => z.1⟩⟩
    · rw [← el]
      exact Draws.tuple hA it a hf its.toArray
    · have e2 : its[j]? = some u := by simpa using e
      have hj : j < xs.length := by
        have := (List.getElem?_eq_some_iff.mp e2).1
        have := rv.length
        omega
      obtain ⟨u', e3, r⟩ := rv.get (i := j) (x := xs[j]) (by simp [hj])
      rw [e2] at e3
      cases e3
      exact ⟨xs[j], by simp [hj], r⟩
  | txt z =>
    obtain ⟨t, ha⟩ := ha
    have hs : xs = signs z := hs
    subst hs
    have el : z.cps.size = (signs z).length := by simp [signs]
    refine ⟨fun i v => ∃ c u, z.cps[i]? = some c ∧ v = .str ⟨#[c]⟩ u, fun i h => h.IsStrIter it (strIterType z) z t i, ⟨fun A hA => ?_, ha, fun j u e => ?_, fun j h y => ⟨t, y⟩⟩⟩
    · rw [← el]
      exact Draws.text hA it z t
    · obtain ⟨c, q, e1, e2⟩ := e
      subst e2
      refine ⟨.str ⟨#[c]⟩, ?_, ⟨_, rfl⟩⟩
      simp [signs, e1]

/-! ### zip of two -/
def ItZ (K : PySem.W.Frag) (S1 S2 : Src) : It where
  go := fun i H => ∃ xs ys : List V, S1.has K H xs ∧ S2.has K H ys ∧ i < xs.length ∧ i < ys.length
  yld := fun i H v H' => ∃ T x y, v = .ref T ∧ H T = none ∧ H' = upd H T (.tup [x, y]) ∧ (∀ xs, S1.has K H xs → xs[i]? = some x) ∧ ∀ ys, S2.has K H ys → ys[i]? = some y
  stop := fun i H => ∃ xs ys : List V, S1.has K H xs ∧ S2.has K H ys ∧ i = min xs.length ys.length
theorem has_inj (I : Inv X pins σ H s) {S : Src} {xs ys : List V} (h : S.has X.K H xs) (h' : S.has X.K H ys) : xs = ys := by
  cases S with
  | lst a => exact I.list_inj h h'
  | tup a => exact I.tuple_inj h h'
  | txt z => exact Eq.trans h (Eq.symm h')
structure ZS (z TI TO i1 i2 : Addr) (S1 S2 : Src) : Prop where
  n1 : TI ≠ z
  n2 : TO ≠ z
  n3 : TI ≠ TO
  n4 : TI ≠ i1
  n5 : TI ≠ i2
  n6 : z ≠ i1
  n7 : z ≠ i2
  n8 : TO ≠ i1
  n9 : TO ≠ i2
  n0 : i1 ≠ i2
  a1 : S1.far z
  a2 : S1.far TO
  a3 : S1.far i1
  a4 : S1.far i2
  b1 : S2.far z
  b2 : S2.far TO
  b3 : S2.far i1
  b4 : S2.far i2
theorem ZS.sep {z TI TO i1 i2 : Addr} {S1 S2 : Src} (D : ZS z TI TO i1 i2 S1 S2) : ZipSep2 z TI TO i1 i2 (S1.fp i1) (S2.fp i2) where
  TIz := D.n1
  TOz := D.n2
  TITO := D.n3
  TIi1 := D.n4
  mem1 := S1.mem_fp
  zf1 := S1.not_fp D.n6 D.a1
  Tf1 := S1.not_fp D.n8 D.a2
  TIi2 := D.n5
  mem2 := S2.mem_fp
  zf2 := S2.not_fp D.n7 D.b1
  Tf2 := S2.not_fp D.n9 D.b2
  sep1_2 := S2.not_fp D.n0 D.b3
  sep2_1 := S1.not_fp (fun e => D.n0 e.symm) D.a4
theorem five {α : Type} {c a1 a2 a3 a4 a5 : α} : c ∈ [a1, a2, a3, a4, a5] ↔ c = a1 ∨ c = a2 ∨ c = a3 ∨ c = a4 ∨ c = a5 := by simp
def ZSt (S1 S2 : Src) (z TI TO i1 i2 : Addr) (i : Nat) (h : Heap) : Prop :=
  IsZip h z TI TO .none ∧ IsTupOf2 h TI (.ref i1) (.ref i2) ∧ (∃ x y, IsTupOf2 h TO x y) ∧ S1.at_ i1 i h ∧ S2.at_ i2 i h
theorem turn_zipS {P : Program} {w : World} {K : PySem.W.Frag} {elts : List Expr} {kk : Nat} {tpos : Pos} {S1 S2 : Src} {z TI TO i1 i2 : Addr} (D : ZS z TI TO i1 i2 S1 S2) :
    Turn P w K (.Tuple elts kk tpos) (ItZ K S1 S2) [z, TI, TO, i1, i2] z (ZSt S1 S2 z TI TO i1 i2) where
  mem := by simp
  obj := fun i h st c hc => by
    obtain ⟨q1, q2, ⟨x, y, q3⟩, q4, q5⟩ := st
    rcases five.mp hc with rfl | rfl | rfl | rfl | rfl
    · exact ⟨_, q1, nofun⟩
    · exact ⟨_, q2, nofun⟩
    · exact ⟨_, q3, nofun⟩
    · exact S1.at_obj q4
    · exact S2.at_obj q5
  keep := fun i h h' st k => by
    obtain ⟨q1, q2, ⟨x, y, q3⟩, q4, q5⟩ := st
    exact ⟨k z (by simp) _ q1, k TI (by simp) _ q2, ⟨x, y, k TO (by simp) _ q3⟩, S1.at_keep (k i1 (by simp)) q4, S2.at_keep (k i2 (by simp)) q5⟩
  item := by
    intro X hP hw hK hc i pins s σ H E I hf st hg
    subst hP hw hK
    obtain ⟨q1, q2, ⟨x0, y0, q3⟩, q4, q5⟩ := st
    obtain ⟨xs, ys, g1, g2, l1, l2⟩ := hg
    obtain ⟨P1, T1, D1⟩ := drawn I g1 D.a3 q4
    obtain ⟨P2, T2, D2⟩ := drawn I g2 D.b4 q5
    have hh : X.A.in1.handled = none := I.ok.hd hc
    have hzl : z < s.heap.objs.size := Heap.lt_size q1
    refine wpAny_pyNext_zipD2_item D.sep (D1.dr _ hh) (D2.dr _ hh) q1 q2 q3 D1.here D2.here l1 l2 fun u1 u2 h' tk p1 p2 z' TO' t1 t2 hT hsz hk => ?_
    obtain ⟨x, hx, r1⟩ := D1.rel _ _ p1
    obtain ⟨y, hy, r2⟩ := D2.rel _ _ p2
    refine ⟨_, rfl, wpAny_letOwnedTupleGo_zip (s := { s with heap := h', toks := tk }) z' fun h'' z'' sb => ?_⟩
    have hT2 : IsTupOf2 h'' s.heap.objs.size u1 u2 := (sb.2 _ (Nat.ne_of_gt hzl)).trans hT
    have new : ObjOk X.prog X.w (upd H s.heap.objs.size (.tup [x, y])) h'' s.heap.objs.size (.tup [x, y]) := by
      refine ⟨(by show 2 ≤ sizeLine; decide), [u1, u2], .cons r1 (.cons r2 .nil), ?_⟩
      exact ⟨_, hT2, rfl, _, rfl⟩
    have lt : ∀ c ∈ [z, TI, TO, i1, i2], c < s.heap.objs.size := fun c hcm => by
      rcases five.mp hcm with rfl | rfl | rfl | rfl | rfl
      · exact hzl
      · exact Heap.lt_size q2
      · exact Heap.lt_size q3
      · obtain ⟨_, e, _⟩ := S1.at_obj q4; exact Heap.lt_size e
      · obtain ⟨_, e, _⟩ := S2.at_obj q5; exact Heap.lt_size e
    have I1 : Inv X pins σ (upd H s.heap.objs.size (.tup [x, y])) { s with heap := h'', toks := tk } :=
      I.turnedNew (t' := tk) (ch := [z, TI, TO, i1, i2]) (fun c o hb q => by
        have hb' := fun e => hb (five.mpr e)
        exact (sb.2 c fun e => hb' (.inl e)).trans (hk c o (fun e => hb' (.inl e)) (fun e => hb' (.inr (.inr (.inl e)))) (fun e => hb' (.inr (.inr (.inr (.inl e))))) (fun e => hb' (.inr (.inr (.inr (.inr e))))) q)) hf (Nat.le_refl _) new
    refine ⟨.ref s.heap.objs.size, _, I1, rfl, ⟨_, x, y, rfl, I.hok.fresh (Nat.le_refl _), rfl, fun l hl => ?_, fun l hl => ?_⟩, ⟨z'', ?_, ⟨u1, u2, ?_⟩, ?_, ?_⟩, fun c hcm => ?_⟩
    · rw [has_inj I hl g1]; exact hx
    · rw [has_inj I hl g2]; exact hy
    · exact (sb.2 _ D.n1).trans (hk _ _ D.n1 D.n3 D.n4 D.n5 q2)
    · exact (sb.2 _ D.n2).trans TO'
    · exact S1.at_keep (fun o q => (sb.2 _ fun e => D.n6 e.symm).trans q) (D1.to _ _ t1)
    · exact S2.at_keep (fun o q => (sb.2 _ fun e => D.n7 e.symm).trans q) (D2.to _ _ t2)
    · rw [upd_ne (Nat.ne_of_lt (lt c hcm))]
      exact (hf c hcm).1
  done := by
    intro X hP hw hK hc i pins s σ H E I hf st hg
    subst hP hw hK
    obtain ⟨q1, q2, ⟨x0, y0, q3⟩, q4, q5⟩ := st
    obtain ⟨xs, ys, g1, g2, he⟩ := hg
    obtain ⟨P1, T1, D1⟩ := drawn I g1 D.a3 q4
    obtain ⟨P2, T2, D2⟩ := drawn I g2 D.b4 q5
    have hh : X.A.in1.handled = none := I.ok.hd hc
    refine wpAny_pyNext_zipD2_end D.sep (D1.dr _ hh) (D2.dr _ hh) q1 q2 q3 D1.here D2.here (by omega) (by omega) (by omega) fun h' tk hk => ⟨rfl, ?_⟩
    refine I.turnedL (t' := tk) (ch := [z, TI, TO, i1, i2]) (fun c o hb q => ?_) hf
    have hb' := fun e => hb (five.mpr e)
    exact hk c o (fun e => hb' (.inl e)) (fun e => hb' (.inr (.inr (.inl e)))) (fun e => hb' (.inr (.inr (.inr (.inl e))))) (fun e => hb' (.inr (.inr (.inr (.inr e))))) q
  self := fun A i s Q E st h => wpAny_pyIter_zip st.1 h
/-- how such a thing begins -/
theorem src_begins (I : Inv X pins σ H s) {S : Src} {xs : List V} {u : Value} (hs : S.has X.K H xs) (r : RelV S.v u) :
    ∃ o G, Begins u o G ∧ G s.heap ∧ (∀ h it, h.get? it = some o → S.at_ it 0 h) ∧ ∀ c, s.heap.objs.size ≤ c → S.far c := by
  cases S with
  | lst a =>
    obtain ⟨its, rv, p, hz⟩ := I.list hs
    have e : u = .ref a := r
    subst e
    exact ⟨_, _, begins_list a its.toArray, p.isList, fun h it e => ⟨_, e, rfl, rfl⟩, fun c hc => Nat.ne_of_lt (Nat.lt_of_lt_of_le p.lt hc)⟩
  | tup a =>
    obtain ⟨its, rv, p, hz⟩ := I.tuple hs
    have e : u = .ref a := r
    subst e
    obtain ⟨o1, ho1, _⟩ := id p
    exact ⟨_, _, begins_tuple a its.toArray, p, fun h it e => ⟨_, e, rfl, rfl⟩, fun c hc => Nat.ne_of_lt (Nat.lt_of_lt_of_le (Heap.lt_size ho1) hc)⟩
  | txt z =>
    obtain ⟨t, rfl⟩ := r
    exact ⟨_, _, begins_text z t, trivial, fun h it e => ⟨t, _, e, rfl, rfl⟩, fun c hc => trivial⟩
def zipR (K : PySem.W.Frag) (R : It → Hp → Prop) : List V → Hp → Prop := fun vs H1 => ∃ S1 S2 xs ys, vs = [Src.v S1, Src.v S2] ∧ S1.has K H1 xs ∧ S2.has K H1 ys ∧ R (ItZ K S1 S2) H1
def iZipS (K : PySem.W.Frag) (ta : TA) : TI := fun σ H R => ta σ H (zipR K R)
theorem pi_zipS {X : Cx} {e e2 : Expr} {ta : TA} {p pos tpos : Pos} {elts : List Expr} {kk : Nat} (hg : Gl X "zip") (hm : X.mg "zip" = none) (ha : PA X [e, e2] ta)
    (hs : starEach [e, e2] X.env = (false, eval e X.env) :: starEach [e2] X.env := by rfl) (hpl : (backTo pos (starEach [e2] X.env)).any (·.1) = false := by rfl) :
    PI X (.Tuple elts kk tpos) (.Call (.Name "zip" p) [e, e2] [] pos) (iZipS X.K ta) := by
  refine ⟨fun pins s σ H R I h => ?_⟩
  refine Call_ (ld_blt I hg hm PyProof.Rows.boot_zip (PyProof.Rows.callWith_type1 (thn (ha.run pos pins s σ H _ I h) fun us s1 ⟨vs, H1, I1, r1, q1⟩ => ?_) hs hpl))
  obtain ⟨S1, S2, xs, ys, rfl, h1, h2, q⟩ := q1
  obtain ⟨u1, u2, rfl, r1, r2⟩ := vals2 r1
  obtain ⟨o1, G1, B1, b1, t1, f1⟩ := src_begins I1 h1 r1
  obtain ⟨o2, G2, B2, b2, t2, f2⟩ := src_begins I1 h2 r2
  refine zip_begins2 B1 B2 b1 b2 fun h' hz hTI hTO e1 e2 hsz hk => wpAny_pyIter_zip hz ?_
  generalize hN : s1.heap.objs.size = N at *
  have I2 : Inv X pins σ H1 { s1 with heap := h' } := I1.kept (t' := s1.toks) hk
  have D : ZS (N + 4) (N + 2) (N + 3) N (N + 1) S1 S2 :=
    { n1 := Nat.ne_of_lt (Nat.lt_add_of_pos_right (n := N + 2) (k := 2) (by decide)), n2 := Nat.ne_of_lt (Nat.lt_add_of_pos_right (n := N + 3) (k := 1) (by decide)),
      n3 := Nat.ne_of_lt (Nat.lt_add_of_pos_right (n := N + 2) (k := 1) (by decide)), n4 := Nat.ne_of_gt (Nat.lt_add_of_pos_right (n := N) (k := 2) (by decide)),
      n5 := Nat.ne_of_gt (Nat.lt_add_of_pos_right (n := N + 1) (k := 1) (by decide)), n6 := Nat.ne_of_gt (Nat.lt_add_of_pos_right (n := N) (k := 4) (by decide)),
      n7 := Nat.ne_of_gt (Nat.lt_add_of_pos_right (n := N + 1) (k := 3) (by decide)), n8 := Nat.ne_of_gt (Nat.lt_add_of_pos_right (n := N) (k := 3) (by decide)),
      n9 := Nat.ne_of_gt (Nat.lt_add_of_pos_right (n := N + 1) (k := 2) (by decide)), n0 := Nat.ne_of_lt (Nat.lt_add_of_pos_right (n := N) (k := 1) (by decide)),
      a1 := f1 _ (Nat.le_add_right _ _), a2 := f1 _ (Nat.le_add_right _ _), a3 := f1 _ (Nat.le_refl _), a4 := f1 _ (Nat.le_add_right _ _),
      b1 := f2 _ (Nat.le_add_right _ _), b2 := f2 _ (Nat.le_add_right _ _), b3 := f2 _ (Nat.le_refl _), b4 := f2 _ (Nat.le_add_right _ _) }
  refine ⟨N + 4, [N + 4, N + 2, N + 3, N, N + 1], _, _, H1, rfl, I2, turn_zipS D, ⟨hz, hTI, ⟨_, _, hTO⟩, t1 _ _ e1, t2 _ _ e2⟩, fun c hcm => ?_, q⟩
  have hle : s1.heap.objs.size ≤ c := by
    rw [hN]
    rcases five.mp hcm with rfl | rfl | rfl | rfl | rfl
    · exact Nat.le_add_right _ _
    · exact Nat.le_add_right _ _
    · exact Nat.le_add_right _ _
    · exact Nat.le_refl _
    · exact Nat.le_add_right _ _
  exact I1.fpOk hle (I1.hok.fresh hle)
theorem walk_zipS {K : PySem.W.Frag} {S1 S2 : Src} {xs ys : List V} {n : Nat} (hn : n = min xs.length ys.length) :
    L2.Walk (ItZ K S1 S2) n (fun H => S1.has K H xs ∧ S2.has K H ys) (YPair (fun i => xs[i]?) (fun i => ys[i]?)) := by
  subst hn
  refine ⟨fun i H hi q => ⟨xs, ys, q.1, q.2, by omega, by omega⟩, fun H q => ⟨xs, ys, q.1, q.2, rfl⟩, fun i H v H' _ q y => ?_⟩
  obtain ⟨T, x, u, h1, h2, h3, h4, h5⟩ := y
  exact ⟨T, x, u, h1, h2, h3, h4 xs q.1, h5 ys q.2⟩

/-! ### enumerate of one -/
def ItE (K : PySem.W.Frag) (S : Src) : It where
  go := fun i H => ∃ xs : List V, S.has K H xs ∧ i < xs.length
  yld := fun i H v H' => ∃ T x, v = .ref T ∧ H T = none ∧ H' = upd H T (.tup [.int (i : Nat), x]) ∧ ∀ xs, S.has K H xs → xs[i]? = some x
  stop := fun i H => ∃ xs : List V, S.has K H xs ∧ i = xs.length
def ESt (S : Src) (e it : Addr) (i : Nat) (h : Heap) : Prop := (∃ old, IsEnum h e it ((i : Nat) : Int) old) ∧ S.at_ it i h
theorem turn_enumS {P : Program} {w : World} {K : PySem.W.Frag} {elts : List Expr} {kk : Nat} {tpos : Pos} {S : Src} {e it : Addr} (hne : e ≠ it) (fe : S.far e) (fi : S.far it) :
    Turn P w K (.Tuple elts kk tpos) (ItE K S) [e, it] e (ESt S e it) where
  mem := by simp
  obj := fun i h st c hc => by
    obtain ⟨⟨old, q1⟩, q2⟩ := st
    rcases (by simpa using hc : c = e ∨ c = it) with rfl | rfl
    · exact ⟨_, q1, nofun⟩
    · exact S.at_obj q2
  keep := fun i h h' st k => by
    obtain ⟨⟨old, q1⟩, q2⟩ := st
    exact ⟨⟨old, k e (by simp) _ q1⟩, S.at_keep (k it (by simp)) q2⟩
  item := by
    intro X hP hw hK hc i pins s σ H E I hf st hg
    subst hP hw hK
    obtain ⟨⟨old, q1⟩, q2⟩ := st
    obtain ⟨xs, g1, l1⟩ := hg
    obtain ⟨P1, T1, D1⟩ := drawn I g1 fi q2
    have hh : X.A.in1.handled = none := I.ok.hd hc
    have hel : e < s.heap.objs.size := Heap.lt_size q1
    refine wpAny_pyNext_enum_itemC (D1.dr _ hh) q1 D1.here l1 hne (S.not_fp hne fe) fun u h' tk p1 ho t1 hT hsz hk => ?_
    obtain ⟨x, hx, r1⟩ := D1.rel _ _ p1
    refine ⟨_, rfl, wpAny_letOwnedTupleGo_enum (s := { s with heap := h', toks := tk + 1 }) ho fun h'' he' sb => ?_⟩
    have hT2 : h''.get? s.heap.objs.size = some { cls := .type "tuple", data := .seq #[.int i tk, u] } := (sb.2 _ (Nat.ne_of_gt hel)).trans hT
    have new : ObjOk X.prog X.w (upd H s.heap.objs.size (.tup [.int (i : Nat), x])) h'' s.heap.objs.size (.tup [.int (i : Nat), x]) := by
      refine ⟨(by show 2 ≤ sizeLine; decide), [.int i tk, u], .cons ⟨_, rfl⟩ (.cons r1 .nil), ?_⟩
      exact ⟨_, hT2, rfl, _, rfl⟩
    have lt : ∀ c ∈ [e, it], c < s.heap.objs.size := fun c hcm => by
      rcases (by simpa using hcm : c = e ∨ c = it) with rfl | rfl
      · exact hel
      · obtain ⟨_, e, _⟩ := S.at_obj q2; exact Heap.lt_size e
    have I1 : Inv X pins σ (upd H s.heap.objs.size (.tup [.int (i : Nat), x])) { s with heap := h'', toks := tk + 1 } :=
      I.turnedNew (t' := tk + 1) (ch := [e, it]) (fun c o hb q => by
        have hb' : ¬ (c = e ∨ c = it) := fun z => hb (by simpa using z)
        exact (sb.2 c fun z => hb' (.inl z)).trans (hk c o (fun z => hb' (.inl z)) (fun z => hb' (.inr z)) q)) hf (Nat.le_refl _) new
    refine ⟨.ref s.heap.objs.size, _, I1, rfl, ⟨_, x, rfl, I.hok.fresh (Nat.le_refl _), rfl, fun l hl => ?_⟩, ⟨⟨u, ?_⟩, ?_⟩, fun c hcm => ?_⟩
    · rw [has_inj I hl g1]; exact hx
    · have e1 : (((i + 1 : Nat) : Nat) : Int) = (i : Int) + 1 := by omega
      rw [e1]
      exact he'
    · exact S.at_keep (fun o q => (sb.2 _ fun z => hne z.symm).trans q) (D1.to _ _ t1)
    · rw [upd_ne (Nat.ne_of_lt (lt c hcm))]
      exact (hf c hcm).1
  done := by
    intro X hP hw hK hc i pins s σ H E I hf st hg
    subst hP hw hK
    obtain ⟨⟨old, q1⟩, q2⟩ := st
    obtain ⟨xs, g1, he⟩ := hg
    obtain ⟨P1, T1, D1⟩ := drawn I g1 fi q2
    have hh : X.A.in1.handled = none := I.ok.hd hc
    subst he
    refine wpAny_pyNext_enum_endD (D1.dr _ hh) q1 D1.here fun h' hk => ⟨rfl, ?_⟩
    refine I.turnedL (t' := s.toks) (ch := [e, it]) (fun c o hb q => ?_) hf
    have hb' : ¬ (c = e ∨ c = it) := fun z => hb (by simpa using z)
    exact hk c o (fun z => hb' (.inr z)) q
  self := fun A i s Q E st h => by
    obtain ⟨⟨old, q1⟩, _⟩ := st
    exact wpAny_pyIter_enum q1 h
theorem meets_enum1 {v : Value} {o : Obj} {G : Heap → Prop} (B : Begins v o G) :
    Meets (Builtin.«enumerate.__new__» ⟨[.type "enumerate", v], []⟩) (fun _ R s => G s.heap ∧
      R (.ok (.ret (.ref (s.heap.push o).objs.size))) { s with heap := (s.heap.push o).push { cls := .type "enumerate", data := .fields #[.none, .bool false, .ref s.heap.objs.size, rawInt 0, .none, .none] } }) :=
  .of_wp fun prog w A R s h => by
    obtain ⟨hp, g, d, tk, os⟩ := s
    obtain ⟨h1, h⟩ := h
    have hsub := sub_enumerate
    have q1 : ∀ {A' : Around} {E : Value → Shared → Prop} {Q : Value → Shared → Prop}, Q (.ref hp.objs.size) ⟨hp.push o, g, d, tk, os⟩ → wpAny (model prog w) A' (pyIter v) Q E ⟨hp, g, d, tk, os⟩ :=
      fun q => B.iter prog w _ _ ⟨hp, g, d, tk, os⟩ _ h1 q
    wp_walk using q1
    refine wpAny_stack_any fun st => wpAny_pure ?_
    split
    · rename_i c _ _ _ _ _
      cases (c == Value.type "enumerate") <;> (wp_walk using q1; exact ⟨_, rfl, h⟩)
    · wp_walk using q1
      exact ⟨_, rfl, h⟩
theorem call_enumS {prog : Program} {w : World} {A : Around} {E : Value → Shared → Prop} {s : Shared} {v : Value} {o : Obj} {G : Heap → Prop} {Q : Value → Shared → Prop} (B : Begins v o G) (h1 : G s.heap)
    (h : ∀ h', IsEnum h' (s.heap.objs.size + 1) s.heap.objs.size 0 .none → h'.get? s.heap.objs.size = some o → (∀ b o, s.heap.get? b = some o → h'.get? b = some o) → Q (.ref (s.heap.objs.size + 1)) { s with heap := h' }) :
    wpAny (model prog w) A (call (.type "enumerate") [v]) Q E s := by
  refine callType_new F.called_enumerate (by decide) (F.typeCall_enumerate_1 _) (F.newCall_enumerate_1 _) (fun obj => F.args_object_init_2 obj _) F.entry_enumerate_new (meets_enum1 B) ⟨h1, ?_⟩
  have hz : (s.heap.push o).objs.size = s.heap.objs.size + 1 := Heap.size_push ..
  show _ ∧ _
  rw [hz]
  generalize he : (s.heap.push o).push { cls := .type "enumerate", data := .fields #[.none, .bool false, .ref s.heap.objs.size, rawInt 0, .none, .none] } = h2
  have g1 : IsEnum h2 (s.heap.objs.size + 1) s.heap.objs.size 0 .none := by
    rw [← he, ← hz]
    exact Heap.get?_push_size _ rfl
  refine ⟨⟨_, g1, rfl⟩, h _ g1 ?_ fun b u x => ?_⟩
  · rw [← he]
    exact Heap.get?_push_of_some _ (Heap.get?_push_size _ B.free)
  · rw [← he]
    exact Heap.get?_push_of_some _ (Heap.get?_push_of_some _ x)
def enumR (K : PySem.W.Frag) (R : It → Hp → Prop) : List V → Hp → Prop := fun vs H1 => ∃ S xs, vs = [Src.v S] ∧ S.has K H1 xs ∧ R (ItE K S) H1
def iEnumS (K : PySem.W.Frag) (ta : TA) : TI := fun σ H R => ta σ H (enumR K R)
theorem pi_enumS {X : Cx} {e : Expr} {ta : TA} {p pos tpos : Pos} {elts : List Expr} {kk : Nat} (hg : Gl X "enumerate") (hm : X.mg "enumerate" = none) (ha : PA X [e] ta)
    (hs : starEach [e] X.env = [(false, eval e X.env)] := by rfl) : PI X (.Tuple elts kk tpos) (.Call (.Name "enumerate" p) [e] [] pos) (iEnumS X.K ta) := by
  refine ⟨fun pins s σ H R I h => ?_⟩
  refine Call_ (ld_blt I hg hm boot_enumerate (PyProof.Rows.callWith_type1 (thn (ha.run pos pins s σ H _ I h) fun us s1 ⟨vs, H1, I1, r1, q1⟩ => ?_) hs rfl))
  obtain ⟨S, xs, rfl, h1, q⟩ := q1
  obtain ⟨u1, rfl, r2⟩ := vals1 r1
  obtain ⟨o, G, B, b, t, f⟩ := src_begins I1 h1 r2
  refine call_enumS B b fun h' he e1 hk => wpAny_pyIter_enum he ?_
  have I2 : Inv X pins σ H1 { s1 with heap := h' } := I1.kept (t' := s1.toks) hk
  refine ⟨s1.heap.objs.size + 1, [s1.heap.objs.size + 1, s1.heap.objs.size], _, _, H1, rfl, I2, turn_enumS (Nat.succ_ne_self _) (f _ (Nat.le_add_right _ _)) (f _ (Nat.le_refl _)), ⟨⟨.none, he⟩, t _ _ e1⟩, fun c hcm => ?_, q⟩
  have hle : s1.heap.objs.size ≤ c := by
    rcases (by simpa using hcm : c = s1.heap.objs.size + 1 ∨ c = s1.heap.objs.size) with rfl | rfl
    · exact Nat.le_add_right _ _
    · exact Nat.le_refl _
  exact I1.fpOk hle (I1.hok.fresh hle)
theorem walk_enumS {K : PySem.W.Frag} {S : Src} {xs : List V} : L2.Walk (ItE K S) xs.length (fun H => S.has K H xs) (YPair (fun i => some (.int (i : Nat))) (fun i => xs[i]?)) := by
  refine ⟨fun i H hi q => ⟨xs, q, hi⟩, fun H q => ⟨xs, q, rfl⟩, fun i H v H' _ q y => ?_⟩
  obtain ⟨T, x, h1, h2, h3, h4⟩ := y
  exact ⟨T, .int (i : Nat), x, h1, h2, h3, rfl, h4 xs q⟩

/-! ### one of them alone -/
def srcR (K : PySem.W.Frag) (R : It → Hp → Prop) : VK := fun x H1 => (∃ a, x = .ref a ∧ (∃ xs, SqL K H1 a xs) ∧ R (Itl K a) H1) ∨ (∃ a, x = .ref a ∧ (∃ xs, SqT K H1 a xs) ∧ R (Itt K a) H1) ∨ ∃ z, x = .str z ∧ R (Its z) H1
def iSrc (K : PySem.W.Frag) (tl : TE) : TI := fun σ H R => tl σ H (srcR K R)
theorem pi_src {X : Cx} {tg l : Expr} {tl : TE} (hl : PE X l tl) : PI X tg l (iSrc X.K tl) := by
  refine ⟨fun pins s σ H R I h => ?_⟩
  refine thn (hl.run pins s σ H _ I h) fun v s1 ⟨x, H1, I1, r1, q1⟩ => ?_
  rcases q1 with ⟨a, rfl, ⟨xs, hq⟩, q⟩ | ⟨a, rfl, ⟨xs, hq⟩, q⟩ | ⟨z, rfl, q⟩
  · obtain ⟨its, rv, p, hz⟩ := I1.list hq
    cases (show v = Value.ref a from r1)
    refine wpAny_pyIter_list p.isList ?_
    exact pi_one (tk := s1.toks) I1 _ (turn_list a _) ⟨_, Heap.get?_push_size _ rfl, rfl, rfl⟩ q
  · obtain ⟨its, rv, p, hz⟩ := I1.tuple hq
    cases (show v = Value.ref a from r1)
    refine wpAny_pyIter_tuple (show s1.heap.IsTuple a its.toArray from p) ?_
    exact pi_one (tk := s1.toks) I1 _ (turn_tuple a _) ⟨_, Heap.get?_push_size _ rfl, rfl, rfl⟩ q
  · obtain ⟨t, rfl⟩ := r1
    cases ha : z.cps.all (· < 128)
    · refine wpAny_pyIter_wide ha ?_
      exact pi_one (tk := s1.toks) I1 _ (turn_str _ z t _ (.inr rfl)) ⟨_, Heap.get?_push_size _ rfl, rfl, rfl⟩ q
    · refine wpAny_pyIter_ascii ha ?_
      exact pi_one (tk := s1.toks) I1 _ (turn_str _ z t _ (.inl rfl)) ⟨_, Heap.get?_push_size _ rfl, rfl, rfl⟩ q
end Nt

namespace Nt
open PySem PySem.Spec PyProof.Rows L2
/-! ### worlds: M the addresses that may change, I what is kept of them -/
structure Wf (M : Addr → Prop) (I : Hp → Prop) : Prop where
  live : ∀ H, I H → ∀ p, M p → H p ≠ none
  stable : ∀ H H', I H → (∀ p, M p → H' p = H p) → I H'
def Ex (M : Addr → Prop) (H H' : Hp) : Prop := ∀ p o, ¬ M p → H p = some o → H' p = some o
theorem Ex.refl {M : Addr → Prop} (H : Hp) : Ex M H H := fun _ _ _ h => h
theorem Ex.trans {M : Addr → Prop} {H H1 H2 : Hp} (a : Ex M H H1) (b : Ex M H1 H2) : Ex M H H2 := fun p o n h => b p o n (a p o n h)
theorem Ex.of {M : Addr → Prop} {H H' : Hp} (a : L2.Same H H') : Ex M H H' := fun p o _ h => a p o h
theorem Wf.same {M : Addr → Prop} {I : Hp → Prop} (w : Wf M I) {H H' : Hp} (e : L2.Same H H') (h : I H) : I H' := by
  refine w.stable H H' h fun p hp => ?_
  cases q : H p with
  | none => exact absurd q (w.live H h p hp)
  | some o => exact e p o q
theorem same_upd {H : Hp} {p : Addr} {o : HO} (h : H p = none) : L2.Same H (upd H p o) := fun a u e => by
  rw [upd_ne (ne_of_none e h)]
  exact e
theorem Wf.fresh {M : Addr → Prop} {I : Hp → Prop} (w : Wf M I) {H : Hp} {p : Addr} (h : I H) (hp : H p = none) : ¬ M p := fun m => w.live H h p m hp
/-- nothing changes -/
def M0 : Addr → Prop := fun _ => False
def I0 : Hp → Prop := fun _ => True
theorem wf0 : Wf M0 I0 := ⟨fun _ _ _ h => h.elim, fun _ _ _ _ => trivial⟩
/-- one object more that may change: its content told -/
def Mq (M : Addr → Prop) (q : Addr) : Addr → Prop := fun p => M p ∨ p = q
def Iq (I : Hp → Prop) (q : Addr) (o : HO) : Hp → Prop := fun H => I H ∧ H q = some o
theorem Wf.add {M : Addr → Prop} {I : Hp → Prop} (w : Wf M I) (q : Addr) (o : HO) : Wf (Mq M q) (Iq I q o) where
  live := fun H h p hp => by
    rcases hp with hp | rfl
    · exact w.live H h.1 p hp
    · rw [h.2]; exact nofun
  stable := fun H H' h e => ⟨w.stable H H' h.1 fun p hp => e p (.inl hp), (e q (.inr rfl)).trans h.2⟩
/-- the object changes -/
theorem Wf.put {M : Addr → Prop} {I : Hp → Prop} (w : Wf M I) {q : Addr} {o o' : HO} {H : Hp} (hq : ¬ M q) (h : Iq I q o H) : Iq I q o' (upd H q o') ∧ Ex (Mq M q) H (upd H q o') := by
  refine ⟨⟨w.stable _ _ h.1 fun p hp => upd_ne fun e => hq (e ▸ hp), upd_same⟩, fun p u n e => ?_⟩
  rw [upd_ne fun z => n (.inr z)]
  exact e

/-! ### data -/
inductive D where
  | non
  | bl (b : Bool)
  | int (i : Int)
  | str (z : Str)
  | lst (l : List D)
  | tup (l : List D)
  | dct (l : List (Key × D))
  | oth (n : Nat)
mutual
inductive Rep (K : PySem.W.Frag) (M : Addr → Prop) (H : Hp) : V → D → Prop
  | non : Rep K M H .non .non
  | bl (b : Bool) : Rep K M H (.bl b) (.bl b)
  | int (i : Int) : Rep K M H (.int i) (.int i)
  | str (z : Str) : Rep K M H (.str z) (.str z)
  | lst {a : Addr} {xs : List V} {ds : List D} : H a = some (.lst xs) → ¬ M a → Reps K M H xs ds → Rep K M H (.ref a) (.lst ds)
  | tup {a : Addr} {xs : List V} {ds : List D} : H a = some (.tup xs) → ¬ M a → Reps K M H xs ds → Rep K M H (.ref a) (.tup ds)
  | dct {a : Addr} {kvs : List (Key × V)} {ds : List (Key × D)} : H a = some (.dK kvs) → ¬ M a → kvs.map (·.1) = ds.map (·.1) → Reps K M H (kvs.map (·.2)) (ds.map (·.2)) → Rep K M H (.ref a) (.dct ds)
  | oth {a : Addr} {φ : Heap → Prop} {n : Nat} : H a = some (.ext φ) → ¬ M a → Rep K M H (.ref a) (.oth n)
inductive Reps (K : PySem.W.Frag) (M : Addr → Prop) (H : Hp) : List V → List D → Prop
  | nil : Reps K M H [] []
  | cons {v : V} {vs : List V} {d : D} {ds : List D} : Rep K M H v d → Reps K M H vs ds → Reps K M H (v :: vs) (d :: ds)
end
section
variable {K : PySem.W.Frag} {M M' : Addr → Prop} {H H' : Hp}
theorem sq_l {a : Addr} {xs : List V} (e : Ex M H H') (hm : ¬ M a) (h : SqL K H a xs) : SqL K H' a xs := by
  rcases h with (h | ⟨o, h⟩) | h
  · exact .inl (.inl (e _ _ hm h))
  · exact .inl (.inr ⟨o, e _ _ hm h⟩)
  · exact .inr h
theorem sq_t {a : Addr} {xs : List V} (e : Ex M H H') (hm : ¬ M a) (h : SqT K H a xs) : SqT K H' a xs := by
  rcases h with (h | ⟨o, h⟩) | h
  · exact .inl (.inl (e _ _ hm h))
  · exact .inl (.inr ⟨o, e _ _ hm h⟩)
  · exact .inr h
mutual
theorem Rep.ex (e : Ex M H H') : ∀ {v : V} {d : D}, Rep K M H v d → Rep K M H' v d
  | _, _, .non => .non
  | _, _, .bl b => .bl b
  | _, _, .int i => .int i
  | _, _, .str z => .str z
  | _, _, .lst h n r => .lst (e _ _ n h) n (Reps.ex e r)
  | _, _, .tup h n r => .tup (e _ _ n h) n (Reps.ex e r)
  | _, _, .dct h n k r => .dct (e _ _ n h) n k (Reps.ex e r)
  | _, _, .oth h n => .oth (e _ _ n h) n
theorem Reps.ex (e : Ex M H H') : ∀ {v : List V} {d : List D}, Reps K M H v d → Reps K M H' v d
  | _, _, .nil => .nil
  | _, _, .cons h r => .cons (Rep.ex e h) (Reps.ex e r)
end
theorem Rep.same (e : L2.Same H H') {v : V} {d : D} (h : Rep K M H v d) : Rep K M H' v d := h.ex (.of e)
theorem Reps.same (e : L2.Same H H') {v : List V} {d : List D} (h : Reps K M H v d) : Reps K M H' v d := h.ex (.of e)
mutual
theorem Rep.le (hm : ∀ p, M p → M' p) : ∀ {v : V} {d : D}, Rep K M' H v d → Rep K M H v d
  | _, _, .non => .non
  | _, _, .bl b => .bl b
  | _, _, .int i => .int i
  | _, _, .str z => .str z
  | _, _, .lst h n r => .lst h (fun m => n (hm _ m)) (Reps.le hm r)
  | _, _, .tup h n r => .tup h (fun m => n (hm _ m)) (Reps.le hm r)
  | _, _, .dct h n k r => .dct h (fun m => n (hm _ m)) k (Reps.le hm r)
  | _, _, .oth h n => .oth h fun m => n (hm _ m)
theorem Reps.le (hm : ∀ p, M p → M' p) : ∀ {v : List V} {d : List D}, Reps K M' H v d → Reps K M H v d
  | _, _, .nil => .nil
  | _, _, .cons h r => .cons (Rep.le hm h) (Reps.le hm r)
end
mutual
/-- the addresses of data lie in H: one that H has not may be let change -/
theorem Rep.off {q : Addr} (hq : H q = none) : ∀ {v : V} {d : D}, Rep K M H v d → Rep K (Mq M q) H v d
  | _, _, .non => .non
  | _, _, .bl b => .bl b
  | _, _, .int i => .int i
  | _, _, .str z => .str z
  | _, _, .lst h n r => .lst h (fun m => m.elim n fun e => by rw [e, hq] at h; cases h) (Reps.off hq r)
  | _, _, .tup h n r => .tup h (fun m => m.elim n fun e => by rw [e, hq] at h; cases h) (Reps.off hq r)
  | _, _, .dct h n k r => .dct h (fun m => m.elim n fun e => by rw [e, hq] at h; cases h) k (Reps.off hq r)
  | _, _, .oth h n => .oth h fun m => m.elim n fun e => by rw [e, hq] at h; cases h
theorem Reps.off {q : Addr} (hq : H q = none) : ∀ {v : List V} {d : List D}, Reps K M H v d → Reps K (Mq M q) H v d
  | _, _, .nil => .nil
  | _, _, .cons h r => .cons (Rep.off hq h) (Reps.off hq r)
end
/-- what may change no longer does -/
theorem Rep.on {q : Addr} : ∀ {v : V} {d : D}, Rep K (Mq M q) H v d → Rep K M H v d := fun {v d} h => h.le fun p m => .inl m
end
end Nt

namespace Nt
open PySem PySem.Spec PyProof.Rows L2
/-! ### signs by their numbers -/
def T (l : List Nat) : Str := ⟨l.toArray⟩
theorem T_cps (l : List Nat) : (T l).cps.toList = l := rfl
theorem T_len (l : List Nat) : (T l).length = l.length := by simp [T, Str.length]
theorem T_app (l m : List Nat) : (T l) ++ (T m) = T (l ++ m) := by
  show (⟨(T l).cps ++ (T m).cps⟩ : Str) = _
  simp [T]
theorem T_inj {l m : List Nat} (h : T l = T m) : l = m := by
  have := congrArg (fun z : Str => z.cps.toList) h
  simpa [T] using this
theorem T_one (c : Nat) : (⟨#[c]⟩ : Str) = T [c] := rfl
theorem signs_T (l : List Nat) : signs (T l) = l.map fun c => .str (T [c]) := by simp [signs, T]
/-! ### universal operators: what is done shows by the values -/
def rAddU (K : PySem.W.Frag) : R2 := fun x y H Q =>
  rI0 (fun i j => .int (i + j)) x y H Q ∨ (∃ i j, x = .str i ∧ y = .str j ∧ i.length + j.length ≤ sizeLine ∧ Q (.str (i ++ j)) H) ∨ rCat x y H Q ∨ rCatA K x y H Q
theorem op_addU {X : Cx} : OpR X (binaryOp .Add) (rAddU X.K) := op_add.or (op_add_str.or (op_cat.or op_catA))
def rRepS : R2 := fun x y H Q => ∃ z k, x = .str z ∧ y = .int k ∧ 0 ≤ k ∧ k ≤ 100000 ∧ z.length ≤ 100 ∧ Q (.str (T (List.replicate k.toNat z.cps.toList).flatten)) H
theorem rep_cps (z : Str) (n : Nat) : (⟨(List.replicate n z.cps).foldl (· ++ ·) #[]⟩ : Str) = T (List.replicate n z.cps.toList).flatten := by
  have h : ∀ (m : Nat) (a : Array Nat), ((List.replicate m z.cps).foldl (· ++ ·) a).toList = a.toList ++ (List.replicate m z.cps.toList).flatten := by
    intro m
    induction m with
    | zero => intro a; simp
    | succ m ih => intro a; simp [List.replicate_succ, ih]
  have e := h n #[]
  simp only [List.nil_append] at e
  unfold T
  congr 1
  exact Array.toList_inj.mp (by simpa using e)
theorem op_repS {X : Cx} : OpR X (binaryOp .Mult) rRepS := by
  intro pins s σ H x y v u Q I rx ry h
  obtain ⟨z, k, rfl, rfl, h0, h1, h2, q⟩ := h
  obtain ⟨t, rfl⟩ := rx
  obtain ⟨t2, rfl⟩ := ry
  have e := rep_cps z k.toNat
  have hz : z.length * k.toNat ≤ 100 * 100000 := Nat.mul_le_mul h2 (by omega)
  have el : z.length = z.cps.size := rfl
  have hs : sizeLine = 16777216 := sizeLine_eq
  have hz2 : k.toNat * z.cps.size ≤ 10000000 := by rw [Nat.mul_comm]; exact hz
  refine PySem.P.mul_str (by
      have a1 : ¬ k < -(2 ^ 63 : Int) := by omega
      have a2 : ¬ k ≥ 2 ^ 63 := by omega
      rw [decide_eq_false a1, decide_eq_false a2]; rfl) (fun a _ hh => ?_) (fun _ _ => ?_) ?_
  · have : (2 ^ 63 - 1 : Int) / k ≥ 1000 := by
      apply Int.le_ediv_of_mul_le (by omega)
      omega
    omega
  · show Builtin.Str.tooLong (z.length * k.toNat) = false
    unfold Builtin.Str.tooLong
    first
      | (simp only [decide_eq_false_iff_not]; omega)
      | (rw [decide_eq_false]; omega)
      | (simp; omega)
  · by_cases c1 : k < 1
    · rw [if_pos c1]
      have k0 : k.toNat = 0 := by omega
      rw [k0] at q
      exact ⟨by decide, ⟨.str _, H, I.tok _, ⟨_, rfl⟩, q⟩⟩
    · rw [if_neg c1]
      by_cases c2 : (k == 1 || z.length == 0) = true
      · rw [if_pos c2]
        have ez : T (List.replicate k.toNat z.cps.toList).flatten = z := by
          rcases Bool.or_eq_true_iff.mp c2 with c | c
          · have : k = 1 := by simpa using c
            subst this
            simp [T]
          · have c' : z.cps.size = 0 := by simpa [el] using c
            have : z.cps = #[] := Array.size_eq_zero_iff.mp c'
            obtain ⟨cp⟩ := z
            simp only at this
            subst this
            simp [T]
        rw [ez] at q
        exact ⟨.str _, H, I, ⟨_, rfl⟩, q⟩
      · rw [if_neg c2]
        rw [← e] at q
        refine ⟨?_, ⟨.str _, H, I.tok _, ⟨_, rfl⟩, q⟩⟩
        rw [e]
        first
          | (simp [T, Str.length] at *; omega)
          | (show (T _).length ≤ _; rw [T_len]; simp; omega)
end Nt

namespace Nt
open PySem PySem.Spec PyProof.Rows L2
/-! ### lists, place by place -/
inductive A2 {α β : Type} (P : α → β → Prop) : List α → List β → Prop
  | nil : A2 P [] []
  | cons {a b as bs} : P a b → A2 P as bs → A2 P (a :: as) (b :: bs)
theorem A2.append {α β : Type} {P : α → β → Prop} : ∀ {as cs : List α} {bs ds : List β}, A2 P as bs → A2 P cs ds → A2 P (as ++ cs) (bs ++ ds)
  | _, _, _, _, .nil, h => h
  | _, _, _, _, .cons x y, h => .cons x (y.append h)
theorem A2.length {α β : Type} {P : α → β → Prop} : ∀ {as : List α} {bs : List β}, A2 P as bs → bs.length = as.length
  | _, _, .nil => rfl
  | _, _, .cons _ y => congrArg (· + 1) y.length
theorem A2.eq {α β : Type} {f : α → β} : ∀ {as : List α} {bs : List β}, A2 (fun a b => b = f a) as bs → bs = as.map f
  | _, _, .nil => rfl
  | _, _, .cons x y => by rw [x, y.eq]; rfl
theorem A2.imp {α β : Type} {P Q : α → β → Prop} (h : ∀ a b, P a b → Q a b) : ∀ {as : List α} {bs : List β}, A2 P as bs → A2 Q as bs
  | _, _, .nil => .nil
  | _, _, .cons x y => .cons (h _ _ x) (y.imp h)
theorem A2.map {α β : Type} {f : α → β} : ∀ as : List α, A2 (fun a b => b = f a) as (as.map f)
  | [] => .nil
  | _ :: as => .cons rfl (A2.map as)
/-- the second parts are of a form -/
theorem A2.ex {α β γ : Type} {P : α → β → Prop} {Q : α → γ → Prop} {g : γ → β} (h : ∀ a b, P a b → ∃ c, b = g c ∧ Q a c) : ∀ {as : List α} {bs : List β}, A2 P as bs → ∃ cs, bs = cs.map g ∧ A2 Q as cs
  | _, _, .nil => ⟨[], rfl, .nil⟩
  | _, _, .cons x y => by
    obtain ⟨c, e, q⟩ := h _ _ x
    obtain ⟨cs, e2, q2⟩ := y.ex h
    exact ⟨c :: cs, by rw [e, e2]; rfl, .cons q q2⟩
theorem A2.all {α β : Type} {P : α → β → Prop} {Q : β → Prop} (h : ∀ a b, P a b → Q b) : ∀ {as : List α} {bs : List β}, A2 P as bs → ∀ b ∈ bs, Q b
  | _, _, .nil, _, hb => by cases hb
  | _, _, .cons x y, b, hb => by
    rcases List.mem_cons.mp hb with rfl | hb
    · exact h _ _ x
    · exact y.all h b hb
section
variable {K : PySem.W.Frag} {M : Addr → Prop} {H : Hp}
theorem Reps.append : ∀ {xs ys : List V} {ds es : List D}, Reps K M H xs ds → Reps K M H ys es → Reps K M H (xs ++ ys) (ds ++ es)
  | _, _, _, _, .nil, h => h
  | _, _, _, _, .cons x y, h => .cons x (y.append h)
theorem Reps.length : ∀ {xs : List V} {ds : List D}, Reps K M H xs ds → xs.length = ds.length
  | _, _, .nil => rfl
  | _, _, .cons _ y => congrArg (· + 1) y.length
theorem Reps.get : ∀ {xs : List V} {ds : List D} {k : Nat} {d : D}, Reps K M H xs ds → ds[k]? = some d → ∃ x, xs[k]? = some x ∧ Rep K M H x d
  | _, _, 0, _, .cons x _, h => ⟨_, rfl, by cases h; exact x⟩
  | _, _, k + 1, _, .cons _ y, h => y.get (k := k) h
theorem Reps.take : ∀ {xs : List V} {ds : List D} (k : Nat), Reps K M H xs ds → Reps K M H (xs.take k) (ds.take k)
  | _, _, 0, _ => by simp; exact .nil
  | _, _, k + 1, .nil => .nil
  | _, _, k + 1, .cons x y => .cons x (y.take k)
theorem Reps.drop : ∀ {xs : List V} {ds : List D} (k : Nat), Reps K M H xs ds → Reps K M H (xs.drop k) (ds.drop k)
  | _, _, 0, h => h
  | _, _, k + 1, .nil => .nil
  | _, _, k + 1, .cons x y => y.drop k
theorem Reps.reverse : ∀ {xs : List V} {ds : List D}, Reps K M H xs ds → Reps K M H xs.reverse ds.reverse
  | _, _, .nil => .nil
  | _, _, .cons x y => by simp only [List.reverse_cons]; exact y.reverse.append (.cons x .nil)
/-- scalars stand for themselves -/
theorem Reps.scal {α : Type} {f : α → V} {g : α → D} (hfg : ∀ a, Rep K M H (f a) (g a)) : ∀ l : List α, Reps K M H (l.map f) (l.map g)
  | [] => .nil
  | a :: l => .cons (hfg a) (Reps.scal hfg l)
theorem Reps.scal_inv {α : Type} {f : α → V} {g : α → D} (hfg : ∀ a v, Rep K M H v (g a) → v = f a) : ∀ {l : List α} {xs : List V}, Reps K M H xs (l.map g) → xs = l.map f
  | [], _, .nil => rfl
  | a :: l, _, .cons x y => by rw [hfg a _ x, Reps.scal_inv hfg y]; rfl
theorem rep_int {v : V} {i : Int} (h : Rep K M H v (.int i)) : v = .int i := by cases h; rfl
theorem rep_str {v : V} {i : Str} (h : Rep K M H v (.str i)) : v = .str i := by cases h; rfl
theorem rep_bl {v : V} {i : Bool} (h : Rep K M H v (.bl i)) : v = .bl i := by cases h; rfl
theorem rep_non {v : V} (h : Rep K M H v .non) : v = .non := by cases h; rfl
end
/-! ### what may be walked -/
def D.elems : D → Option (List D)
  | .lst l => some l
  | .tup l => some l
  | .str z => some (z.cps.toList.map fun c => .str (T [c]))
  | _ => none
theorem src_of {K : PySem.W.Frag} {M : Addr → Prop} {H : Hp} {v : V} {d : D} {ds : List D} (h : Rep K M H v d) (e : d.elems = some ds) :
    ∃ S xs, v = Src.v S ∧ Reps K M H xs ds ∧ ∀ H', Ex M H H' → S.has K H' xs := by
  cases h with
  | lst h n r => cases e; exact ⟨.lst _, _, rfl, r, fun H' x => SqL.of (x _ _ n h)⟩
  | tup h n r => cases e; exact ⟨.tup _, _, rfl, r, fun H' x => SqT.of (x _ _ n h)⟩
  | str z =>
    cases e
    refine ⟨.txt z, signs z, rfl, ?_, fun _ _ => rfl⟩
    unfold signs
    exact Reps.scal (fun c => .str (T [c])) _
  | _ => cases e
/-! ### comprehensions -/
def Bd (g : TG) (Y : Hp → V → Hp → Prop) (σ σ2 : L2.St) : Prop := ∀ H x H' (Qc : L2.St → Hp → Prop), Y H x H' → (∀ H2, L2.Same H H2 → Qc σ2 H2) → g x σ H' Qc
theorem bd_name {i : Nat} {σ : L2.St} {v : V} {Y : Hp → V → Hp → Prop} (hY : ∀ H x H', Y H x H' → H' = H ∧ x = v) : Bd (gName i) Y σ (σ.set i (some v)) := fun H x H' Qc y q => by
  obtain ⟨rfl, rfl⟩ := hY _ _ _ y
  exact q _ (L2.Same.refl _)
theorem bd_pair {K : PySem.W.Frag} {i j : Nat} {σ : L2.St} {v w : V} {Y : Hp → V → Hp → Prop} (hY : ∀ H x H', Y H x H' → ∃ p, x = .ref p ∧ H p = none ∧ H' = upd H p (.tup [v, w])) :
    Bd (gTup K 2 (gCons (gName i) (gCons (gName j) gNil))) Y σ ((σ.set i (some v)).set j (some w)) := fun H x H' Qc y q => by
  obtain ⟨p, rfl, hp, rfl⟩ := hY _ _ _ y
  exact ⟨p, [v, w], rfl, SqT.of upd_same, rfl, v, [w], rfl, w, [], rfl, rfl, q _ (same_upd hp)⟩
section
variable {K : PySem.W.Frag} {M : Addr → Prop} {I : Hp → Prop} {J : It} {G : Hp → Prop} {Y : Nat → Hp → V → Hp → Prop} {α : Type} {as : List α} {g : TG} {tt : TT} {te : TE} {vs : List Nat} {σ : L2.St} {H1 : Hp}
theorem iq_of {q : Addr} {o : HO} {H : Hp} (h : Iq I q o H) : I H := h.1
theorem take_snoc {k : Nat} {a : α} (h : as[k]? = some a) : as.take (k + 1) = as.take k ++ [a] := by
  have hk := (List.getElem?_eq_some_iff.mp h)
  obtain ⟨hk, e⟩ := hk
  rw [List.take_succ_eq_append_getElem hk, e]
theorem lc_any {Q : VK} (w : L2.Walk J as.length G Y) (hw : Wf M I) (hI : I H1) (p : α → Bool) (P : α → D → Prop) (asg : Nat → α → L2.St) (hG : ∀ H', Ex M H1 H' → G H') (hlen : as.length ≤ sizeLine)
    (hb : ∀ k a, as[k]? = some a → Bd g (Y k) (wipe σ vs) (asg k a)) (hwp : ∀ k a, wipe (asg k a) vs = wipe σ vs)
    (ht : ∀ L acc k a H, H1 L = none → ¬ M L → as[k]? = some a → Wf (Mq M L) (Iq I L (.lst acc)) → Iq I L (.lst acc) H → Ex (Mq M L) H1 H →
      ∀ Qt : Bool → Hp → Prop, (∀ H3, Iq I L (.lst acc) H3 → Ex (Mq M L) H H3 → Qt (p a) H3) → tt (asg k a) H Qt)
    (he : ∀ L acc k a H, H1 L = none → ¬ M L → as[k]? = some a → p a = true → Wf (Mq M L) (Iq I L (.lst acc)) → Iq I L (.lst acc) H → Ex (Mq M L) H1 H →
      ∀ Qe : VK, (∀ y d H4, P a d → Rep K (Mq M L) H4 y d → Iq I L (.lst acc) H4 → Ex (Mq M L) H H4 → Qe y H4) → te (asg k a) H Qe)
    (hd : ∀ L ds H', H1 L = none → A2 P (as.filter p) ds → Rep K M H' (.ref L) (.lst ds) → Ex M H1 H' → I H' → Q (.ref L) H') :
    ∀ L, H1 L = none → ∃ W : Nat → Nat → Hp → Prop, (∃ m, W 0 m (upd H1 L (.lst []))) ∧ ∀ i m H, W i m H →
      (J.stop i H ∧ Q (.ref L) H) ∨ (J.go i H ∧ ∃ Nx : Hp → Prop, (∀ H', Nx H' → ∃ m', m' < m ∧ W (i + 1) m' H') ∧ ∀ x H', J.yld i H x H' → g x (wipe σ vs) H' fun σ2 H2 => wipe σ2 vs = wipe σ vs ∧ tt σ2 H2 fun b H3 =>
        if b = true then te σ2 H3 fun y H4 => ∃ acc, H4 L = some (.lst acc) ∧ acc.length < sizeLine ∧ Nx (upd H4 L (.lst (acc ++ [y]))) else Nx H3) := by
  intro L hL
  have nM : ¬ M L := hw.fresh hI hL
  have exL : ∀ {H' : Hp}, Ex (Mq M L) H1 H' → Ex M H1 H' := fun e p o n h => e p o (fun m => m.elim n fun z => by rw [z, hL] at h; cases h) h
  refine lc_it w (fun k H => ∃ acc ds, Iq I L (.lst acc) H ∧ A2 P ((as.take k).filter p) ds ∧ Reps K (Mq M L) H acc ds ∧ Ex (Mq M L) H1 H) ?_ (fun k H _ h => ?_) ?_ ?_
  · refine ⟨[], [], ⟨hw.same (same_upd hL) hI, upd_same⟩, .nil, .nil, Ex.of (same_upd hL)⟩
  · obtain ⟨acc, ds, _, _, _, e⟩ := h
    exact hG H (exL e)
  · rintro k x H H' hk ⟨acc, ds, i1, a2, rs, e⟩ y
    have ha : as[k]? = some as[k] := by simp [hk]
    have wf' := hw.add L (.lst acc)
    have hlen2 : acc.length < sizeLine := by
      have l1 := rs.length
      have l2 := a2.length
      have l3 : ((as.take k).filter p).length ≤ (as.take k).length := List.length_filter_le _ _
      have l4 : (as.take k).length ≤ k := by simp; omega
      omega
    refine hb k _ ha H x H' _ y fun H2 sm => ⟨hwp k _, ?_⟩
    have i2 := wf'.same sm i1
    have e2 : Ex (Mq M L) H1 H2 := e.trans (Ex.of sm)
    have rs2 := rs.same sm
    refine ht L acc k _ H2 hL nM ha wf' i2 e2 _ fun H3 i3 e3 => ?_
    cases hp : p as[k] with
    | false =>
      simp only [Bool.false_eq_true, if_false]
      refine ⟨acc, ds, i3, ?_, rs2.ex e3, e2.trans e3⟩
      rw [take_snoc ha, List.filter_append]
      simpa [hp] using a2
    | true =>
      simp only [if_true]
      refine he L acc k _ H3 hL nM ha hp wf' i3 (e2.trans e3) _ fun y d H4 py ry i4 e4 => ⟨acc, i4.2, hlen2, ?_⟩
      obtain ⟨i5, e5⟩ := hw.put (o' := .lst (acc ++ [y])) nM i4
      refine ⟨acc ++ [y], ds ++ [d], i5, ?_, ?_, ((e2.trans e3).trans e4).trans e5⟩
      · rw [take_snoc ha, List.filter_append]
        refine a2.append ?_
        simp [hp]
        exact .cons py .nil
      · exact (((rs2.ex e3).ex e4).append (.cons ry .nil)).ex e5
  · rintro H ⟨acc, ds, i1, a2, rs, e⟩
    refine hd L ds H hL ?_ (.lst i1.2 nM (rs.le fun p m => .inl m)) (exL e) i1.1
    simpa using a2
end
end Nt

namespace Nt
open PySem PySem.Spec PyProof.Rows L2
/-! ### comprehensions and loops by what is walked -/
def LcR (g : TG) (tt : TT) (te : TE) (vs : List Nat) (σ : L2.St) (Q : VK) : It → Hp → Prop := fun J H1 => ∀ L, H1 L = none → ∃ W : Nat → Nat → Hp → Prop, (∃ m, W 0 m (upd H1 L (.lst []))) ∧ ∀ i m H, W i m H →
  (J.stop i H ∧ Q (.ref L) H) ∨ (J.go i H ∧ ∃ Nx : Hp → Prop, (∀ H', Nx H' → ∃ m', m' < m ∧ W (i + 1) m' H') ∧ ∀ x H', J.yld i H x H' → g x (wipe σ vs) H' fun σ2 H2 => wipe σ2 vs = wipe σ vs ∧ tt σ2 H2 fun b H3 =>
    if b = true then te σ2 H3 fun y H4 => ∃ acc, H4 L = some (.lst acc) ∧ acc.length < sizeLine ∧ Nx (upd H4 L (.lst (acc ++ [y]))) else Nx H3)
theorem sx_lc {wi : TI} {g : TG} {tt : TT} {te : TE} {vs : List Nat} {σ : L2.St} {H : Hp} {Q : VK} (h : wi σ H (LcR g tt te vs σ Q)) : tLc wi g tt te vs σ H Q := h
def ForR (g : TG) (tb : TS) (D : Ends) (σ : L2.St) : It → Hp → Prop := fun J H1 => ∃ W : Nat → Nat → L2.St → Hp → Prop, (∃ m, W 0 m σ H1) ∧ ∀ i m σ H, W i m σ H →
  (J.stop i H ∧ D.nx σ H) ∨ (J.go i H ∧ ∃ N : L2.St → Hp → Prop, (∀ σ' H', N σ' H' → ∃ m', m' < m ∧ W (i + 1) m' σ' H') ∧ ∀ x H', J.yld i H x H' → g x σ H' fun σ2 H2 => tb { D with nx := N, ct := N, bk := D.nx } σ2 H2)
theorem sx_for {wi : TI} {g : TG} {tb : TS} {D : Ends} {σ : L2.St} {H : Hp} (h : wi σ H (ForR g tb D σ)) : tFor wi g tb D σ H := h
theorem sx_isrc {K : PySem.W.Frag} {tl : TE} {σ : L2.St} {H : Hp} {R : It → Hp → Prop} (h : tl σ H (srcR K R)) : iSrc K tl σ H R := h
theorem sx_izip {K : PySem.W.Frag} {ta : TA} {σ : L2.St} {H : Hp} {R : It → Hp → Prop} (h : ta σ H (zipR K R)) : iZipS K ta σ H R := h
theorem sx_ienum {K : PySem.W.Frag} {ta : TA} {σ : L2.St} {H : Hp} {R : It → Hp → Prop} (h : ta σ H (enumR K R)) : iEnumS K ta σ H R := h
section
variable {K : PySem.W.Frag} {M : Addr → Prop} {I : Hp → Prop} {α β : Type} {as : List α} {bs : List β} {tt : TT} {te : TE} {vs : List Nat} {σ : L2.St} {H1 : Hp} {Q : VK} {enc : α → D} {enc2 : β → D}
theorem reps_at {H : Hp} {xs : List V} {k : Nat} {a : α} (r : Reps K M H xs (as.map enc)) (h : as[k]? = some a) : ∃ x, xs[k]? = some x ∧ Rep K M H x (enc a) := r.get (by simp [h])
theorem reps_len {H : Hp} {xs : List V} (r : Reps K M H xs (as.map enc)) : xs.length = as.length := by simpa using r.length
/-- [e for x in s if t] -/
theorem lc_src {i : Nat} {x : V} {d : D} (hw : Wf M I) (hI : I H1) (hx : Rep K M H1 x d) (hd : d.elems = some (as.map enc)) (hlen : as.length ≤ sizeLine) (hwp : ∀ v, wipe ((wipe σ vs).set i (some v)) vs = wipe σ vs) (p : α → Bool) (P : α → D → Prop)
    (ht : ∀ (L : Addr) (acc : List V) (k : Nat) (a : α) (v : V) (H : Hp), H1 L = none → ¬ M L → as[k]? = some a → Rep K (Mq M L) H v (enc a) → Wf (Mq M L) (Iq I L (.lst acc)) → Iq I L (.lst acc) H → Ex (Mq M L) H1 H →
      ∀ Qt : Bool → Hp → Prop, (∀ H3, Iq I L (.lst acc) H3 → Ex (Mq M L) H H3 → Qt (p a) H3) → tt ((wipe σ vs).set i (some v)) H Qt)
    (he : ∀ (L : Addr) (acc : List V) (k : Nat) (a : α) (v : V) (H : Hp), H1 L = none → ¬ M L → as[k]? = some a → p a = true → Rep K (Mq M L) H v (enc a) → Wf (Mq M L) (Iq I L (.lst acc)) → Iq I L (.lst acc) H → Ex (Mq M L) H1 H →
      ∀ Qe : VK, (∀ y d H4, P a d → Rep K (Mq M L) H4 y d → Iq I L (.lst acc) H4 → Ex (Mq M L) H H4 → Qe y H4) → te ((wipe σ vs).set i (some v)) H Qe)
    (hq : ∀ y ds H', A2 P (as.filter p) ds → Rep K M H' y (.lst ds) → Ex M H1 H' → I H' → Q y H') : srcR K (LcR (gName i) tt te vs σ Q) x H1 := by
  obtain ⟨S, xs, rfl, r, hS⟩ := src_of hx hd
  have hl := reps_len r
  have key : ∀ {J : It} {G : Hp → Prop} {Y : Nat → Hp → V → Hp → Prop}, L2.Walk J as.length G Y → (∀ H', Ex M H1 H' → G H') → (∀ k H x H', Y k H x H' → H' = H ∧ xs[k]? = some x) → LcR (gName i) tt te vs σ Q J H1 := fun {J G Y} w hG hY => by
    refine lc_any (K := K) w hw hI p P (fun k _ => (wipe σ vs).set i (some (xs.getD k .non))) hG hlen (fun k a ha => ?_) (fun k a => hwp _) ?_ ?_ ?_
    · exact bd_name fun H x H' y => by
        obtain ⟨e1, e2⟩ := hY k H x H' y
        exact ⟨e1, by simp [List.getD, e2]⟩
    · intro L acc k a H hL nL ha wf hi ex Qt q
      obtain ⟨v, hv, rv⟩ := reps_at r ha
      have e : xs.getD k .non = v := by simp [List.getD, hv]
      rw [e]
      exact ht L acc k a v H hL nL ha ((rv.off hL).ex ex) wf hi ex Qt q
    · intro L acc k a H hL nL ha hp wf hi ex Qt q
      obtain ⟨v, hv, rv⟩ := reps_at r ha
      have e : xs.getD k .non = v := by simp [List.getD, hv]
      rw [e]
      exact he L acc k a v H hL nL ha hp ((rv.off hL).ex ex) wf hi ex Qt q
    · exact fun L ds H' hL a2 rp ex hi => hq _ ds H' a2 rp ex hi
  cases S with
  | lst a =>
    refine .inl ⟨a, rfl, ⟨xs, hS H1 (Ex.refl _)⟩, ?_⟩
    have w := walk_list (K := K) (a := a) (xs := xs)
    rw [hl] at w
    exact key w hS fun k H x H' y => y
  | tup a =>
    refine .inr (.inl ⟨a, rfl, ⟨xs, hS H1 (Ex.refl _)⟩, ?_⟩)
    have w := walk_tup (K := K) (a := a) (xs := xs)
    rw [hl] at w
    exact key w hS fun k H x H' y => y
  | txt z =>
    refine .inr (.inr ⟨z, rfl, ?_⟩)
    have hxs : xs = signs z := hS H1 (Ex.refl _)
    have w := walk_str (z := z)
    have hz : z.cps.size = as.length := by rw [← hl, hxs]; simp [signs]
    rw [hz] at w
    refine key w (fun _ _ => trivial) fun k H x H' y => ⟨y.1, ?_⟩
    obtain ⟨_, c, e1, e2⟩ := y
    rw [hxs, e2]
    simp [signs, e1]
/-- [e for x, y in zip(s, t) if ..] -/
theorem lc_zip {i j : Nat} {x1 x2 : V} {d1 d2 : D} (hw : Wf M I) (hI : I H1) (hx : Rep K M H1 x1 d1) (hd : d1.elems = some (as.map enc)) (hx2 : Rep K M H1 x2 d2) (hd2 : d2.elems = some (bs.map enc2)) (hlen : as.length ≤ sizeLine)
    (hwp : ∀ v w, wipe (((wipe σ vs).set i (some v)).set j (some w)) vs = wipe σ vs) (p : α × β → Bool) (P : α × β → D → Prop)
    (ht : ∀ (L : Addr) (acc : List V) (k : Nat) (a : α) (b : β) (v w : V) (H : Hp), H1 L = none → ¬ M L → as[k]? = some a → bs[k]? = some b → Rep K (Mq M L) H v (enc a) → Rep K (Mq M L) H w (enc2 b) → Wf (Mq M L) (Iq I L (.lst acc)) → Iq I L (.lst acc) H → Ex (Mq M L) H1 H →
      ∀ Qt : Bool → Hp → Prop, (∀ H3, Iq I L (.lst acc) H3 → Ex (Mq M L) H H3 → Qt (p (a, b)) H3) → tt (((wipe σ vs).set i (some v)).set j (some w)) H Qt)
    (he : ∀ (L : Addr) (acc : List V) (k : Nat) (a : α) (b : β) (v w : V) (H : Hp), H1 L = none → ¬ M L → as[k]? = some a → bs[k]? = some b → p (a, b) = true → Rep K (Mq M L) H v (enc a) → Rep K (Mq M L) H w (enc2 b) → Wf (Mq M L) (Iq I L (.lst acc)) → Iq I L (.lst acc) H → Ex (Mq M L) H1 H →
      ∀ Qe : VK, (∀ y d H4, P (a, b) d → Rep K (Mq M L) H4 y d → Iq I L (.lst acc) H4 → Ex (Mq M L) H H4 → Qe y H4) → te (((wipe σ vs).set i (some v)).set j (some w)) H Qe)
    (hq : ∀ y ds H', A2 P ((as.zip bs).filter p) ds → Rep K M H' y (.lst ds) → Ex M H1 H' → I H' → Q y H') : zipR K (LcR (gTup K 2 (gCons (gName i) (gCons (gName j) gNil))) tt te vs σ Q) [x1, x2] H1 := by
  obtain ⟨S1, xs, rfl, r, hS⟩ := src_of hx hd
  obtain ⟨S2, ys, rfl, r2, hS2⟩ := src_of hx2 hd2
  have hl := reps_len r
  have hl2 := reps_len r2
  refine ⟨S1, S2, xs, ys, rfl, hS _ (Ex.refl _), hS2 _ (Ex.refl _), ?_⟩
  have hz : (as.zip bs).length = min xs.length ys.length := by rw [List.length_zip, hl, hl2]
  have at_ : ∀ {k : Nat} {ab : α × β}, (as.zip bs)[k]? = some ab → as[k]? = some ab.1 ∧ bs[k]? = some ab.2 := fun {k ab} h => by
    obtain ⟨a, b⟩ := ab
    exact List.getElem?_zip_eq_some.mp h
  refine lc_any (K := K) (walk_zipS hz) hw hI p P (fun k _ => ((wipe σ vs).set i (some (xs.getD k .non))).set j (some (ys.getD k .non))) (fun H' e => ⟨hS H' e, hS2 H' e⟩) (by rw [List.length_zip]; omega) (fun k a ha => ?_) (fun k a => hwp _ _) ?_ ?_ ?_
  · exact bd_pair fun H x H' y => by
      obtain ⟨T, u, v, e1, e2, e3, e4, e5⟩ := y
      refine ⟨T, e1, e2, ?_⟩
      simp [List.getD, e4, e5, e3]
  · intro L acc k ab H hL nL ha wf hi ex Qt q
    obtain ⟨h1, h2⟩ := at_ ha
    obtain ⟨v, hv, rv⟩ := reps_at r h1
    obtain ⟨w, hv2, rv2⟩ := reps_at r2 h2
    have e : xs.getD k .non = v := by simp [List.getD, hv]
    have e2 : ys.getD k .non = w := by simp [List.getD, hv2]
    rw [e, e2]
    exact ht L acc k ab.1 ab.2 v w H hL nL h1 h2 ((rv.off hL).ex ex) ((rv2.off hL).ex ex) wf hi ex Qt q
  · intro L acc k ab H hL nL ha hp wf hi ex Qt q
    obtain ⟨h1, h2⟩ := at_ ha
    obtain ⟨v, hv, rv⟩ := reps_at r h1
    obtain ⟨w, hv2, rv2⟩ := reps_at r2 h2
    have e : xs.getD k .non = v := by simp [List.getD, hv]
    have e2 : ys.getD k .non = w := by simp [List.getD, hv2]
    rw [e, e2]
    exact he L acc k ab.1 ab.2 v w H hL nL h1 h2 hp ((rv.off hL).ex ex) ((rv2.off hL).ex ex) wf hi ex Qt q
  · exact fun L ds H' hL a2 rp ex hi => hq _ ds H' a2 rp ex hi
/-- [e for i, x in enumerate(s) if ..] -/
theorem lc_enum {i j : Nat} {x1 : V} {d1 : D} (hw : Wf M I) (hI : I H1) (hx : Rep K M H1 x1 d1) (hd : d1.elems = some (as.map enc)) (hlen : as.length ≤ sizeLine)
    (hwp : ∀ v w, wipe (((wipe σ vs).set i (some v)).set j (some w)) vs = wipe σ vs) (p : α × Nat → Bool) (P : α × Nat → D → Prop)
    (ht : ∀ (L : Addr) (acc : List V) (k : Nat) (a : α) (v : V) (H : Hp), H1 L = none → ¬ M L → as[k]? = some a → Rep K (Mq M L) H v (enc a) → Wf (Mq M L) (Iq I L (.lst acc)) → Iq I L (.lst acc) H → Ex (Mq M L) H1 H →
      ∀ Qt : Bool → Hp → Prop, (∀ H3, Iq I L (.lst acc) H3 → Ex (Mq M L) H H3 → Qt (p (a, k)) H3) → tt (((wipe σ vs).set i (some (.int (k : Nat)))).set j (some v)) H Qt)
    (he : ∀ (L : Addr) (acc : List V) (k : Nat) (a : α) (v : V) (H : Hp), H1 L = none → ¬ M L → as[k]? = some a → p (a, k) = true → Rep K (Mq M L) H v (enc a) → Wf (Mq M L) (Iq I L (.lst acc)) → Iq I L (.lst acc) H → Ex (Mq M L) H1 H →
      ∀ Qe : VK, (∀ y d H4, P (a, k) d → Rep K (Mq M L) H4 y d → Iq I L (.lst acc) H4 → Ex (Mq M L) H H4 → Qe y H4) → te (((wipe σ vs).set i (some (.int (k : Nat)))).set j (some v)) H Qe)
    (hq : ∀ y ds H', A2 P ((as.zipIdx).filter p) ds → Rep K M H' y (.lst ds) → Ex M H1 H' → I H' → Q y H') : enumR K (LcR (gTup K 2 (gCons (gName i) (gCons (gName j) gNil))) tt te vs σ Q) [x1] H1 := by
  obtain ⟨S1, xs, rfl, r, hS⟩ := src_of hx hd
  have hl := reps_len r
  refine ⟨S1, xs, rfl, hS _ (Ex.refl _), ?_⟩
  have w := walk_enumS (K := K) (S := S1) (xs := xs)
  rw [show xs.length = as.zipIdx.length by simp [hl]] at w
  have at_ : ∀ {k : Nat} {ab : α × Nat}, as.zipIdx[k]? = some ab → as[k]? = some ab.1 ∧ ab.2 = k := fun {k ab} h => by
    rw [List.getElem?_zipIdx] at h
    cases e : as[k]? with
    | none => rw [e] at h; cases h
    | some a => rw [e] at h; cases h; exact ⟨rfl, by simp⟩
  refine lc_any (K := K) w hw hI p P (fun k _ => ((wipe σ vs).set i (some (.int (k : Nat)))).set j (some (xs.getD k .non))) (fun H' e => hS H' e) (by simpa using hlen) (fun k a ha => ?_) (fun k a => hwp _ _) ?_ ?_ ?_
  · exact bd_pair fun H x H' y => by
      obtain ⟨T, u, v, e1, e2, e3, e4, e5⟩ := y
      refine ⟨T, e1, e2, ?_⟩
      cases e4
      simp [List.getD, e5, e3]
  · intro L acc k ab H hL nL ha wf hi ex Qt q
    obtain ⟨h1, h2⟩ := at_ ha
    obtain ⟨a, b⟩ := ab
    simp only at h1 h2
    subst h2
    obtain ⟨v, hv, rv⟩ := reps_at r h1
    have e : xs.getD b .non = v := by simp [List.getD, hv]
    rw [e]
    exact ht L acc b a v H hL nL h1 ((rv.off hL).ex ex) wf hi ex Qt q
  · intro L acc k ab H hL nL ha hp wf hi ex Qt q
    obtain ⟨h1, h2⟩ := at_ ha
    obtain ⟨a, b⟩ := ab
    simp only at h1 h2
    subst h2
    obtain ⟨v, hv, rv⟩ := reps_at r h1
    have e : xs.getD b .non = v := by simp [List.getD, hv]
    rw [e]
    exact he L acc b a v H hL nL h1 hp ((rv.off hL).ex ex) wf hi ex Qt q
  · exact fun L ds H' hL a2 rp ex hi => hq _ ds H' a2 rp ex hi
/-- [e for k in range(..) if ..] -/
theorem lc_rng {i : Nat} {lo : Int} {n : Nat} (hw : Wf M I) (hI : I H1) (hlen : n ≤ sizeLine) (hwp : ∀ v, wipe ((wipe σ vs).set i (some v)) vs = wipe σ vs) (p : Nat → Bool) (P : Nat → D → Prop)
    (ht : ∀ (L : Addr) (acc : List V) (k : Nat) (H : Hp), H1 L = none → ¬ M L → k < n → Wf (Mq M L) (Iq I L (.lst acc)) → Iq I L (.lst acc) H → Ex (Mq M L) H1 H →
      ∀ Qt : Bool → Hp → Prop, (∀ H3, Iq I L (.lst acc) H3 → Ex (Mq M L) H H3 → Qt (p k) H3) → tt ((wipe σ vs).set i (some (.int (lo + (k : Nat))))) H Qt)
    (he : ∀ (L : Addr) (acc : List V) (k : Nat) (H : Hp), H1 L = none → ¬ M L → k < n → p k = true → Wf (Mq M L) (Iq I L (.lst acc)) → Iq I L (.lst acc) H → Ex (Mq M L) H1 H →
      ∀ Qe : VK, (∀ y d H4, P k d → Rep K (Mq M L) H4 y d → Iq I L (.lst acc) H4 → Ex (Mq M L) H H4 → Qe y H4) → te ((wipe σ vs).set i (some (.int (lo + (k : Nat))))) H Qe)
    (hq : ∀ y ds H', A2 P ((List.range n).filter p) ds → Rep K M H' y (.lst ds) → Ex M H1 H' → I H' → Q y H') : LcR (gName i) tt te vs σ Q (Itr lo n) H1 := by
  have w := walk_range (lo := lo) (n := n)
  rw [show Walk (Itr lo n) n = Walk (Itr lo n) (List.range n).length by simp] at w
  have at_ : ∀ {k a : Nat}, (List.range n)[k]? = some a → k < n ∧ a = k := fun {k a} h => by
    have hk := (List.getElem?_eq_some_iff.mp h).1
    rw [List.length_range] at hk
    rw [List.getElem?_range hk] at h
    cases h
    exact ⟨hk, rfl⟩
  refine lc_any (K := K) w hw hI p P (fun k _ => (wipe σ vs).set i (some (.int (lo + (k : Nat))))) (fun _ _ => trivial) (by simpa using hlen) (fun k a ha => ?_) (fun k a => hwp _) ?_ ?_ ?_
  · exact bd_name fun H x H' y => y
  · intro L acc k a H hL nL ha wf hi ex Qt q
    obtain ⟨h1, rfl⟩ := at_ ha
    exact ht L acc a H hL nL h1 wf hi ex Qt q
  · intro L acc k a H hL nL ha hp wf hi ex Qt q
    obtain ⟨h1, rfl⟩ := at_ ha
    exact he L acc a H hL nL h1 hp wf hi ex Qt q
  · exact fun L ds H' hL a2 rp ex hi => hq _ ds H' a2 rp ex hi
/-! ### loops -/
theorem for_src {i : Nat} {x : V} {d : D} {tb : TS} {E : Ends} (hx : Rep K M H1 x d) (hd : d.elems = some (as.map enc)) (Pv : Nat → L2.St → Hp → Prop) (h0 : Pv 0 σ H1) (hG : ∀ k σ H, Pv k σ H → Ex M H1 H)
    (hs : ∀ k a v σ H, as[k]? = some a → Pv k σ H → Rep K M H v (enc a) → tb { E with nx := Pv (k + 1), ct := Pv (k + 1), bk := E.nx } (σ.set i (some v)) H) (hq : ∀ σ H, Pv as.length σ H → E.nx σ H) : srcR K (ForR (gName i) tb E σ) x H1 := by
  obtain ⟨S, xs, rfl, r, hS⟩ := src_of hx hd
  have hl := reps_len r
  have key : ∀ {J : It} {G : Hp → Prop} {Y : Nat → Hp → V → Hp → Prop}, L2.Walk J as.length G Y → (∀ H', Ex M H1 H' → G H') → (∀ k H x H', Y k H x H' → H' = H ∧ xs[k]? = some x) → ForR (gName i) tb E σ J H1 := fun {J G Y} w hG2 hY => by
    refine for_it w Pv h0 (fun k σ H _ h => hG2 _ (hG k σ H h)) (fun k x σ H H' hk h y => ?_) hq
    obtain ⟨rfl, e2⟩ := hY _ _ _ _ y
    have ha : as[k]? = some as[k] := by simp [hk]
    obtain ⟨v, hv, rv⟩ := reps_at r ha
    rw [hv] at e2
    cases e2
    exact hs k _ _ σ _ ha h (rv.ex (hG _ _ _ h))
  cases S with
  | lst a =>
    refine .inl ⟨a, rfl, ⟨xs, hS H1 (Ex.refl _)⟩, ?_⟩
    have w := walk_list (K := K) (a := a) (xs := xs)
    rw [hl] at w
    exact key w hS fun k H x H' y => y
  | tup a =>
    refine .inr (.inl ⟨a, rfl, ⟨xs, hS H1 (Ex.refl _)⟩, ?_⟩)
    have w := walk_tup (K := K) (a := a) (xs := xs)
    rw [hl] at w
    exact key w hS fun k H x H' y => y
  | txt z =>
    refine .inr (.inr ⟨z, rfl, ?_⟩)
    have hxs : xs = signs z := hS H1 (Ex.refl _)
    have w := walk_str (z := z)
    have hz : z.cps.size = as.length := by rw [← hl, hxs]; simp [signs]
    rw [hz] at w
    refine key w (fun _ _ => trivial) fun k H x H' y => ⟨y.1, ?_⟩
    obtain ⟨_, c, e1, e2⟩ := y
    rw [hxs, e2]
    simp [signs, e1]
theorem for_rng {i : Nat} {lo : Int} {n : Nat} {tb : TS} {E : Ends} (Pv : Nat → L2.St → Hp → Prop) (h0 : Pv 0 σ H1)
    (hs : ∀ k σ H, k < n → Pv k σ H → tb { E with nx := Pv (k + 1), ct := Pv (k + 1), bk := E.nx } (σ.set i (some (.int (lo + (k : Nat))))) H) (hq : ∀ σ H, Pv n σ H → E.nx σ H) : ForR (gName i) tb E σ (Itr lo n) H1 := by
  refine for_it walk_range Pv h0 (fun _ _ _ _ _ => trivial) (fun k x σ H H' hk h y => ?_) hq
  obtain ⟨rfl, rfl⟩ := y
  exact hs k σ _ hk h
end
end Nt

namespace Nt
open PySem PySem.Spec PyProof.Rows L2
/-! ### a def that keeps a promise -/
structure Df (P : Program) (w : World) (K : PySem.W.Frag) (mg : Str → Option Value) (base : Heap) (k : Nat) (x : Str) (ps : List Str) (dfl : List V) (sp : Sp) : Prop where
  mgx : mg x = some (.ref (He.ga K x))
  ok : ∃ fd, FnOk P w K mg base (L2.CX P w) k (He.ga K x) fd ps sp ∧ ∀ j, j ≤ dfl.length → ∃ ds, Vals (dfl.drop j) ds ∧ Binds K fd ps ds
  kp : PySem.W.keepIn K (.ref (He.ga K x)) = true
/-- where a def stands, and how it is bound: what the head tells -/
structure At (K : PySem.W.Frag) (mg : Str → Option Value) (x : Str) (st : Stmt) (ps : List Str) (dfl : List V) : Prop where
  mgx : mg x = some (.ref (He.ga K x))
  ex : ∃ fd, FunD K x x (defArgs st) (defBody st) (defScope st) dfl [] (He.ga K x) fd ∧ ∀ j, j ≤ dfl.length → ∃ ds, Vals (dfl.drop j) ds ∧ Binds K fd ps ds
section
variable {P : Program} {w : World} {K : PySem.W.Frag} {mg : Str → Option Value} {base : Heap} {k : Nat} {x : Str} {ps : List Str} {dfl : List V} {sp : Sp} {st : Stmt} {N : List Str}
/-- a def that raises nothing -/
theorem At.df (F : At K mg x st ps dfl) (S : FnScope N ps (defScope st)) (len : ∀ vs H Q E, sp vs H Q E → vs.length = ps.length)
    (hbody : ∀ (f : Addr) (cdv : Value) (A : Around) (outer : List Env) (s : Shared) (H : Hp) (vs : List V) (Q : VK) (E : XK), Room k (A.deeper (envOfC x (defScope st) s.heap.objs.size f cdv)) → sp vs H Q E →
      ∃ t, PSs (cxOf (L2.CX P w) P w K mg base N x (defScope st) f cdv A outer s H E).nox (defBody st) t ∧ t { nx := fun _ H' => Q .non H', rt := Q } (start N vs) H) : Df P w K mg base (k + 1) x ps dfl sp := by
  obtain ⟨fd, F1, F2⟩ := F.ex
  refine ⟨F.mgx, ⟨fd, F1.ok S len fun cdv A outer s H vs Q E hr h => ?_, F2⟩, F1.kp⟩
  obtain ⟨t, h1, h2⟩ := hbody _ cdv A outer s H vs Q E hr h
  exact ⟨t, h1.nox, h2⟩
theorem At.dfX (F : At K mg x st ps dfl) (S : FnScope N ps (defScope st)) (len : ∀ vs H Q E, sp vs H Q E → vs.length = ps.length)
    (hbody : ∀ (f : Addr) (cdv : Value) (A : Around) (outer : List Env) (s : Shared) (H : Hp) (vs : List V) (Q : VK) (E : XK), Room k (A.deeper (envOfC x (defScope st) s.heap.objs.size f cdv)) → sp vs H Q E →
      ∃ t, PSs (cxOf (L2.CX P w) P w K mg base N x (defScope st) f cdv A outer s H E) (defBody st) t ∧ t { nx := fun _ H' => Q .non H', rt := Q } (start N vs) H) : Df P w K mg base (k + 1) x ps dfl sp := by
  obtain ⟨fd, F1, F2⟩ := F.ex
  exact ⟨F.mgx, ⟨fd, F1.ok S len fun cdv A outer s H vs Q E hr h => hbody _ cdv A outer s H vs Q E hr h, F2⟩, F1.kp⟩
end
section
variable {X : Cx} {k : Nat} {x : Str} {ps : List Str} {dfl : List V} {sp : Sp} {e : Expr} {es : List Expr} {t : TA} {p pos : Pos}
/-- f(e, ..): what is not written comes from the defaults behind the first j -/
theorem pe_df (j : Nat) (G : Df X.prog X.w X.K X.mg X.base k x ps dfl sp) (hr : Room k X.A) (hg : Gl X x) (ha : PA X (e :: es) t) (hj : j ≤ dfl.length := by decide) (hdb : (x == ("__debug__" : Str)) = false := by decide)
    (he : starEach (e :: es) X.env = (false, eval e X.env) :: starEach es X.env := by rfl) (hpl : (backTo pos (starEach es X.env)).any (·.1) = false := by rfl) :
    PE X (.Call (.Name x p) (e :: es) [] pos) (tCall sp (dfl.drop j) E0 t) := by
  obtain ⟨fd, F, hb⟩ := G.ok
  obtain ⟨ds, hd, b⟩ := hb j hj
  exact pe_call F hr hg G.mgx G.kp b hd passL ha hdb he hpl
theorem pe_df0 (j : Nat) (G : Df X.prog X.w X.K X.mg X.base k x ps dfl sp) (hr : Room k X.A) (hg : Gl X x) (hj : j ≤ dfl.length := by decide) (hdb : (x == ("__debug__" : Str)) = false := by decide) :
    PE X (.Call (.Name x p) [] [] pos) (tCall sp (dfl.drop j) E0 tNil) := by
  obtain ⟨fd, F, hb⟩ := G.ok
  obtain ⟨ds, hd, b⟩ := hb j hj
  exact pe_call0 F hr hg G.mgx G.kp b hd passL hdb
end
/-! ### more universal operators -/
section
variable {X : Cx}
def rMulU : R2 := fun x y H Q => rI CMulW (fun i j => .int (i * j)) x y H Q ∨ rI CMul (fun i j => .int (i * j)) x y H Q ∨ rRepS x y H Q ∨ rRep x y H Q
theorem op_mulU : OpR X (binaryOp .Mult) rMulU := op_mulW.or (op_mul.or (op_repS.or op_rep))
def rEqU (K : PySem.W.Frag) : R2 := fun x y H Q => rEq x y H Q ∨ rEqD K x y H Q
theorem op_eqU (hu : X.A.units + 64 < cLine) : OpR X (compareOp .Eq) (rEqU X.K) := op_eq.or (op_eqD hu)
def rNeU (K : PySem.W.Frag) : R2 := fun x y H Q => rNe x y H Q ∨ rNeD K x y H Q
theorem op_neU (hu : X.A.units + 64 < cLine) : OpR X (compareOp .NotEq) (rNeU X.K) := op_ne.or (op_neD hu)
theorem units5 {k : Nat} {A : Around} (r : Room k A) : A.units + 65 < cLine := by have := r.un; omega
def rInU (K : PySem.W.Frag) : R2 := fun x y H Q => rInS x y H Q ∨ rIn K false x y H Q ∨ rInD K x y H Q
theorem op_inU (hv : X.A.units + 65 < cLine) : OpR X (compareOp .In) (rInU X.K) := op_inS.or (op_in_seq.or (op_inD hv))
def rNiU (K : PySem.W.Frag) : R2 := fun x y H Q => rNotInS x y H Q ∨ rIn K true x y H Q ∨ rNotInD K x y H Q
theorem op_niU (hv : X.A.units + 65 < cLine) : OpR X (compareOp .NotIn) (rNiU X.K) := op_notInS.or (op_notIn_seq.or (op_notInD hv))
theorem SlR.or {r r' : V → Option Int → Option Int → Hp → VK → Prop} (h : L2.SlR X r) (h' : L2.SlR X r') : L2.SlR X (fun x l u H Q => r x l u H Q ∨ r' x l u H Q) := by
  intro pins s σ H x v vl vu lo hi sl Q I rx hs pl pu z
  rcases z with z | z
  · exact h pins s σ H x v vl vu lo hi sl Q I rx hs pl pu z
  · exact h' pins s σ H x v vl vu lo hi sl Q I rx hs pl pu z
def rSlU (K : PySem.W.Frag) : V → Option Int → Option Int → Hp → VK → Prop := fun x l u H Q => rSlL K x l u H Q ∨ rSlA K x l u H Q ∨ rSlS x l u H Q
theorem sl_U : L2.SlR X (rSlU X.K) := SlR.or sl_list (SlR.or sl_tupA sl_str)
def rLen (K : PySem.W.Frag) : List V → Hp → VK → Prop := fun xs H Q => ∃ x n, xs = [x] ∧ LenV K x H n ∧ Q (.int n) H
theorem call_lenU : CallR X (.builtin "len") (rLen X.K) := call_len
def rInt1 : List V → Hp → VK → Prop := fun xs H Q => (∃ i, xs = [.int i] ∧ Q (.int i) H) ∨ ∃ k, xs = [.bl k] ∧ Q (.int (if k then 1 else 0)) H
theorem call_intU : CallR X (.type "int") rInt1 := call_int1
def rStr1 : List V → Hp → VK → Prop := fun xs H Q => ∃ i, xs = [.int i] ∧ i.natAbs.log2 < 1920 ∧ Q (.str (toString i)) H
theorem call_strU : CallR X (.type "str") rStr1 := call_str_int
def rListS (K : PySem.W.Frag) : List V → Hp → VK → Prop := fun xs H Q => ∃ p ys, xs = [.ref p] ∧ (SqL K H p ys ∨ SqT K H p ys) ∧ ∀ l, H l = none → Q (.ref l) (upd H l (.lst ys))
def rList1 (K : PySem.W.Frag) : List V → Hp → VK → Prop := fun xs H Q => rListS K xs H Q ∨ rListD xs H Q
theorem call_listU (hc : X.calm = true) : CallR X (.type "list") (rList1 X.K) := by
  intro pins s σ H xs us Q I r z
  rcases z with z | z
  · exact call_list_of pins s σ H xs us Q I r z
  · exact call_list_dK hc pins s σ H xs us Q I r z
def rTup1 (K : PySem.W.Frag) : List V → Hp → VK → Prop := fun xs H Q => ∃ p ys, xs = [.ref p] ∧ ((SqL K H p ys ∧ ∀ l, H l = none → Q (.ref l) (upd H l (.tup ys))) ∨ (SqT K H p ys ∧ Q (.ref p) H))
theorem call_tupU : CallR X (.type "tuple") (rTup1 X.K) := call_tuple_of
def rAbs : List V → Hp → VK → Prop := fun xs H Q => ∃ i, xs = [.int i] ∧ Q (.int (if i < 0 then -i else i)) H
theorem call_absU : CallR X (.builtin "abs") rAbs := call_abs
def rJoin (K : PySem.W.Frag) : V → List V → Hp → VK → Prop := fun x xs H Q => ∃ a p, ∃ ys : List Str, x = .str a ∧ xs = [.ref p] ∧ (SqL K H p (ys.map V.str) ∨ SqT K H p (ys.map V.str)) ∧ (ys.map (·.length)).sum + ys.length * a.length ≤ 16777216 ∧ Q (.str (Txt.join a ys)) H
theorem pe_joinU {o e : Expr} {to te : TE} {apos pos : Pos} (ho : PE X o to) (he : PE X e te) (hs : starEach [e] X.env = [(false, eval e X.env)] := by rfl) (hbase : attributeBase o "join" X.env (eval o X.env) = eval o X.env := by rfl) (hline : (apos.endLine == pos.line) = true := by rfl) :
    PE X (.Call (.Attribute o "join" apos) [e] [] pos) (tM1 (rJoin X.K) to te) := pe_join ho he hs hbase hline
theorem pt_tru {a : Expr} {ta : TE} (ha : PE X a ta) (he : ∀ whole, isTrue a X.env whole = (do let v ← whole; standAt a.pos; holding [v] (truthy v)) := by intro _; rfl) : PT X a (tTru X.K ta) := pt_truth ha he
end
end Nt

namespace Nt
open PySem PySem.Spec PyProof.Rows L2
section
variable {X : Cx}
def rSubU : R2 := rI0 fun i j => .int (i - j)
theorem op_subU : OpR X (binaryOp .Sub) rSubU := op_sub
def rDivU : R2 := rI CDivW fun i j => .int (i / j)
theorem op_divU : OpR X (binaryOp .FloorDiv) rDivU := op_fdivW
def rModU : R2 := rI (fun _ j => 0 < j) fun i j => .int (i % j)
theorem op_modU : OpR X (binaryOp .Mod) rModU := op_mod
def rPowU : R2 := rI CPow fun i j => .int (i ^ j.toNat)
theorem op_powU : OpR X (binaryOp .Pow) rPowU := op_pow
def rAndU : R2 := rI0 fun i j => .int (Builtin.bitAnd i j)
theorem op_andU : OpR X (binaryOp .BitAnd) rAndU := op_and
def rOrU : R2 := rI0 fun i j => .int (Builtin.bitOr i j)
theorem op_orU : OpR X (binaryOp .BitOr) rOrU := op_or
def rXorU : R2 := rI0 fun i j => .int (Builtin.bitXor i j)
theorem op_xorU : OpR X (binaryOp .BitXor) rXorU := op_xor
def rNegU : V → Hp → VK → Prop := rU fun i => .int (-i)
theorem un_negU : UnR X (unaryOp .USub) rNegU := un_neg
def rInvU : V → Hp → VK → Prop := rU fun i => .int (Builtin.bitNot i)
theorem un_invU : UnR X (unaryOp .Invert) rInvU := un_inv
def rLtU : R2 := rI0 fun i j => .bl (decide (i < j))
theorem op_ltU : OpR X (compareOp .Lt) rLtU := op_lt
def rLeU : R2 := rI0 fun i j => .bl (decide (i ≤ j))
theorem op_leU : OpR X (compareOp .LtE) rLeU := op_le
def rGtU : R2 := rI0 fun i j => .bl (decide (j < i))
theorem op_gtU : OpR X (compareOp .Gt) rGtU := op_gt
def rGeU : R2 := rI0 fun i j => .bl (decide (j ≤ i))
theorem op_geU : OpR X (compareOp .GtE) rGeU := op_ge
def rIsBU : R2 := fun x y H Q => ∃ a b : Bool, x = .bl a ∧ y = .bl b ∧ Q (.bl (decide (a = b))) H
theorem op_isBU : OpR X (compareOp .Is) rIsBU := op_isBl
def rNotBU : R2 := fun x y H Q => ∃ a b : Bool, x = .bl a ∧ y = .bl b ∧ Q (.bl (!decide (a = b))) H
theorem op_notBU : OpR X (compareOp .IsNot) rNotBU := op_notBl
theorem pe_strT {x : Str} {l : List Nat} {j : Nat} {pos : Pos} (h : x = T l) : PE X (.Constant (.str x) j pos) (tC (.str (T l))) := by
  subst h
  exact pe_str
theorem pe_globS {x : Str} {z : Str} {pos : Pos} (hg : Gl X x) (h : ∃ t, X.mg x = some (.str z t)) (hd : (x == ("__debug__" : Str)) = false := by decide) : PE X (.Name x pos) (tC (.str z)) := by
  obtain ⟨t, h⟩ := h
  exact pe_glob hg h ⟨t, rfl⟩ hd
theorem pe_globI {x : Str} {z : Int} {pos : Pos} (hg : Gl X x) (h : ∃ t, X.mg x = some (.int z t)) (hd : (x == ("__debug__" : Str)) = false := by decide) : PE X (.Name x pos) (tC (.int z)) := by
  obtain ⟨t, h⟩ := h
  exact pe_glob hg h ⟨t, rfl⟩ hd
def rCount : V → List V → Hp → VK → Prop := fun x xs H Q => ∃ a b, x = .str a ∧ xs = [.str b] ∧ Q (.int (Txt.count a b)) H
theorem pe_countU {o e : Expr} {to te : TE} {apos pos : Pos} (ho : PE X o to) (he : PE X e te) (hs : starEach [e] X.env = [(false, eval e X.env)] := by rfl) (hbase : attributeBase o "count" X.env (eval o X.env) = eval o X.env := by rfl) (hline : (apos.endLine == pos.line) = true := by rfl) :
    PE X (.Call (.Attribute o "count" apos) [e] [] pos) (tM1 rCount to te) := pe_m1 F.slot_str_count F.type_str_count mt_count ho he hs hbase hline
def rMax : List V → Hp → VK → Prop := fun xs H Q => ∃ i j, xs = [.int i, .int j] ∧ Q (.int (if j > i then j else i)) H
theorem call_maxU (hc : X.calm = true) : CallR X (.builtin "max") rMax := call_max2 hc
end
end Nt

namespace Nt
open PySem PySem.Spec PyProof.Rows L2
/-- int of a whole number, a bool or a text -/
def rIntA : List V → Hp → VK → Prop := fun xs H Q => rInt1 xs H Q ∨ ∃ a n, xs = [.str a] ∧ PySem.intText? a = some n ∧ a.length ≤ 640 ∧ Q (.int n) H
theorem call_intA {X : Cx} : CallR X (.type "int") rIntA := call_intU.or call_int_str
end Nt

namespace Nt
open PySem PySem.Spec PyProof.Rows L2
/-! ### readings, step by step -/
def TupK (Q : VK) : List V → Hp → Prop := fun xs H1 => xs.length ≤ sizeLine ∧ ∀ p, H1 p = none → Q (.ref p) (upd H1 p (.tup xs))
def LstK (Q : VK) : List V → Hp → Prop := fun xs H1 => xs.length ≤ sizeLine ∧ ∀ p, H1 p = none → Q (.ref p) (upd H1 p (.lst xs))
def RevK (K : PySem.W.Frag) (Q : VK) : V → Hp → Prop := fun x H1 => ∃ a xs, x = .ref a ∧ SqL K H1 a xs ∧ ∀ p, H1 p = none → Q (.ref p) (upd H1 p (.lst xs.reverse))
section
variable {K : PySem.W.Frag} {M : Addr → Prop} {I : Hp → Prop} {σ : L2.St} {H : Hp} {Q : VK} {QT : Bool → Hp → Prop} {QA : List V → Hp → Prop} {QO : Option Int → Hp → Prop} {v x y : V} {ta tb tc : TE} {t u : TT} {a b : TA} {E : Ends} {s1 s2 : TS} {r r' : R2} {i j k : Int} {l m : List Nat} {c : Bool}
theorem sx_var {n : Nat} (h : σ[n]? = some (some v)) (q : Q v H) : tVar n σ H Q := ⟨v, h, q⟩
theorem sx_c (q : Q v H) : tC v σ H Q := q
theorem sx_op (h : ta σ H fun x H1 => tb σ H1 fun y H2 => r x y H2 Q) : tOp r ta tb σ H Q := h
theorem sx_un {r : V → Hp → VK → Prop} (h : ta σ H fun x H1 => r x H1 Q) : tUn r ta σ H Q := h
theorem sx_if (h : t σ H fun c H1 => if c = true then ta σ H1 Q else tb σ H1 Q) : tIf t ta tb σ H Q := h
theorem sx_andV (h : ta σ H fun x H1 => ∃ c, x = .bl c ∧ if c = true then tb σ H1 Q else Q (.bl false) H1) : tAndV ta tb σ H Q := h
theorem sx_orV (h : ta σ H fun x H1 => ∃ c, x = .bl c ∧ if c = true then Q (.bl true) H1 else tb σ H1 Q) : tOrV ta tb σ H Q := h
theorem sx_notV (h : ta σ H fun x H1 => ∃ c, x = .bl c ∧ Q (.bl (!c)) H1) : tNotV ta σ H Q := h
theorem sx_chain (h : ta σ H fun x H1 => tb σ H1 fun y H2 => r x y H2 fun z H3 => ∃ k, z = .bl k ∧ if k = true then tc σ H3 (fun w H4 => r' y w H4 Q) else Q (.bl false) H3) : tChain r r' ta tb tc σ H Q := h
theorem sx_call {sp : Sp} {d : List V} {X : XK} (h : a σ H fun vs H1 => sp (vs ++ d) H1 Q X) : tCall sp d X a σ H Q := h
theorem sx_cb {r : List V → Hp → VK → Prop} (h : a σ H fun vs H1 => r vs H1 Q) : tCB r a σ H Q := h
theorem sx_m1 {r : V → List V → Hp → VK → Prop} (h : ta σ H fun x H1 => (∃ a, x = .str a) ∧ tb σ H1 fun y H2 => r x [y] H2 Q) : tM1 r ta tb σ H Q := h
theorem sx_bm {r : V → List V → Hp → VK → Prop} {T : String} (h : ta σ H fun x H1 => tyV K T x H1 ∧ a σ H1 fun xs H2 => r x xs H2 Q) : tBM K T r ta a σ H Q := h
theorem sx_bm0 {r : V → List V → Hp → VK → Prop} {T : String} (h : ta σ H fun x H1 => tyV K T x H1 ∧ r x [] H1 Q) : tBM0 K T r ta σ H Q := h
theorem sx_sl {r : V → Option Int → Option Int → Hp → VK → Prop} {tl th : TO} (h : ta σ H fun x H1 => tl σ H1 fun l H2 => th σ H2 fun u H3 => r x l u H3 Q) : tSl r ta tl th σ H Q := h
theorem sx_nopart (h : QO none H) : tNoPart σ H QO := h
theorem sx_part (h : ta σ H fun x H1 => ∃ i, x = .int i ∧ QO (some i) H1) : tPart ta σ H QO := h
theorem sx_nil (h : QA [] H) : tNil σ H QA := h
theorem sx_cons (h : ta σ H fun x H1 => a σ H1 fun xs H2 => QA (x :: xs) H2) : tCons ta a σ H QA := h
theorem sx_tb (h : ta σ H fun x H1 => ∃ c, x = .bl c ∧ QT c H1) : tB ta σ H QT := h
theorem sx_tt (h : ta σ H fun x H1 => ∃ c, x = .bl c ∧ QT c H1) : tTest ta σ H QT := h
theorem sx_and (h : t σ H fun c H1 => if c = true then u σ H1 QT else QT false H1) : tAnd t u σ H QT := h
theorem sx_or (h : t σ H fun c H1 => if c = true then QT true H1 else u σ H1 QT) : tOr t u σ H QT := h
theorem sx_not (h : t σ H fun c H1 => QT (!c) H1) : tNot t σ H QT := h
theorem sx_tru (h : ta σ H fun x H' => ∃ k, TruV K x H' k ∧ QT k H') : L2.tTru K ta σ H QT := h
theorem sx_yes (h : QT true H) : tYes σ H QT := h
theorem sx_next (h : E.nx σ H) : tNext E σ H := h
theorem sx_seq (h : s1 { E with nx := s2 E } σ H) : tSeq s1 s2 E σ H := h
theorem sx_brk (h : E.bk σ H) : tBreak E σ H := h
theorem sx_cnt (h : E.ct σ H) : tCont E σ H := h
theorem sx_drop (h : ta σ H fun _ H1 => E.nx σ H1) : tDrop ta E σ H := h
theorem sx_ret (h : ta σ H E.rt) : tRet ta E σ H := h
theorem sx_retN (h : E.rt .non H) : tRetN E σ H := h
theorem sx_ifS (h : t σ H fun b H1 => if b = true then s1 E σ H1 else s2 E σ H1) : tIfS t s1 s2 E σ H := h
theorem sx_asg {g : TG} (h : ta σ H fun x H1 => g x σ H1 E.nx) : tAsg ta g E σ H := h
theorem sx_par {n o : Nat} (h : a σ H fun vs H1 => ∃ v w, vs = [v, w] ∧ E.nx ((σ.set n (some v)).set o (some w)) H1) : tPar n o a E σ H := h
theorem sx_par3 {n o p : Nat} (h : a σ H fun vs H1 => ∃ u v w, vs = [u, v, w] ∧ E.nx (((σ.set n (some u)).set o (some v)).set p (some w)) H1) : tPar3 n o p a E σ H := h
theorem sx_rng1 {R : It → Hp → Prop} (h : a σ H fun vs H1 => ∃ j : Int, vs = [.int j] ∧ -(2 ^ 62) ≤ j ∧ j < 2 ^ 62 ∧ R (Itr 0 j.toNat) H1) : iRng1 a σ H R := h
theorem sx_rng2 {R : It → Hp → Prop} (h : a σ H fun vs H1 => ∃ i j : Int, vs = [.int i, .int j] ∧ (-(2 ^ 62) ≤ i ∧ i < 2 ^ 62 ∧ -(2 ^ 62) ≤ j ∧ j < 2 ^ 62) ∧ R (Itr i (j - i).toNat) H1) : iRng2 a σ H R := h
theorem gs_name {n : Nat} {G : L2.St → Hp → Prop} (h : G (σ.set n (some v)) H) : gName n v σ H G := h
theorem gs_sub {G : L2.St → Hp → Prop} {f : TSet} (h : ta σ H fun o H1 => tb σ H1 fun i H2 => f o i v H2 fun H3 => G σ H3) : gSub ta tb f v σ H G := h
/-- a tuple is taken apart -/
theorem gs_pair {n o : Nat} {G : L2.St → Hp → Prop} {d e : D} (h : Rep K M H v (.tup [d, e])) (q : ∀ x y, Rep K M H x d → Rep K M H y e → G ((σ.set n (some x)).set o (some y)) H) : gTup K 2 (gCons (gName n) (gCons (gName o) gNil)) v σ H G := by
  cases h with
  | tup h n r => cases r with
    | cons r1 r2 => cases r2 with
      | cons r2 r3 => cases r3; exact ⟨_, _, rfl, SqT.of h, rfl, _, _, rfl, _, _, rfl, rfl, q _ _ r1 r2⟩
theorem ex_b {b : Bool} {Z : Bool → Prop} (q : Z b) : ∃ c, V.bl b = .bl c ∧ Z c := ⟨b, rfl, q⟩
theorem ex_i {b : Int} {Z : Int → Prop} (q : Z b) : ∃ c, V.int b = .int c ∧ Z c := ⟨b, rfl, q⟩
theorem ex_s {b : Str} {Z : Prop} (q : Z) : (∃ a, V.str b = .str a) ∧ Z := ⟨⟨b, rfl⟩, q⟩
theorem ex_2 {Z : V → V → Prop} (q : Z x y) : ∃ v w, [x, y] = [v, w] ∧ Z v w := ⟨x, y, rfl, q⟩
theorem ex_3 {z : V} {Z : V → V → V → Prop} (q : Z x y z) : ∃ u v w, [x, y, z] = [u, v, w] ∧ Z u v w := ⟨x, y, z, rfl, q⟩
/-! values -/
theorem add_ii (q : Q (.int (i + j)) H) : rAddU K (.int i) (.int j) H Q := .inl ⟨i, j, rfl, rfl, q⟩
theorem add_TT (h : l.length + m.length ≤ sizeLine) (q : Q (.str (T (l ++ m))) H) : rAddU K (.str (T l)) (.str (T m)) H Q := .inr (.inl ⟨_, _, rfl, rfl, by rw [T_len, T_len]; exact h, by rw [T_app]; exact q⟩)
theorem add_LL {ds es : List D} (hw : Wf M I) (hI : I H) (hx : Rep K M H x (.lst ds)) (hy : Rep K M H y (.lst es)) (h : ds.length + es.length ≤ sizeLine) (q : ∀ v H', Ex M H H' → I H' → Rep K M H' v (.lst (ds ++ es)) → Q v H') : rAddU K x y H Q := by
  cases hx with
  | lst h1 n1 r1 => cases hy with
    | lst h2 n2 r2 =>
      refine .inr (.inr (.inl ⟨_, _, _, _, rfl, rfl, h1, h2, by rw [r1.length, r2.length]; exact h, fun p hp => ?_⟩))
      exact q _ _ (Ex.of (same_upd hp)) (hw.same (same_upd hp) hI) (.lst upd_same (hw.fresh hI hp) ((r1.append r2).same (same_upd hp)))
theorem sub_ii (q : Q (.int (i - j)) H) : rSubU (.int i) (.int j) H Q := ⟨i, j, rfl, rfl, q⟩
theorem mul_ii (h : CMulW i j) (q : Q (.int (i * j)) H) : rMulU (.int i) (.int j) H Q := .inl ⟨i, j, rfl, rfl, h, q⟩
theorem mul_Ti {n : Nat} (h1 : n ≤ 100000) (h2 : l.length ≤ 100) (q : Q (.str (T (List.replicate n l).flatten)) H) : rMulU (.str (T l)) (.int (n : Nat)) H Q := .inr (.inr (.inl ⟨_, _, rfl, rfl, by omega, by omega, by rw [T_len]; exact h2, by simpa [T_cps] using q⟩))
theorem mul_s (h : CMul i j) (q : Q (.int (i * j)) H) : rMulU (.int i) (.int j) H Q := .inr (.inl ⟨i, j, rfl, rfl, h, q⟩)
theorem div_ii (h : CDivW i j) (q : Q (.int (i / j)) H) : rDivU (.int i) (.int j) H Q := ⟨i, j, rfl, rfl, h, q⟩
theorem mod_ii (h : 0 < j) (q : Q (.int (i % j)) H) : rModU (.int i) (.int j) H Q := ⟨i, j, rfl, rfl, h, q⟩
theorem pow_ii (h : CPow i j) (q : Q (.int (i ^ j.toNat)) H) : rPowU (.int i) (.int j) H Q := ⟨i, j, rfl, rfl, h, q⟩
theorem neg_i (q : Q (.int (-i)) H) : rNegU (.int i) H Q := ⟨i, rfl, q⟩
theorem lt_ii (q : Q (.bl (decide (i < j))) H) : rLtU (.int i) (.int j) H Q := ⟨i, j, rfl, rfl, q⟩
theorem le_ii (q : Q (.bl (decide (i ≤ j))) H) : rLeU (.int i) (.int j) H Q := ⟨i, j, rfl, rfl, q⟩
theorem gt_ii (q : Q (.bl (decide (j < i))) H) : rGtU (.int i) (.int j) H Q := ⟨i, j, rfl, rfl, q⟩
theorem ge_ii (q : Q (.bl (decide (j ≤ i))) H) : rGeU (.int i) (.int j) H Q := ⟨i, j, rfl, rfl, q⟩
theorem dec_congr {p q : Prop} [Decidable p] [Decidable q] (h : p ↔ q) : decide p = decide q := by simp [h]
theorem eq_ii (q : Q (.bl (decide (i = j))) H) : rEqU K (.int i) (.int j) H Q := .inl ⟨rfl, by
  have e : decide (V.int i = V.int j) = decide (i = j) := dec_congr ⟨fun e => by cases e; rfl, fun e => by rw [e]⟩
  rw [e]; exact q⟩
theorem eq_TT (q : Q (.bl (decide (l = m))) H) : rEqU K (.str (T l)) (.str (T m)) H Q := .inl ⟨rfl, by
  have e : decide (V.str (T l) = V.str (T m)) = decide (l = m) := dec_congr ⟨fun e => by injection e with e; exact T_inj e, fun e => by rw [e]⟩
  rw [e]; exact q⟩
theorem eq_bb {p q' : Bool} (q : Q (.bl (decide (p = q'))) H) : rEqU K (.bl p) (.bl q') H Q := .inl ⟨rfl, by
  have e : decide (V.bl p = V.bl q') = decide (p = q') := dec_congr ⟨fun e => by cases e; rfl, fun e => by rw [e]⟩
  rw [e]; exact q⟩
theorem ne_ii (q : Q (.bl (!decide (i = j))) H) : rNeU K (.int i) (.int j) H Q := .inl ⟨rfl, by
  have e : decide (V.int i = V.int j) = decide (i = j) := dec_congr ⟨fun e => by cases e; rfl, fun e => by rw [e]⟩
  rw [e]; exact q⟩
theorem ne_TT (q : Q (.bl (!decide (l = m))) H) : rNeU K (.str (T l)) (.str (T m)) H Q := .inl ⟨rfl, by
  have e : decide (V.str (T l) = V.str (T m)) = decide (l = m) := dec_congr ⟨fun e => by injection e with e; exact T_inj e, fun e => by rw [e]⟩
  rw [e]; exact q⟩
theorem ne_bb {p q' : Bool} (q : Q (.bl (!decide (p = q'))) H) : rNeU K (.bl p) (.bl q') H Q := .inl ⟨rfl, by
  have e : decide (V.bl p = V.bl q') = decide (p = q') := dec_congr ⟨fun e => by cases e; rfl, fun e => by rw [e]⟩
  rw [e]; exact q⟩
theorem in_1T {z : Nat} (q : Q (.bl (decide (z ∈ l))) H) : rInU K (.str (T [z])) (.str (T l)) H Q := .inl ⟨z, T l, rfl, rfl, q⟩
theorem ni_1T {z : Nat} (q : Q (.bl (!decide (z ∈ l))) H) : rNiU K (.str (T [z])) (.str (T l)) H Q := .inl ⟨z, T l, rfl, rfl, q⟩
theorem isN_v (q : Q (.bl (decide (v = .non))) H) : rIsN v .non H Q := ⟨rfl, q⟩
theorem notN_v (q : Q (.bl (!decide (v = .non))) H) : rNotN v .non H Q := ⟨rfl, q⟩
theorem isB_b {p q' : Bool} (q : Q (.bl (decide (p = q'))) H) : rIsBU (.bl p) (.bl q') H Q := ⟨_, _, rfl, rfl, q⟩
theorem notB_b {p q' : Bool} (q : Q (.bl (!decide (p = q'))) H) : rNotBU (.bl p) (.bl q') H Q := ⟨_, _, rfl, rfl, q⟩
/-! displays, lists, lengths, items -/
theorem sx_tup (hw : Wf M I) (h : a σ H fun xs H1 => I H1 ∧ ∃ ds, Reps K M H1 xs ds ∧ ds.length ≤ sizeLine ∧ ∀ v H', Ex M H1 H' → I H' → Rep K M H' v (.tup ds) → Q v H')
    (mono : ∀ A B : List V → Hp → Prop, (∀ xs H1, A xs H1 → B xs H1) → a σ H A → a σ H B) : tTup a σ H Q := by
  refine mono _ _ ?_ h
  rintro xs H1 ⟨hI, ds, r, hz, q⟩
  refine ⟨by rw [r.length]; exact hz, fun p hp => ?_⟩
  have e := same_upd (o := .tup xs) hp
  exact q _ _ (Ex.of e) (hw.same e hI) (.tup upd_same (hw.fresh hI hp) (r.same e))
theorem tup_end {xs : List V} {ds : List D} (hw : Wf M I) (hI : I H) (r : Reps K M H xs ds) (hz : ds.length ≤ sizeLine) (q : ∀ v H', Ex M H H' → I H' → Rep K M H' v (.tup ds) → Q v H') : TupK Q xs H := by
  refine ⟨by rw [r.length]; exact hz, fun p hp => ?_⟩
  have e := same_upd (o := .tup xs) hp
  exact q _ _ (Ex.of e) (hw.same e hI) (.tup upd_same (hw.fresh hI hp) (r.same e))
theorem lst_end {xs : List V} {ds : List D} (hw : Wf M I) (hI : I H) (r : Reps K M H xs ds) (hz : ds.length ≤ sizeLine) (q : ∀ v H', Ex M H H' → I H' → Rep K M H' v (.lst ds) → Q v H') : LstK Q xs H := by
  refine ⟨by rw [r.length]; exact hz, fun p hp => ?_⟩
  have e := same_upd (o := .lst xs) hp
  exact q _ _ (Ex.of e) (hw.same e hI) (.lst upd_same (hw.fresh hI hp) (r.same e))
/-- a list that will change: its world -/
theorem lst_mut {xs : List V} (hw : Wf M I) (hI : I H) (hz : xs.length ≤ sizeLine) (q : ∀ p H', H p = none → ¬ M p → Ex (Mq M p) H H' → Wf (Mq M p) (Iq I p (.lst xs)) → Iq I p (.lst xs) H' → Q (.ref p) H') : LstK Q xs H := by
  refine ⟨hz, fun p hp => ?_⟩
  have e := same_upd (o := .lst xs) hp
  exact q _ _ hp (hw.fresh hI hp) (Ex.of e) (hw.add _ _) ⟨hw.same e hI, upd_same⟩
theorem sx_tup0 (h : a σ H (TupK Q)) : tTup a σ H Q := h
theorem sx_lst0 (h : a σ H (LstK Q)) : tLst a σ H Q := h
theorem len_T (h : l.length ≤ sizeLine) (q : Q (.int (l.length : Nat)) H) : rLen K [.str (T l)] H Q := ⟨_, _, rfl, ⟨by rw [T_len]; exact h, rfl⟩, by rw [T_len]; exact q⟩
theorem len_R {d : D} {ds : List D} (hx : Rep K M H x d) (hd : d = .lst ds ∨ d = .tup ds) (q : Q (.int (ds.length : Nat)) H) : rLen K [x] H Q := by
  rcases hd with rfl | rfl
  · cases hx with
    | lst h n r => exact ⟨_, _, rfl, .inl ⟨_, SqL.of h, rfl⟩, by rw [r.length]; exact q⟩
  · cases hx with
    | tup h n r => exact ⟨_, _, rfl, .inr ⟨_, SqT.of h, rfl⟩, by rw [r.length]; exact q⟩
theorem atI_nat' {α : Type} {xs : List α} {n : Nat} {a : α} (h : xs[n]? = some a) : atI xs (n : Nat) = some a := by
  have hn := (List.getElem?_eq_some_iff.mp h).1
  unfold atI ixN
  rw [if_pos (by omega), if_pos (by omega)]
  simpa using h
theorem ix_T {n : Nat} {z : Nat} (hl : l.length ≤ sizeLine) (h : l[n]? = some z) (q : Q (.str (T [z])) H) : rIx K (.str (T l)) (.int (n : Nat)) H Q := .inr (.inr ⟨T l, _, z, rfl, rfl, by rw [T_len]; exact hl, by rw [T_cps]; exact atI_nat' h, q⟩)
theorem ix_R {d e : D} {ds : List D} {n : Nat} (hx : Rep K M H x d) (hd : d = .lst ds ∨ d = .tup ds) (h : ds[n]? = some e) (q : ∀ v, Rep K M H v e → Q v H) : rIx K x (.int (n : Nat)) H Q := by
  rcases hd with rfl | rfl
  · cases hx with
    | lst h1 n1 r =>
      obtain ⟨v, hv, rv⟩ := r.get h
      exact .inl ⟨_, _, _, v, rfl, rfl, SqL.of h1, atI_nat' hv, q v rv⟩
  · cases hx with
    | tup h1 n1 r =>
      obtain ⟨v, hv, rv⟩ := r.get h
      exact .inr (.inl ⟨_, _, _, v, rfl, rfl, SqT.of h1, atI_nat' hv, q v rv⟩)
theorem sIx_0 {n : Nat} : HT.sIx n 0 none = 0 := rfl
theorem sl_Tto {n : Nat} (hl : l.length ≤ sizeLine) (q : Q (.str (T (l.take n))) H) : rSlU K (.str (T l)) none (some (n : Nat)) H Q := .inr (.inr ⟨T l, rfl, by rw [T_len]; exact hl, by
  unfold cutS
  rw [HT.sIx_none, HT.sIx_nat, T_cps, T_len]
  simp only [List.drop_zero, Nat.sub_zero]
  have e : l.take (min n l.length) = l.take n := by
    by_cases h : n ≤ l.length
    · rw [Nat.min_eq_left h]
    · rw [Nat.min_eq_right (by omega), List.take_of_length_le (Nat.le_refl _), List.take_of_length_le (by omega)]
  rw [e]; exact q⟩)
theorem sl_Tfrom {n : Nat} (hl : l.length ≤ sizeLine) (q : Q (.str (T (l.drop n))) H) : rSlU K (.str (T l)) (some (n : Nat)) none H Q := .inr (.inr ⟨T l, rfl, by rw [T_len]; exact hl, by
  unfold cutS
  rw [HT.sIx_none, HT.sIx_nat, T_cps, T_len]
  have e : (l.drop (min n l.length)).take (l.length - min n l.length) = l.drop n := by
    by_cases h : n ≤ l.length
    · rw [Nat.min_eq_left h, List.take_of_length_le (by simp)]
    · rw [Nat.min_eq_right (by omega), List.drop_of_length_le (Nat.le_refl _), List.drop_of_length_le (by omega)]; simp
  rw [e]; exact q⟩)
theorem join_nil {yss : List Str} : Txt.join (T []) yss = T (yss.map fun y => y.cps.toList).flatten := by
  have h0 : Txt.join (T []) yss = Str.join (T []) yss := eq_of_beq (PyProof.Rows.join_plain_closes (T []) yss)
  have h := TL.tl_join (T []) yss
  have e : ∀ ps : List (List Nat), TL.joinL [] ps = ps.flatten := by
    intro ps
    induction ps with
    | nil => rfl
    | cons p ps ih => cases ps with
      | nil => simp [TL.joinL]
      | cons q r => simp only [TL.joinL, List.nil_append]; rw [ih]; rfl
  have h2 : (Str.join (T []) yss).cps.toList = (yss.map fun y => y.cps.toList).flatten := Eq.trans h (e _)
  rw [h0]
  show (⟨(Str.join (T []) yss).cps⟩ : Str) = _
  unfold T at *
  congr 1
  exact Array.toList_inj.mp (by rw [h2])
/-- ''.join of a list of texts -/
theorem join_R {ls : List (List Nat)} (hx : Rep K M H x (.lst (ls.map fun l => .str (T l)))) (h : (ls.map (·.length)).sum ≤ 16777216) (q : Q (.str (T ls.flatten)) H) : rJoin K (.str (T [])) [x] H Q := by
  cases hx with
  | lst h1 n1 r =>
    have e := Reps.scal_inv (f := fun l => V.str (T l)) (fun a v h => rep_str h) r
    subst e
    have hl0 : (T []).length = 0 := rfl
    refine ⟨T [], _, ls.map T, rfl, rfl, .inl (SqL.of (by rw [h1]; simp)), ?_, ?_⟩
    · rw [hl0, Nat.mul_zero, Nat.add_zero, List.map_map]
      have : (List.map ((fun x => x.length) ∘ T) ls) = ls.map (·.length) := by
        apply List.map_congr_left; intro a _; exact T_len a
      rw [this]; exact h
    · rw [join_nil, List.map_map]
      have : (List.map ((fun y : Str => y.cps.toList) ∘ T) ls) = ls := by
        rw [show ((fun y : Str => y.cps.toList) ∘ T) = id from rfl]; simp
      rw [this]; exact q
theorem all_R {bs : List Bool} (hx : Rep K M H x (.lst (bs.map .bl))) (q : Q (.bl (bs.all id)) H) : rAll K [x] H Q := by
  cases hx with
  | lst h1 n1 r =>
    have e := Reps.scal_inv (f := V.bl) (fun a v h => rep_bl h) r
    subst e
    exact ⟨_, bs, rfl, SqL.of h1, q⟩
theorem tru_R {ds : List D} (hx : Rep K M H x (.lst ds)) (q : QT (!ds.isEmpty) H) : ∃ k, TruV K x H k ∧ QT k H := by
  cases hx with
  | lst h1 n1 r =>
    refine ⟨_, .inl ⟨_, SqL.of h1, rfl⟩, ?_⟩
    have e := r.length
    cases r with
    | nil => exact q
    | cons _ _ => exact q
theorem list_R {d : D} {ds : List D} (hw : Wf M I) (hI : I H) (hx : Rep K M H x d) (hd : d = .lst ds ∨ d = .tup ds) (q : ∀ v H', Ex M H H' → I H' → Rep K M H' v (.lst ds) → Q v H') : rList1 K [x] H Q := by
  have key : ∀ {p : Addr} {xs : List V}, Reps K M H xs ds → H p = none → Q (.ref p) (upd H p (.lst xs)) := fun {p xs} r hp => by
    have e := same_upd (o := .lst xs) hp
    exact q _ _ (Ex.of e) (hw.same e hI) (.lst upd_same (hw.fresh hI hp) (r.same e))
  rcases hd with rfl | rfl
  · cases hx with
    | lst h n r => exact .inl ⟨_, _, rfl, .inl (SqL.of h), fun p hp => key r hp⟩
  · cases hx with
    | tup h n r => exact .inl ⟨_, _, rfl, .inr (SqT.of h), fun p hp => key r hp⟩
theorem rev_R {ds : List D} (hw : Wf M I) (hI : I H) (hx : Rep K M H x (.lst ds)) (q : ∀ v H', Ex M H H' → I H' → Rep K M H' v (.lst ds.reverse) → Q v H') : RevK K Q x H := by
  cases hx with
  | lst h n r =>
    refine ⟨_, _, rfl, SqL.of h, fun p hp => ?_⟩
    exact q _ _ (Ex.of (same_upd hp)) (hw.same (same_upd hp) hI) (.lst upd_same (hw.fresh hI hp) (r.reverse.same (same_upd hp)))
theorem sx_rev (h : ta σ H (RevK K Q)) : tRevL K ta σ H Q := h
end
theorem ifT {A B : Prop} (h : A) : if true = true then A else B := by rw [if_pos rfl]; exact h
theorem ifF {A B : Prop} (h : B) : if false = true then A else B := by rw [if_neg Bool.false_ne_true]; exact h
theorem ifB {b : Bool} {A B : Prop} (h1 : b = true → A) (h2 : b = false → B) : if b = true then A else B := by
  cases b
  · rw [if_neg Bool.false_ne_true]; exact h2 rfl
  · rw [if_pos rfl]; exact h1 rfl
end Nt
namespace Nt
open PySem PySem.Spec PyProof.Rows L2
/-- isinstance of a value whose type shows -/
inductive TyD : D → String → Prop
  | non : TyD .non "NoneType"
  | bl (b : Bool) : TyD (.bl b) "bool"
  | int (i : Int) : TyD (.int i) "int"
  | str (z : Str) : TyD (.str z) "str"
  | lst (l : List D) : TyD (.lst l) "list"
  | tup (l : List D) : TyD (.tup l) "tuple"
  | dct (l : List (Key × D)) : TyD (.dct l) "dict"
theorem tyx_of {K : PySem.W.Frag} {M : Addr → Prop} {H : Hp} {x : V} {d : D} {t : String} (h : Rep K M H x d) (ht : TyD d t) : TyX K H x (.type t) := by
  cases ht <;> cases h
  · exact .base .non
  · exact .base (.bl _)
  · exact .base (.int _)
  · exact .base (.str _)
  · exact .base (.lst (by assumption))
  · exact .base (.tup (by assumption))
  · exact .base (.dK (by assumption))
theorem isi_D {K : PySem.W.Frag} {M : Addr → Prop} {H : Hp} {x : V} {d : D} {t c : String} {b : Bool} {Q : VK} (h : Rep K M H x d) (ht : TyD d t) (k : PySem.W.kitOne K (.type t) (.type c) = some b) (q : Q (.bl b) H) : rIsi K [x, .ty c] H Q :=
  ⟨x, .ty c, .type t, .type c, b, rfl, .ty c, tyx_of h ht, k, q⟩
theorem sx_var1 {n : Nat} {σ : L2.St} {H : Hp} {Q : VK} (h : ∃ v, σ[n]? = some (some v) ∧ Q v H) : tVar n σ H Q := h
theorem szOk {n : Nat} (h : n ≤ 1000000) : n ≤ sizeLine := Nat.le_trans h (by decide)
end Nt
namespace Nt
theorem ifNT {A B : Prop} (h : B) : if (!true) = true then A else B := by rw [if_neg (by decide)]; exact h
theorem ifNF {A B : Prop} (h : A) : if (!false) = true then A else B := by rw [if_pos (by decide)]; exact h
end Nt
namespace Nt
open PySem PySem.Spec PyProof.Rows L2
section
variable {K : PySem.W.Frag} {M : Addr → Prop} {I : Hp → Prop} {σ : L2.St} {H H0 : Hp} {Q : VK} {x y : V}
theorem lst_endC {xs : List V} {ds : List D} (hw : Wf M I) (hI : I H) (r : Reps K M H (x :: xs) ds) (hz : ds.length ≤ sizeLine) (q : ∀ v H', Ex M H H' → I H' → Rep K M H' v (.lst ds) → Q v H') : LstK Q (x :: xs) H := lst_end hw hI r hz q
theorem Ex.shut {p : Addr} (hp : H0 p = none) (e : Ex (Mq M p) H0 H) : Ex M H0 H := fun a o n h => e a o (fun m => m.elim n fun z => by rw [z, hp] at h; cases h) h
/-- xs.append(e), the list told by the world -/
theorem app_mut {p : Addr} {xs : List V} (hw : Wf M I) (hp : ¬ M p) (hI : Iq I p (.lst xs) H) (hl : xs.length < 1000000) (q : ∀ H', Ex (Mq M p) H H' → Wf (Mq M p) (Iq I p (.lst (xs ++ [y]))) → Iq I p (.lst (xs ++ [y])) H' → Q .non H') : rAppend (.ref p) [y] H Q := by
  refine ⟨p, xs, y, rfl, rfl, hI.2, Nat.lt_of_lt_of_le hl (by decide), ?_⟩
  obtain ⟨i, e⟩ := hw.put (o' := .lst (xs ++ [y])) hp hI
  exact q _ e (hw.add _ _) i
theorem tyv_l {p : Addr} {xs : List V} (h : H p = some (.lst xs)) : tyV K "list" (.ref p) H := .inl ⟨rfl, xs, SqL.of h⟩
theorem Wf.sub {M : Addr → Prop} {I : Hp → Prop} (w : Wf M I) {H H' : Hp} (h : L2.Same H H') (i : I H) : I H' := w.same h i
end
end Nt
namespace Nt
theorem ifIsF {b : Bool} {A B : Prop} (h : b = false) (hb : B) : if b = true then A else B := by rw [h, if_neg Bool.false_ne_true]; exact hb
theorem ifIsT {b : Bool} {A B : Prop} (h : b = true) (ha : A) : if b = true then A else B := by rw [h, if_pos rfl]; exact ha
end Nt
namespace Nt
open PySem PySem.Spec PyProof.Rows L2
section
variable {K : PySem.W.Frag} {M : Addr → Prop} {I : Hp → Prop} {H : Hp} {Q : VK} {x : V} {mg : Str → Option Value} {n : Str} {st : Stmt} {ps : List Str} {dfl : List V}
theorem tup_endF {xs : List V} {ds : List D} (_ : At K mg n st ps dfl) (hw : Wf M I) (hI : I H) (r : Reps K M H xs ds) (hz : ds.length ≤ sizeLine) (q : ∀ v H', Ex M H H' → I H' → Rep K M H' v (.tup ds) → Q v H') : TupK Q xs H := tup_end hw hI r hz q
theorem lst_endF {xs : List V} {ds : List D} (_ : At K mg n st ps dfl) (hw : Wf M I) (hI : I H) (r : Reps K M H (x :: xs) ds) (hz : ds.length ≤ sizeLine) (q : ∀ v H', Ex M H H' → I H' → Rep K M H' v (.lst ds) → Q v H') : LstK Q (x :: xs) H := lst_end hw hI r hz q
end
end Nt

namespace Nt
open PySem PySem.Spec PyProof.Rows L2
section
variable {K : PySem.W.Frag} {M : Addr → Prop} {I : Hp → Prop} {α β : Type} {as : List α} {bs : List β} {tt : TT} {te : TE} {vs : List Nat} {σ : L2.St} {H1 H : Hp} {Q : VK} {enc : α → D} {enc2 : β → D} {x : V}
theorem filter_tt (as : List α) : as.filter (fun _ => true) = as := by simp
/-! no test; the element by a function -/
theorem lc_srcM {i : Nat} {d : D} (f : α → D) (hw : Wf M I) (hI : I H1) (hx : Rep K M H1 x d) (hd : d.elems = some (as.map enc)) (hlen : as.length ≤ sizeLine) (hwp : ∀ v, wipe ((wipe σ vs).set i (some v)) vs = wipe σ vs)
    (he : ∀ (L : Addr) (acc : List V) (k : Nat) (a : α) (v : V) (H : Hp), H1 L = none → as[k]? = some a → Rep K (Mq M L) H v (enc a) → Wf (Mq M L) (Iq I L (.lst acc)) → Iq I L (.lst acc) H → Ex (Mq M L) H1 H →
      ∀ Qe : VK, (∀ y H4, Rep K (Mq M L) H4 y (f a) → Iq I L (.lst acc) H4 → Ex (Mq M L) H H4 → Qe y H4) → te ((wipe σ vs).set i (some v)) H Qe)
    (hq : ∀ y H', Rep K M H' y (.lst (as.map f)) → Ex M H1 H' → I H' → Q y H') : srcR K (LcR (gName i) tYes te vs σ Q) x H1 := by
  refine lc_src hw hI hx hd hlen hwp (fun _ => true) (fun a d => d = f a) (fun L acc k a v H _ _ _ _ _ hi _ Qt q => q H hi (Ex.refl _)) (fun L acc k a v H hL nL ha _ rv wf hi ex Qe q => ?_) fun y ds H' a2 rp ex hi => ?_
  · exact he L acc k a v H hL ha rv wf hi ex Qe fun y H4 r i e => q y _ H4 rfl r i e
  · rw [a2.eq, filter_tt] at rp
    exact hq y H' rp ex hi
theorem lc_zipM {i j : Nat} {x1 x2 : V} {d1 d2 : D} (f : α × β → D) (hw : Wf M I) (hI : I H1) (hx : Rep K M H1 x1 d1) (hd : d1.elems = some (as.map enc)) (hx2 : Rep K M H1 x2 d2) (hd2 : d2.elems = some (bs.map enc2)) (hlen : as.length ≤ sizeLine)
    (hwp : ∀ v w, wipe (((wipe σ vs).set i (some v)).set j (some w)) vs = wipe σ vs)
    (he : ∀ (L : Addr) (acc : List V) (k : Nat) (a : α) (b : β) (v w : V) (H : Hp), H1 L = none → as[k]? = some a → bs[k]? = some b → Rep K (Mq M L) H v (enc a) → Rep K (Mq M L) H w (enc2 b) → Wf (Mq M L) (Iq I L (.lst acc)) → Iq I L (.lst acc) H → Ex (Mq M L) H1 H →
      ∀ Qe : VK, (∀ y H4, Rep K (Mq M L) H4 y (f (a, b)) → Iq I L (.lst acc) H4 → Ex (Mq M L) H H4 → Qe y H4) → te (((wipe σ vs).set i (some v)).set j (some w)) H Qe)
    (hq : ∀ y H', Rep K M H' y (.lst ((as.zip bs).map f)) → Ex M H1 H' → I H' → Q y H') : zipR K (LcR (gTup K 2 (gCons (gName i) (gCons (gName j) gNil))) tYes te vs σ Q) [x1, x2] H1 := by
  refine lc_zip hw hI hx hd hx2 hd2 hlen hwp (fun _ => true) (fun a d => d = f a) (fun L acc k a b v w H _ _ _ _ _ _ _ hi _ Qt q => q H hi (Ex.refl _)) (fun L acc k a b v w H hL nL ha hb _ rv rw wf hi ex Qe q => ?_) fun y ds H' a2 rp ex hi => ?_
  · exact he L acc k a b v w H hL ha hb rv rw wf hi ex Qe fun y H4 r i e => q y _ H4 rfl r i e
  · rw [a2.eq, filter_tt] at rp
    exact hq y H' rp ex hi
/-! a test; the element by a function -/
theorem lc_srcF {i : Nat} {d : D} (p : α → Bool) (f : α → D) (hw : Wf M I) (hI : I H1) (hx : Rep K M H1 x d) (hd : d.elems = some (as.map enc)) (hlen : as.length ≤ sizeLine) (hwp : ∀ v, wipe ((wipe σ vs).set i (some v)) vs = wipe σ vs)
    (ht : ∀ (L : Addr) (acc : List V) (k : Nat) (a : α) (v : V) (H : Hp), H1 L = none → as[k]? = some a → Rep K (Mq M L) H v (enc a) → Wf (Mq M L) (Iq I L (.lst acc)) → Iq I L (.lst acc) H → Ex (Mq M L) H1 H →
      ∀ Qt : Bool → Hp → Prop, (∀ H3, Iq I L (.lst acc) H3 → Ex (Mq M L) H H3 → Qt (p a) H3) → tt ((wipe σ vs).set i (some v)) H Qt)
    (he : ∀ (L : Addr) (acc : List V) (k : Nat) (a : α) (v : V) (H : Hp), H1 L = none → as[k]? = some a → p a = true → Rep K (Mq M L) H v (enc a) → Wf (Mq M L) (Iq I L (.lst acc)) → Iq I L (.lst acc) H → Ex (Mq M L) H1 H →
      ∀ Qe : VK, (∀ y H4, Rep K (Mq M L) H4 y (f a) → Iq I L (.lst acc) H4 → Ex (Mq M L) H H4 → Qe y H4) → te ((wipe σ vs).set i (some v)) H Qe)
    (hq : ∀ y H', Rep K M H' y (.lst ((as.filter p).map f)) → Ex M H1 H' → I H' → Q y H') : srcR K (LcR (gName i) tt te vs σ Q) x H1 := by
  refine lc_src hw hI hx hd hlen hwp p (fun a d => d = f a) (fun L acc k a v H hL _ ha rv wf hi ex Qt q => ht L acc k a v H hL ha rv wf hi ex Qt q) (fun L acc k a v H hL nL ha hp rv wf hi ex Qe q => ?_) fun y ds H' a2 rp ex hi => ?_
  · exact he L acc k a v H hL ha hp rv wf hi ex Qe fun y H4 r i e => q y _ H4 rfl r i e
  · rw [a2.eq] at rp
    exact hq y H' rp ex hi
theorem lc_enumF {i j : Nat} {x1 : V} {d1 : D} (p : α × Nat → Bool) (f : α × Nat → D) (hw : Wf M I) (hI : I H1) (hx : Rep K M H1 x1 d1) (hd : d1.elems = some (as.map enc)) (hlen : as.length ≤ sizeLine)
    (hwp : ∀ v w, wipe (((wipe σ vs).set i (some v)).set j (some w)) vs = wipe σ vs)
    (ht : ∀ (L : Addr) (acc : List V) (k : Nat) (a : α) (v : V) (H : Hp), H1 L = none → as[k]? = some a → Rep K (Mq M L) H v (enc a) → Wf (Mq M L) (Iq I L (.lst acc)) → Iq I L (.lst acc) H → Ex (Mq M L) H1 H →
      ∀ Qt : Bool → Hp → Prop, (∀ H3, Iq I L (.lst acc) H3 → Ex (Mq M L) H H3 → Qt (p (a, k)) H3) → tt (((wipe σ vs).set i (some (.int (k : Nat)))).set j (some v)) H Qt)
    (he : ∀ (L : Addr) (acc : List V) (k : Nat) (a : α) (v : V) (H : Hp), H1 L = none → as[k]? = some a → p (a, k) = true → Rep K (Mq M L) H v (enc a) → Wf (Mq M L) (Iq I L (.lst acc)) → Iq I L (.lst acc) H → Ex (Mq M L) H1 H →
      ∀ Qe : VK, (∀ y H4, Rep K (Mq M L) H4 y (f (a, k)) → Iq I L (.lst acc) H4 → Ex (Mq M L) H H4 → Qe y H4) → te (((wipe σ vs).set i (some (.int (k : Nat)))).set j (some v)) H Qe)
    (hq : ∀ y H', Rep K M H' y (.lst ((as.zipIdx.filter p).map f)) → Ex M H1 H' → I H' → Q y H') : enumR K (LcR (gTup K 2 (gCons (gName i) (gCons (gName j) gNil))) tt te vs σ Q) [x1] H1 := by
  refine lc_enum hw hI hx hd hlen hwp p (fun a d => d = f a) (fun L acc k a v H hL _ ha rv wf hi ex Qt q => ht L acc k a v H hL ha rv wf hi ex Qt q) (fun L acc k a v H hL nL ha hp rv wf hi ex Qe q => ?_) fun y ds H' a2 rp ex hi => ?_
  · exact he L acc k a v H hL ha hp rv wf hi ex Qe fun y H4 r i e => q y _ H4 rfl r i e
  · rw [a2.eq] at rp
    exact hq y H' rp ex hi
theorem lc_rngF {i : Nat} {lo : Int} {n : Nat} (p : Nat → Bool) (f : Nat → D) (hw : Wf M I) (hI : I H1) (hlen : n ≤ sizeLine) (hwp : ∀ v, wipe ((wipe σ vs).set i (some v)) vs = wipe σ vs)
    (ht : ∀ (L : Addr) (acc : List V) (k : Nat) (H : Hp), H1 L = none → k < n → Wf (Mq M L) (Iq I L (.lst acc)) → Iq I L (.lst acc) H → Ex (Mq M L) H1 H →
      ∀ Qt : Bool → Hp → Prop, (∀ H3, Iq I L (.lst acc) H3 → Ex (Mq M L) H H3 → Qt (p k) H3) → tt ((wipe σ vs).set i (some (.int (lo + (k : Nat))))) H Qt)
    (he : ∀ (L : Addr) (acc : List V) (k : Nat) (H : Hp), H1 L = none → k < n → p k = true → Wf (Mq M L) (Iq I L (.lst acc)) → Iq I L (.lst acc) H → Ex (Mq M L) H1 H →
      ∀ Qe : VK, (∀ y H4, Rep K (Mq M L) H4 y (f k) → Iq I L (.lst acc) H4 → Ex (Mq M L) H H4 → Qe y H4) → te ((wipe σ vs).set i (some (.int (lo + (k : Nat))))) H Qe)
    (hq : ∀ y H', Rep K M H' y (.lst (((List.range n).filter p).map f)) → Ex M H1 H' → I H' → Q y H') : LcR (gName i) tt te vs σ Q (Itr lo n) H1 := by
  refine lc_rng (K := K) hw hI hlen hwp p (fun a d => d = f a) (fun L acc k H hL _ ha wf hi ex Qt q => ht L acc k H hL ha wf hi ex Qt q) (fun L acc k H hL nL ha hp wf hi ex Qe q => ?_) fun y ds H' a2 rp ex hi => ?_
  · exact he L acc k H hL ha hp wf hi ex Qe fun y H4 r i e => q y _ H4 rfl r i e
  · rw [a2.eq] at rp
    exact hq y H' rp ex hi
/-! joins of signs -/
theorem flat_1 (h : α → Nat) (l : List α) : (l.map fun a => [h a]).flatten = l.map h := by
  induction l with
  | nil => rfl
  | cons a l ih => simp [ih]
theorem join_1 (h : α → Nat) (hx : Rep K M H x (.lst (as.map fun a => .str (T [h a])))) (hl : as.length ≤ 1000000) (q : Q (.str (T (as.map h))) H) : rJoin K (.str (T [])) [x] H Q := by
  refine join_R (M := M) (ls := as.map fun a => [h a]) (by rw [List.map_map]; exact hx) ?_ (by rw [flat_1]; exact q)
  have : ((as.map fun a => [h a]).map (·.length)).sum = as.length := by
    rw [List.map_map]
    clear hx hl q
    induction as with
    | nil => rfl
    | cons a as ih => simp only [List.map_cons, List.sum_cons, ih, List.length_cons, Function.comp]; simp; omega
  omega
theorem join_A {ls : List (List Nat)} (hx : A2 (fun (_ : α) (d : D) => ∃ l, d = .str (T l)) as (ls.map fun l => .str (T l))) : True := trivial
theorem all_M (h : α → Bool) (hx : Rep K M H x (.lst (as.map fun a => .bl (h a)))) (q : Q (.bl (as.all h)) H) : rAll K [x] H Q := by
  refine all_R (M := M) (bs := as.map h) (by rw [List.map_map]; exact hx) ?_
  rw [List.all_map]
  exact q
theorem dec1 {a b : Nat} : decide ([a] = [b]) = decide (a = b) := dec_congr ⟨fun e => by injection e, fun e => by rw [e]⟩
theorem eq_11 {a b : Nat} (q : Q (.bl (decide (a = b))) H) : rEqU K (.str (T [a])) (.str (T [b])) H Q := eq_TT (by
  have : decide ([a] = [b]) = decide (a = b) := dec_congr ⟨fun e => by injection e, fun e => by rw [e]⟩
  rw [this]; exact q)
theorem ne_11 {a b : Nat} (q : Q (.bl (!decide (a = b))) H) : rNeU K (.str (T [a])) (.str (T [b])) H Q := ne_TT (by
  have : decide ([a] = [b]) = decide (a = b) := dec_congr ⟨fun e => by injection e, fun e => by rw [e]⟩
  rw [this]; exact q)
/-! == of a list of flat data with the empty list -/
def Flat : D → Prop
  | .non => True
  | .bl _ => True
  | .int _ => True
  | .str z => PyData.strOk z = true
  | _ => False
def pyF : D → PyData
  | .bl b => .bool b
  | .int i => .int i
  | .str z => .str z
  | _ => .none
theorem dp_flat {v : V} {d : D} (h : Rep K M H v d) (f : Flat d) : Dp K H v (pyF d) ∧ (pyF d).canLay0 = true ∧ (pyF d).depth = 0 := by
  cases h with
  | non => exact ⟨.non, by simp [pyF, PyData.canLay0], by simp [pyF, PyData.depth]⟩
  | bl b => exact ⟨.bl b, by simp [pyF, PyData.canLay0], by simp [pyF, PyData.depth]⟩
  | int i => exact ⟨.int i, by simp [pyF, PyData.canLay0], by simp [pyF, PyData.depth]⟩
  | str z => exact ⟨.str z, by simp only [pyF, PyData.canLay0]; exact f, by simp [pyF, PyData.depth]⟩
  | _ => exact f.elim
theorem dp_flats : ∀ {vs : List V} {ds : List D}, Reps K M H vs ds → (∀ d ∈ ds, Flat d) → DpAll K H vs (ds.map pyF) ∧ PyData.canLayAll0 (ds.map pyF) = true ∧ PyData.depthAll (ds.map pyF) = 0
  | _, _, .nil, _ => ⟨.nil, by simp [PyData.canLayAll0], by simp [PyData.depthAll]⟩
  | _, _, .cons r rs, f => by
    obtain ⟨a1, a2, a3⟩ := dp_flat r (f _ List.mem_cons_self)
    obtain ⟨b1, b2, b3⟩ := dp_flats rs fun d hd => f d (List.mem_cons_of_mem _ hd)
    exact ⟨.cons a1 b1, by simp [PyData.canLayAll0, a2, b2], by simp [PyData.depthAll, a3, b3]⟩
theorem dp_lst {ds : List D} (h : Rep K M H x (.lst ds)) (f : ∀ d ∈ ds, Flat d) : Dp K H x (.list (ds.map pyF)) ∧ SeqAt.shaped (.list (ds.map pyF)) = true := by
  cases h with
  | lst h n r =>
    obtain ⟨b1, b2, b3⟩ := dp_flats r f
    exact ⟨.lst (SqL.of h) b1, by simp [SeqAt.shaped, PyData.canLay0, PyData.depth, b2, b3]⟩
theorem eqv_nil (l : List PyData) : PyData.eqv (.list l) (.list []) = l.isEmpty := by
  cases l <;> simp [PyData.eqv, PyData.eqvAll]
variable {y : V}
theorem eq_L0 {ds : List D} (hx : Rep K M H x (.lst ds)) (hy : Rep K M H y (.lst [])) (f : ∀ d ∈ ds, Flat d) (q : Q (.bl ds.isEmpty) H) : rEqU K x y H Q := by
  obtain ⟨a1, a2⟩ := dp_lst hx f
  obtain ⟨b1, b2⟩ := dp_lst hy (by simp)
  refine .inr ⟨_, _, a1, b1, a2, b2, ?_⟩
  rw [List.map_nil, eqv_nil]
  cases ds <;> exact q
theorem ne_L0 {ds : List D} (hx : Rep K M H x (.lst ds)) (hy : Rep K M H y (.lst [])) (f : ∀ d ∈ ds, Flat d) (q : Q (.bl (!ds.isEmpty)) H) : rNeU K x y H Q := by
  obtain ⟨a1, a2⟩ := dp_lst hx f
  obtain ⟨b1, b2⟩ := dp_lst hy (by simp)
  refine .inr ⟨_, _, a1, b1, a2, b2, ?_⟩
  rw [List.map_nil, eqv_nil]
  cases ds <;> exact q
theorem ok_T {l : List Nat} (h : ∀ c ∈ l, c < 128) : PyData.strOk (T l) = true := by
  show (Array.all (List.toArray l) fun a => decide (a < 1114112)) = true
  rw [List.all_toArray, List.all_eq_true]
  intro c hc
  have := h c hc
  simp
  omega
/-! x in a list of texts -/
def flatD : D → Bool
  | .non => true
  | .bl _ => true
  | .int _ => true
  | .str _ => true
  | _ => false
theorem in_R {ls : List (List Nat)} {l : List Nat} {d : D} (hy : Rep K M H y d) (hd : d = .lst (ls.map fun l => .str (T l)) ∨ d = .tup (ls.map fun l => .str (T l))) : ∃ p, y = .ref p ∧ (SqL K H p (ls.map fun l => V.str (T l)) ∨ SqT K H p (ls.map fun l => V.str (T l))) := by
  rcases hd with rfl | rfl
  · cases hy with
    | lst h n r =>
      have e := Reps.scal_inv (f := fun l => V.str (T l)) (fun a v h => rep_str h) r
      subst e
      exact ⟨_, rfl, .inl (SqL.of h)⟩
  · cases hy with
    | tup h n r =>
      have e := Reps.scal_inv (f := fun l => V.str (T l)) (fun a v h => rep_str h) r
      subst e
      exact ⟨_, rfl, .inr (SqT.of h)⟩
theorem inV_T {l : List Nat} {ls : List (List Nat)} : inV (.str (T l)) (ls.map fun l => V.str (T l)) = decide (l ∈ ls) := by
  unfold inV
  rw [Bool.eq_iff_iff]
  simp only [List.any_eq_true, List.mem_map, decide_eq_true_eq]
  constructor
  · rintro ⟨z, ⟨a, ha, rfl⟩, e⟩
    have e2 : T a = T l := by simpa [eqV] using e
    rw [← T_inj e2]; exact ha
  · intro h
    exact ⟨_, ⟨l, h, rfl⟩, by simp [eqV]⟩
theorem in_L {ls : List (List Nat)} {l : List Nat} {d : D} (hy : Rep K M H y d) (hd : d = .lst (ls.map fun l => .str (T l)) ∨ d = .tup (ls.map fun l => .str (T l))) (q : Q (.bl (decide (l ∈ ls))) H) : rInU K (.str (T l)) y H Q := by
  obtain ⟨p, rfl, h⟩ := in_R (l := l) hy hd
  refine .inr (.inl ⟨p, _, rfl, h, rfl, ?_, ?_⟩)
  · simp [List.all_map, flatV]
  · rw [inV_T]; exact q
theorem ni_L {ls : List (List Nat)} {l : List Nat} {d : D} (hy : Rep K M H y d) (hd : d = .lst (ls.map fun l => .str (T l)) ∨ d = .tup (ls.map fun l => .str (T l))) (q : Q (.bl (!decide (l ∈ ls))) H) : rNiU K (.str (T l)) y H Q := by
  obtain ⟨p, rfl, h⟩ := in_R (l := l) hy hd
  refine .inr (.inl ⟨p, _, rfl, h, rfl, ?_, ?_⟩)
  · simp [List.all_map, flatV]
  · rw [inV_T]; exact q
end
end Nt

namespace Nt
open PySem PySem.Spec PyProof.Rows L2
section
variable {K : PySem.W.Frag} {M : Addr → Prop} {I : Hp → Prop} {H H' : Hp} {Q : VK} {x y : V} {i j : Int}
theorem int_i (q : Q (.int i) H) : rInt1 [.int i] H Q := .inl ⟨i, rfl, q⟩
theorem abs_i (q : Q (.int (i.natAbs : Nat)) H) : rAbs [.int i] H Q := ⟨i, rfl, by
  have e : (if i < 0 then -i else i) = (i.natAbs : Int) := by split <;> omega
  rw [e]; exact q⟩
theorem ix_raw {p : Addr} {xs : List V} {v : V} (h : H p = some (.lst xs)) (ha : atI xs i = some v) (q : Q v H) : rIx K (.ref p) (.int i) H Q := .inl ⟨p, xs, i, v, rfl, rfl, SqL.of h, ha, q⟩
theorem set_raw {p : Addr} {xs : List V} {v : V} {n : Nat} {G : Hp → Prop} (h : H p = some (.lst xs)) (ha : ixN xs.length i = some n) (q : G (upd H p (.lst (xs.set n v)))) : rSetL (.ref p) (.int i) v H G := ⟨p, xs, i, n, rfl, rfl, h, ha, q⟩
theorem len_raw {p : Addr} {xs : List V} (h : H p = some (.lst xs)) (q : Q (.int (xs.length : Nat)) H) : rLen K [.ref p] H Q := ⟨_, _, rfl, .inl ⟨_, SqL.of h, rfl⟩, q⟩
theorem ix_E {d e : D} {ds : List D} {n : Nat} (hx : Rep K M H x d) (hd : d.elems = some ds) (hl : ds.length ≤ sizeLine) (h : ds[n]? = some e) (q : ∀ v, Rep K M H v e → Q v H) : rIx K x (.int (n : Nat)) H Q := by
  cases d with
  | lst l => cases hd; exact ix_R hx (.inl rfl) h q
  | tup l => cases hd; exact ix_R hx (.inr rfl) h q
  | str z =>
    cases hd
    cases rep_str hx
    have h2 : (z.cps.toList.map fun c => D.str (T [c]))[n]? = some e := h
    rw [List.getElem?_map] at h2
    cases hc : z.cps.toList[n]? with
    | none => rw [hc] at h2; cases h2
    | some c =>
      rw [hc] at h2
      cases h2
      exact .inr (.inr ⟨z, _, c, rfl, rfl, by simpa [Str.length] using hl, atI_nat' hc, q _ (.str _)⟩)
  | _ => cases hd
theorem len_E {d : D} {ds : List D} (hx : Rep K M H x d) (hd : d.elems = some ds) (hl : ds.length ≤ sizeLine) (q : Q (.int (ds.length : Nat)) H) : rLen K [x] H Q := by
  cases d with
  | lst l => cases hd; exact len_R hx (.inl rfl) q
  | tup l => cases hd; exact len_R hx (.inr rfl) q
  | str z =>
    cases hd
    cases rep_str hx
    have e : (z.cps.toList.map fun c => D.str (T [c])).length = z.length := by simp [Str.length]
    rw [e] at hl q
    exact ⟨_, _, rfl, ⟨hl, rfl⟩, q⟩
  | _ => cases hd
theorem list_E {d : D} {ds : List D} (hw : Wf M I) (hI : I H) (hx : Rep K M H x d) (hd : d = .lst ds ∨ d = .tup ds) (q : ∀ p xs, H p = none → Reps K M H xs ds → Q (.ref p) (upd H p (.lst xs))) : rList1 K [x] H Q := by
  rcases hd with rfl | rfl
  · cases hx with
    | lst h n r => exact .inl ⟨_, _, rfl, .inl (SqL.of h), fun p hp => q p _ hp r⟩
  · cases hx with
    | tup h n r => exact .inl ⟨_, _, rfl, .inr (SqT.of h), fun p hp => q p _ hp r⟩
/-! ### the bag -/
def bagL (l : Addr) (i g m : Nat) (c : Int) : List V := [.ref l, .int (i : Nat), .int (g : Nat), .int (m : Nat), .int c]
structure BagIs (H : Hp) (b l : Addr) (cs : List Int) (i g m : Nat) (c : Int) : Prop where
  hb : H b = some (.lst (bagL l i g m c))
  hl : H l = some (.lst (cs.map V.int))
  hm : m < 4294967296
  hn : cs.length ≤ 1000
def BagOk (H : Hp) (b l : Addr) : Prop := ∃ cs i g m c, BagIs H b l cs i g m c
structure HasBag (M : Addr → Prop) (I : Hp → Prop) (b : Addr) : Prop where
  ex : ∃ l, M b ∧ M l ∧ b ≠ l ∧ (∀ H, I H → BagOk H b l) ∧ ∀ H H', I H → (∀ p, M p → p ≠ b → H' p = H p) → BagOk H' b l → I H'
theorem HasBag.add {b q : Addr} {o : HO} (h : HasBag M I b) (hq : ¬ M q) : HasBag (Mq M q) (Iq I q o) b := by
  obtain ⟨l, h1, h2, h3, h4, h5⟩ := h.ex
  refine ⟨l, .inl h1, .inl h2, h3, fun H i => h4 H i.1, fun H H' i e k => ⟨h5 H H' i.1 (fun p hp => e p (.inl hp)) k, ?_⟩⟩
  rw [e q (.inr rfl) fun z => hq (z ▸ h1)]
  exact i.2
/-- the world of a bag alone -/
def MB (b l : Addr) : Addr → Prop := fun p => p = b ∨ p = l
def IB (b l : Addr) : Hp → Prop := fun H => BagOk H b l
theorem wfB {b l : Addr} : Wf (MB b l) (IB b l) where
  live := fun H ⟨cs, i, g, m, c, h⟩ p hp => by
    rcases hp with rfl | rfl
    · rw [h.hb]; exact nofun
    · rw [h.hl]; exact nofun
  stable := fun H H' ⟨cs, i, g, m, c, h⟩ e => ⟨cs, i, g, m, c, (e b (.inl rfl)).trans h.hb, (e l (.inr rfl)).trans h.hl, h.hm, h.hn⟩
theorem hasB {b l : Addr} (hn : b ≠ l) : HasBag (MB b l) (IB b l) b := ⟨l, .inl rfl, .inr rfl, hn, fun _ h => h, fun _ _ _ _ k => k⟩
/-- the bag is written -/
theorem bag_put {b l : Addr} {cs : List Int} {i g m i' g' m' : Nat} {c c' : Int} (h : BagIs H b l cs i g m c) (hn : b ≠ l) (hm : m' < 4294967296) : BagIs (upd H b (.lst (bagL l i' g' m' c'))) b l cs i' g' m' c' :=
  ⟨upd_same, by rw [upd_ne hn.symm]; exact h.hl, hm, h.hn⟩
end
end Nt
namespace Nt
open PySem PySem.Spec PyProof.Rows L2
section
variable {K : PySem.W.Frag} {M : Addr → Prop} {I : Hp → Prop} {H H' : Hp} {Q : VK} {x y : V} {i j : Int}
theorem mod_any (h : 0 < j) (q : ∀ m : Nat, (m : Int) < j → Q (.int (m : Nat)) H) : rModU (.int i) (.int j) H Q := by
  refine ⟨i, j, rfl, rfl, h, ?_⟩
  have h1 := Int.emod_nonneg i (show j ≠ 0 by omega)
  have h2 := Int.emod_lt_of_pos i h
  obtain ⟨m, e⟩ := Int.eq_ofNat_of_zero_le h1
  show Q (.int (i % j)) H
  rw [e]
  exact q m (by omega)
theorem mul_r (h : -(2 ^ 64) < j ∧ j < 2 ^ 64) (q : Q (.int (i * j)) H) : rMulU (.int i) (.int j) H Q := .inr (.inl ⟨i, j, rfl, rfl, .inr h, q⟩)
theorem mul_l (h : -(2 ^ 64) < i ∧ i < 2 ^ 64) (q : Q (.int (i * j)) H) : rMulU (.int i) (.int j) H Q := .inr (.inl ⟨i, j, rfl, rfl, .inl h, q⟩)
theorem div_any {n : Nat} (h : 0 < j) (hj : j.natAbs.log2 < 9000) (q : ∀ m : Nat, Q (.int (m : Nat)) H) : rDivU (.int (n : Nat)) (.int j) H Q := by
  refine ⟨n, j, rfl, rfl, ⟨h, hj⟩, ?_⟩
  have h1 := Int.ediv_nonneg (show (0 : Int) ≤ (n : Int) by omega) (show (0 : Int) ≤ j by omega)
  obtain ⟨m, e⟩ := Int.eq_ofNat_of_zero_le h1
  show Q (.int ((n : Int) / j)) H
  rw [e]
  exact q m
theorem cut_to {xs : List V} {n : Nat} : cutV xs none (some (n : Nat)) = xs.take n := by
  unfold cutV
  rw [HT.sIx_none, HT.sIx_nat]
  simp only [List.drop_zero, Nat.sub_zero]
  by_cases h : n ≤ xs.length
  · rw [Nat.min_eq_left h]
  · rw [Nat.min_eq_right (by omega), List.take_of_length_le (Nat.le_refl _), List.take_of_length_le (by omega)]
end
end Nt

namespace Nt
open PySem PySem.Spec PyProof.Rows L2
/-- what is told of a law's own def at one world -/
structure LawTold (l : PySem.W.OpenLaw) (n k : Nat) (x : Str) (w : World) (mg : Str → Option Value) (fa : Addr) (h : Heap) : Prop where
  ex : ∃ (K : PySem.W.Frag) (fd : FuncData) (sp : Sp), K.In h ∧ (∀ (s : Shared) (u : Value), BindsTo s fd ⟨[u], []⟩ [(x, u)]) ∧
    (∀ (H : Hp) (a : Addr) (ns : List Int), ns.length ≤ n → SqL K H a (ns.map V.int) → sp [.ref a] H (fun v _ => v = .bl true) fun _ _ _ => False) ∧
    (∀ base : Heap, K.In base → base.Ns mainGlobals mg → FnOk l.prog w K mg base (L2.CX l.prog w) k fa fd [x] sp)
/-- the law's call, whatever its defs let out -/
theorem law_walk {l : PySem.W.OpenLaw} {n k : Nat} {q : Program} {loose : List Str} {XP : (Str → Option Value) → Heap → Prop} {YP : World → Heap → Prop} {d : DefRec} {x : Str} (hn : l.most = some n) (hs : n ≤ sizeLine) (h0 : d.params.defaults = []) (hr : Room k callerA)
    (T : ∀ w mg fa h, YP w h → Heap.Ns h mainGlobals mg → mg d.name = some (.ref fa) → LawTold l n k x w mg fa h) : PySem.W.WalkO q loose XP YP l.row.toRowW d [] (fun f vs => PySem.call f vs) := by
  refine Att.attach_call hn h0 ?_
  intro w s1 s2 mg mb fa o pm cd doc a vs ns G Y ho hd hcd hmg hobj hi hl hg
  obtain ⟨K, fd, sp, KX, hb, hq, hF⟩ := (T w mg fa _ Y G.T.g hmg).ex
  refine law_call KX G.T.g G.T.b G.T.builtins G.T.nolimit hg hobj hi (Nat.le_trans hl hs) hr hF hb (fun H _ hS => hq H a ns hl hS) ?_
  rintro H e s' ⟨_, _, _, _, _, _, _, _, _, _, _, _, z⟩
  exact z
end Nt

namespace Nt
open PySem PySem.Spec PyProof.Rows L2
section
variable {K : PySem.W.Frag} {M : Addr → Prop} {I : Hp → Prop} {H H1 : Hp} {Q : VK} {x y : V} {σ : L2.St}
/-! ### == and in over data of any kind -/
mutual
def pyD : D → PyData
  | .non => .none
  | .bl b => .bool b
  | .int i => .int i
  | .str z => .str z
  | .lst l => .list (pyAll l)
  | .tup l => .tuple (pyAll l)
  | .dct _ => .none
  | .oth _ => .none
def pyAll : List D → List PyData
  | [] => []
  | d :: l => pyD d :: pyAll l
end
mutual
/-- data that may be compared: no dicts, no objects, well-formed texts, at most n deep -/
def eqOk : Nat → D → Bool
  | _, .non => true
  | _, .bl _ => true
  | _, .int _ => true
  | _, .str z => PyData.strOk z
  | 0, .lst _ => false
  | 0, .tup _ => false
  | n + 1, .lst l => eqAll n l
  | n + 1, .tup l => eqAll n l
  | _, .dct _ => false
  | _, .oth _ => false
def eqAll : Nat → List D → Bool
  | _, [] => true
  | n, d :: l => eqOk n d && eqAll n l
end
mutual
theorem dp_D : ∀ {n : Nat} {d : D} {v : V}, Rep K M H v d → eqOk n d = true → Dp K H v (pyD d) ∧ (pyD d).canLay0 = true ∧ (pyD d).depth ≤ n
  | _, .non, _, h, _ => by cases h; exact ⟨.non, by simp [pyD, PyData.canLay0], by simp [pyD, PyData.depth]⟩
  | _, .bl b, _, h, _ => by cases h; exact ⟨.bl b, by simp [pyD, PyData.canLay0], by simp [pyD, PyData.depth]⟩
  | _, .int i, _, h, _ => by cases h; exact ⟨.int i, by simp [pyD, PyData.canLay0], by simp [pyD, PyData.depth]⟩
  | _, .str z, _, h, f => by
    cases h
    refine ⟨.str z, ?_, by simp [pyD, PyData.depth]⟩
    simp only [pyD, PyData.canLay0]
    simpa [eqOk] using f
  | 0, .lst _, _, _, f => by simp [eqOk] at f
  | 0, .tup _, _, _, f => by simp [eqOk] at f
  | n + 1, .lst l, _, h, f => by
    cases h with
    | lst h1 n1 r =>
      obtain ⟨a1, a2, a3⟩ := dp_All (n := n) r (by simpa [eqOk] using f)
      exact ⟨.lst (SqL.of h1) a1, by simp [pyD, PyData.canLay0, a2], by simp [pyD, PyData.depth]; omega⟩
  | n + 1, .tup l, _, h, f => by
    cases h with
    | tup h1 n1 r =>
      obtain ⟨a1, a2, a3⟩ := dp_All (n := n) r (by simpa [eqOk] using f)
      exact ⟨.tup (SqT.of h1) a1, by simp [pyD, PyData.canLay0, a2], by simp [pyD, PyData.depth]; omega⟩
  | _, .dct _, _, _, f => by simp [eqOk] at f
  | _, .oth _, _, _, f => by simp [eqOk] at f
theorem dp_All : ∀ {n : Nat} {l : List D} {vs : List V}, Reps K M H vs l → eqAll n l = true → DpAll K H vs (pyAll l) ∧ PyData.canLayAll0 (pyAll l) = true ∧ PyData.depthAll (pyAll l) ≤ n
  | _, [], _, h, _ => by cases h; exact ⟨.nil, by simp [pyAll, PyData.canLayAll0], by simp [pyAll, PyData.depthAll]⟩
  | n, d :: l, _, h, f => by
    cases h with
    | cons h1 h2 =>
      obtain ⟨f1, f2⟩ := Bool.and_eq_true_iff.mp (show (eqOk n d && eqAll n l) = true by simpa [eqAll] using f)
      obtain ⟨a1, a2, a3⟩ := dp_D h1 f1
      obtain ⟨b1, b2, b3⟩ := dp_All h2 f2
      exact ⟨.cons a1 b1, by simp [pyAll, PyData.canLayAll0, a2, b2], by simp [pyAll, PyData.depthAll]; omega⟩
end
theorem shaped_D {n : Nat} {d : D} (h : Rep K M H x d) (f : eqOk n d = true) (hn : n ≤ 64) : SeqAt.shaped (pyD d) = true := by
  obtain ⟨_, a2, a3⟩ := dp_D h f
  simp only [SeqAt.shaped, a2, Bool.true_and, decide_eq_true_eq]
  omega
theorem eq_D {n m : Nat} {d e : D} (hx : Rep K M H x d) (hy : Rep K M H y e) (fd : eqOk n d = true) (fe : eqOk m e = true) (hn : n ≤ 64) (hm : m ≤ 64) (q : Q (.bl (PyData.eqv (pyD d) (pyD e))) H) : rEqU K x y H Q :=
  .inr ⟨_, _, (dp_D hx fd).1, (dp_D hy fe).1, shaped_D hx fd hn, shaped_D hy fe hm, q⟩
theorem ne_D {n m : Nat} {d e : D} (hx : Rep K M H x d) (hy : Rep K M H y e) (fd : eqOk n d = true) (fe : eqOk m e = true) (hn : n ≤ 64) (hm : m ≤ 64) (q : Q (.bl (!PyData.eqv (pyD d) (pyD e))) H) : rNeU K x y H Q :=
  .inr ⟨_, _, (dp_D hx fd).1, (dp_D hy fe).1, shaped_D hx fd hn, shaped_D hy fe hm, q⟩
theorem in_D {n m : Nat} {d : D} {l : List D} (hx : Rep K M H x d) (hy : Rep K M H y (.lst l)) (fd : eqOk n d = true) (fe : eqOk m (.lst l) = true) (hn : n ≤ 64) (hm : m ≤ 64) (q : Q (.bl ((pyAll l).any fun z => PyData.eqv z (pyD d))) H) : rInU K x y H Q :=
  .inr (.inr ⟨_, _, (dp_D hx fd).1, (by have := (dp_D hy fe).1; simpa [pyD] using this), shaped_D hx fd hn, (by have := shaped_D hy fe hm; simpa [pyD] using this), q⟩)
theorem ni_D {n m : Nat} {d : D} {l : List D} (hx : Rep K M H x d) (hy : Rep K M H y (.lst l)) (fd : eqOk n d = true) (fe : eqOk m (.lst l) = true) (hn : n ≤ 64) (hm : m ≤ 64) (q : Q (.bl (!(pyAll l).any fun z => PyData.eqv z (pyD d))) H) : rNiU K x y H Q :=
  .inr (.inr ⟨_, _, (dp_D hx fd).1, (by have := (dp_D hy fe).1; simpa [pyD] using this), shaped_D hx fd hn, (by have := shaped_D hy fe hm; simpa [pyD] using this), q⟩)
/-! ### tests of lists -/
theorem tru_If {ds : List D} {A B : Prop} (hx : Rep K M H x (.lst ds)) (h : if (!ds.isEmpty) = true then A else B) : ∃ k, TruV K x H k ∧ if k = true then A else B :=
  tru_R (QT := fun k _ => if k = true then A else B) hx h
/-! ### dicts -/
theorem dnew (hw : Wf M I) (hI : I H) (q : ∀ p H', H p = none → Ex M H H' → I H' → Rep K M H' (.ref p) (.dct []) → Q (.ref p) H') : tDNewK σ H Q := fun p hp =>
  q p _ hp (Ex.of (same_upd hp)) (hw.same (same_upd hp) hI) (.dct upd_same (hw.fresh hI hp) rfl .nil)
/-- {k: v}, k and v read off -/
theorem disp1 {tk tv : TE} {k : Key} {v : V} {d : D} (hw : Wf M I) (hI : I H) (hk : ∀ H Q, Q (kV k) H → tk σ H Q) (hv : ∀ H Q, Q v H → tv σ H Q) (r : Rep K M H v d) (q : ∀ y H', Ex M H H' → I H' → Rep K M H' y (.dct [(k, d)]) → Q y H') : tDisp [(tk, tv)] σ H Q := by
  intro p hp
  refine hk _ _ (hv _ _ ?_)
  refine ⟨upd_same, [(k, v)], rfl, by simp, ?_⟩
  have e : upd (upd H p (.dK [])) p (.dK (mergeK [] [(k, v)])) = upd H p (.dK [(k, v)]) := by
    funext a
    by_cases h : a = p
    · rw [h, upd_same, upd_same]; rfl
    · rw [upd_ne h, upd_ne h, upd_ne h]
  rw [e]
  exact q _ _ (Ex.of (same_upd hp)) (hw.same (same_upd hp) hI) (.dct upd_same (hw.fresh hI hp) rfl (.cons (r.same (same_upd hp)) .nil))
def keyD : Key → D
  | .inl i => .int i
  | .inr z => .str z
theorem rep_key (k : Key) : Rep K M H (kV k) (keyD k) := by
  cases k with
  | inl i => exact .int i
  | inr z => exact .str z
theorem reps_keys (H : Hp) : ∀ (kvs : List (Key × V)) (ds : List (Key × D)), kvs.map (·.1) = ds.map (·.1) → Reps K M H (kvs.map fun kv => kV kv.1) (ds.map fun kv => keyD kv.1)
  | [], [], _ => .nil
  | (k, v) :: kvs, (k', d) :: ds, h => by
    simp only [List.map_cons, List.cons.injEq] at h
    obtain ⟨rfl, h⟩ := h
    exact .cons (rep_key k) (reps_keys H kvs ds h)
  | [], _ :: _, h => by simp at h
  | _ :: _, [], h => by simp at h
theorem list_keys {ds : List (Key × D)} (hw : Wf M I) (hI : I H) (hx : Rep K M H x (.dct ds)) (q : ∀ v H', Ex M H H' → I H' → Rep K M H' v (.lst (ds.map fun kv => keyD kv.1)) → Q v H') : rList1 K [x] H Q := by
  cases hx with
  | dct h n k r =>
    refine .inr ⟨_, _, rfl, h, fun p hp => ?_⟩
    exact q _ _ (Ex.of (same_upd hp)) (hw.same (same_upd hp) hI) (.lst upd_same (hw.fresh hI hp) (reps_keys _ _ _ k))
theorem val_at : ∀ {kvs : List (Key × V)} {ds : List (Key × D)} {k : Key} {d : D}, kvs.map (·.1) = ds.map (·.1) → Reps K M H (kvs.map (·.2)) (ds.map (·.2)) → (ds.map (·.1)).Nodup → (k, d) ∈ ds → ∃ v, valV kvs k = some v ∧ Rep K M H v d
  | [], [], _, _, _, _, _, h => by cases h
  | (k1, v) :: kvs, (k2, d2) :: ds, k, d, hk, hr, hn, hm => by
    simp only [List.map_cons, List.cons.injEq] at hk
    obtain ⟨rfl, hk⟩ := hk
    cases hr with
    | cons r1 r2 =>
      simp only [List.map_cons, List.nodup_cons] at hn
      rcases List.mem_cons.mp hm with e | hm
      · cases e
        exact ⟨v, by simp [valV], r1⟩
      · have ne : ¬ k1 = k := fun e => hn.1 (e ▸ List.mem_map_of_mem (f := (·.1)) hm)
        obtain ⟨u, h1, h2⟩ := val_at hk r2 hn.2 hm
        refine ⟨u, ?_, h2⟩
        rw [← h1]
        simp [valV, ne]
  | [], _ :: _, _, _, h, _, _, _ => by simp at h
  | _ :: _, [], _, _, h, _, _, _ => by simp at h
theorem dget_R {ds : List (Key × D)} {k : Key} {d : D} {Z : V → Prop} (r : Rep K M H x (.dct ds)) (hn : (ds.map (·.1)).Nodup) (hm : (k, d) ∈ ds) (q : ∀ v, Rep K M H v d → Z v) : ∃ a v, x = .ref a ∧ DGet H a (kV k) (some v) ∧ Z v := by
  cases r with
  | dct h n hk hr =>
    obtain ⟨v, h1, h2⟩ := val_at hk hr hn hm
    refine ⟨_, v, rfl, ?_, q v h2⟩
    rw [← h1]
    exact DGet.k h
theorem sx_dget {td ty : TE} (h : td σ H fun x H1 => ty σ H1 fun y H2 => ∃ a v, x = .ref a ∧ DGet H2 a y (some v) ∧ Q v H2) : tDGet td ty σ H Q := h
end
end Nt

namespace Nt
open PySem PySem.Spec PyProof.Rows L2
section
variable {K : PySem.W.Frag} {M : Addr → Prop} {I : Hp → Prop} {H H1 : Hp} {Q : VK} {x y : V} {σ : L2.St} {ds : List D}
theorem cut_from {xs : List V} {n : Nat} : cutV xs (some (n : Nat)) none = xs.drop n := by
  unfold cutV
  rw [HT.sIx_none, HT.sIx_nat, List.take_of_length_le (by simp)]
  by_cases h : n ≤ xs.length
  · rw [Nat.min_eq_left h]
  · rw [Nat.min_eq_right (by omega), List.drop_of_length_le (Nat.le_refl _), List.drop_of_length_le (by omega)]
theorem cut_mid {xs : List V} {a b : Nat} : cutV xs (some (a : Nat)) (some (b : Nat)) = (xs.drop a).take (min b xs.length - min a xs.length) := by
  unfold cutV
  rw [HT.sIx_nat, HT.sIx_nat]
  by_cases h : a ≤ xs.length
  · rw [Nat.min_eq_left h]
  · rw [show min a xs.length = xs.length from Nat.min_eq_right (by omega), List.drop_of_length_le (Nat.le_refl _), List.drop_of_length_le (show xs.length ≤ a by omega)]
theorem sl_Lto {n : Nat} (hw : Wf M I) (hI : I H) (hx : Rep K M H x (.lst ds)) (q : ∀ v H', Ex M H H' → I H' → Rep K M H' v (.lst (ds.take n)) → Q v H') : rSlU K x none (some (n : Nat)) H Q := by
  cases hx with
  | lst h n1 r =>
    refine .inl ⟨_, _, rfl, SqL.of h, fun p hp => ?_⟩
    rw [cut_to]
    exact q _ _ (Ex.of (same_upd hp)) (hw.same (same_upd hp) hI) (.lst upd_same (hw.fresh hI hp) ((r.take n).same (same_upd hp)))
theorem sl_Lfrom {n : Nat} (hw : Wf M I) (hI : I H) (hx : Rep K M H x (.lst ds)) (q : ∀ v H', Ex M H H' → I H' → Rep K M H' v (.lst (ds.drop n)) → Q v H') : rSlU K x (some (n : Nat)) none H Q := by
  cases hx with
  | lst h n1 r =>
    refine .inl ⟨_, _, rfl, SqL.of h, fun p hp => ?_⟩
    rw [cut_from]
    exact q _ _ (Ex.of (same_upd hp)) (hw.same (same_upd hp) hI) (.lst upd_same (hw.fresh hI hp) ((r.drop n).same (same_upd hp)))
theorem sl_Lmid {a b : Nat} (hw : Wf M I) (hI : I H) (hx : Rep K M H x (.lst ds)) (q : ∀ v H', Ex M H H' → I H' → Rep K M H' v (.lst ((ds.drop a).take (min b ds.length - min a ds.length))) → Q v H') : rSlU K x (some (a : Nat)) (some (b : Nat)) H Q := by
  cases hx with
  | lst h n1 r =>
    refine .inl ⟨_, _, rfl, SqL.of h, fun p hp => ?_⟩
    rw [cut_mid, r.length]
    exact q _ _ (Ex.of (same_upd hp)) (hw.same (same_upd hp) hI) (.lst upd_same (hw.fresh hI hp) (((r.drop a).take _).same (same_upd hp)))
/-- tuple(a list) -/
theorem tup_L (hw : Wf M I) (hI : I H) (hx : Rep K M H x (.lst ds)) (q : ∀ v H', Ex M H H' → I H' → Rep K M H' v (.tup ds) → Q v H') : rTup1 K [x] H Q := by
  cases hx with
  | lst h n1 r =>
    refine ⟨_, _, rfl, .inl ⟨SqL.of h, fun p hp => ?_⟩⟩
    exact q _ _ (Ex.of (same_upd hp)) (hw.same (same_upd hp) hI) (.tup upd_same (hw.fresh hI hp) (r.same (same_upd hp)))
theorem tup_T (hx : Rep K M H x (.tup ds)) (q : Q x H) : rTup1 K [x] H Q := by
  cases hx with
  | tup h n1 r => exact ⟨_, _, rfl, .inr ⟨SqT.of h, q⟩⟩
end
end Nt
namespace Nt
open PySem PySem.Spec PyProof.Rows L2
theorem Ex.wide {M : Addr → Prop} {p : Addr} {H H' : Hp} (e : Ex M H H') : Ex (Mq M p) H H' := fun a o n h => e a o (fun m => n (.inl m)) h
section
variable {K : PySem.W.Frag} {M : Addr → Prop} {I : Hp → Prop} {tt : TT} {te : TE} {vs : List Nat} {σ : L2.St} {H1 : Hp} {Q : VK}
/-- [e for k in range(..) if ..]: the list is new -/
theorem lc_rngN {i : Nat} {lo : Int} {n : Nat} (hw : Wf M I) (hI : I H1) (hlen : n ≤ sizeLine) (hwp : ∀ v, wipe ((wipe σ vs).set i (some v)) vs = wipe σ vs) (p : Nat → Bool) (P : Nat → D → Prop)
    (ht : ∀ (L : Addr) (acc : List V) (k : Nat) (H : Hp), H1 L = none → ¬ M L → k < n → Wf (Mq M L) (Iq I L (.lst acc)) → Iq I L (.lst acc) H → Ex (Mq M L) H1 H →
      ∀ Qt : Bool → Hp → Prop, (∀ H3, Iq I L (.lst acc) H3 → Ex (Mq M L) H H3 → Qt (p k) H3) → tt ((wipe σ vs).set i (some (.int (lo + (k : Nat))))) H Qt)
    (he : ∀ (L : Addr) (acc : List V) (k : Nat) (H : Hp), H1 L = none → ¬ M L → k < n → p k = true → Wf (Mq M L) (Iq I L (.lst acc)) → Iq I L (.lst acc) H → Ex (Mq M L) H1 H →
      ∀ Qe : VK, (∀ y d H4, P k d → Rep K (Mq M L) H4 y d → Iq I L (.lst acc) H4 → Ex (Mq M L) H H4 → Qe y H4) → te ((wipe σ vs).set i (some (.int (lo + (k : Nat))))) H Qe)
    (hq : ∀ L ds H', H1 L = none → A2 P ((List.range n).filter p) ds → Rep K M H' (.ref L) (.lst ds) → Ex M H1 H' → I H' → Q (.ref L) H') : LcR (gName i) tt te vs σ Q (Itr lo n) H1 := by
  have w := walk_range (lo := lo) (n := n)
  rw [show Walk (Itr lo n) n = Walk (Itr lo n) (List.range n).length by simp] at w
  have at_ : ∀ {k a : Nat}, (List.range n)[k]? = some a → k < n ∧ a = k := fun {k a} h => by
    have hk := (List.getElem?_eq_some_iff.mp h).1
    rw [List.length_range] at hk
    rw [List.getElem?_range hk] at h
    cases h
    exact ⟨hk, rfl⟩
  refine lc_any (K := K) w hw hI p P (fun k _ => (wipe σ vs).set i (some (.int (lo + (k : Nat))))) (fun _ _ => trivial) (by simpa using hlen) (fun k a ha => ?_) (fun k a => hwp _) ?_ ?_ ?_
  · exact bd_name fun H x H' y => y
  · intro L acc k a H hL nL ha wf hi ex Qt q
    obtain ⟨h1, rfl⟩ := at_ ha
    exact ht L acc a H hL nL h1 wf hi ex Qt q
  · intro L acc k a H hL nL ha hp wf hi ex Qt q
    obtain ⟨h1, rfl⟩ := at_ ha
    exact he L acc a H hL nL h1 hp wf hi ex Qt q
  · exact fun L ds H' hL a2 rp ex hi => hq L ds H' hL a2 rp ex hi
end
end Nt

namespace Nt
open PySem PySem.Spec PyProof.Rows L2
section
variable {K : PySem.W.Frag} {M : Addr → Prop} {I : Hp → Prop} {σ : L2.St} {H H1 : Hp} {Q : VK} {i j : Int} {α : Type} {as : List α} {enc : α → D}
theorem and_ii (q : Q (.int (Builtin.bitAnd i j)) H) : rAndU (.int i) (.int j) H Q := ⟨i, j, rfl, rfl, q⟩
theorem or_ii (q : Q (.int (Builtin.bitOr i j)) H) : rOrU (.int i) (.int j) H Q := ⟨i, j, rfl, rfl, q⟩
theorem xor_ii (q : Q (.int (Builtin.bitXor i j)) H) : rXorU (.int i) (.int j) H Q := ⟨i, j, rfl, rfl, q⟩
theorem inv_i (q : Q (.int (Builtin.bitNot i)) H) : rInvU (.int i) H Q := ⟨i, rfl, q⟩
/-- for (any target) in a list, a tuple or a text -/
theorem for_srcG {g : TG} {x : V} {d : D} {tb : TS} {E : Ends} (hx : Rep K M H1 x d) (hd : d.elems = some (as.map enc)) (Pv : Nat → L2.St → Hp → Prop) (h0 : Pv 0 σ H1) (hG : ∀ k σ H, Pv k σ H → Ex M H1 H)
    (hs : ∀ k a v σ H, as[k]? = some a → Pv k σ H → Rep K M H v (enc a) → g v σ H fun σ2 H2 => tb { E with nx := Pv (k + 1), ct := Pv (k + 1), bk := E.nx } σ2 H2) (hq : ∀ σ H, Pv as.length σ H → E.nx σ H) : srcR K (ForR g tb E σ) x H1 := by
  obtain ⟨S, xs, rfl, r, hS⟩ := src_of hx hd
  have hl := reps_len r
  have key : ∀ {J : It} {G : Hp → Prop} {Y : Nat → Hp → V → Hp → Prop}, L2.Walk J as.length G Y → (∀ H', Ex M H1 H' → G H') → (∀ k H x H', Y k H x H' → H' = H ∧ xs[k]? = some x) → ForR g tb E σ J H1 := fun {J G Y} w hG2 hY => by
    refine for_it w Pv h0 (fun k σ H _ h => hG2 _ (hG k σ H h)) (fun k x σ H H' hk h y => ?_) hq
    obtain ⟨rfl, e2⟩ := hY _ _ _ _ y
    have ha : as[k]? = some as[k] := by simp [hk]
    obtain ⟨v, hv, rv⟩ := reps_at r ha
    rw [hv] at e2
    cases e2
    exact hs k _ _ σ _ ha h (rv.ex (hG _ _ _ h))
  cases S with
  | lst a =>
    refine .inl ⟨a, rfl, ⟨xs, hS H1 (Ex.refl _)⟩, ?_⟩
    have w := walk_list (K := K) (a := a) (xs := xs)
    rw [hl] at w
    exact key w hS fun k H x H' y => y
  | tup a =>
    refine .inr (.inl ⟨a, rfl, ⟨xs, hS H1 (Ex.refl _)⟩, ?_⟩)
    have w := walk_tup (K := K) (a := a) (xs := xs)
    rw [hl] at w
    exact key w hS fun k H x H' y => y
  | txt z =>
    refine .inr (.inr ⟨z, rfl, ?_⟩)
    have hxs : xs = signs z := hS H1 (Ex.refl _)
    have w := walk_str (z := z)
    have hz : z.cps.size = as.length := by rw [← hl, hxs]; simp [signs]
    rw [hz] at w
    refine key w (fun _ _ => trivial) fun k H x H' y => ⟨y.1, ?_⟩
    obtain ⟨_, c, e1, e2⟩ := y
    rw [hxs, e2]
    simp [signs, e1]
end
end Nt
namespace Nt
open PySem PySem.Spec PyProof.Rows L2
section
variable {K : PySem.W.Frag} {M : Addr → Prop} {I : Hp → Prop} {H H0 : Hp} {Q : VK} {x y : V} {p : Addr} {o : HO}
theorem add_LLN {ds es : List D} (hx : Rep K M H x (.lst ds)) (hy : Rep K M H y (.lst es)) (h : ds.length + es.length ≤ sizeLine) (q : ∀ p xs, H p = none → Reps K M H xs (ds ++ es) → Q (.ref p) (upd H p (.lst xs))) : rAddU K x y H Q := by
  cases hx with
  | lst h1 n1 r1 => cases hy with
    | lst h2 n2 r2 =>
      exact .inr (.inr (.inl ⟨_, _, _, _, rfl, rfl, h1, h2, by rw [r1.length, r2.length]; exact h, fun p hp => q p _ hp (r1.append r2)⟩))
theorem Ex.non (hw : Wf M I) (i : I H) (e : Ex M H0 H) (hp : H p = none) : H0 p = none := by
  cases h : H0 p with
  | none => rfl
  | some o =>
    have := e p o (hw.fresh i hp) h
    rw [hp] at this
    cases this
theorem Wf.set (hw : Wf M I) (np : ¬ M p) (i : I H) : I (upd H p o) := hw.stable H _ i fun a ha => upd_ne fun e => np (e ▸ ha)
theorem Ex.set (e : Ex M H0 H) (hp : H0 p = none) : Ex M H0 (upd H p o) := fun a u n h => by
  rw [upd_ne fun z => by rw [z, hp] at h; cases h]
  exact e a u n h
theorem ixN_m1 {n s : Nat} (h : 0 < n) (hs : s ≤ n) : ixN n ((s : Int) - 1) = some (if s = 0 then n - 1 else s - 1) := by
  unfold ixN
  by_cases h0 : s = 0
  · subst h0
    rw [if_neg (by omega), if_pos (by omega), if_pos rfl]
    congr 1
    omega
  · rw [if_pos (by omega), if_pos (by omega), if_neg h0]
    congr 1
    omega
end
end Nt

namespace Nt
open PySem PySem.Spec PyProof.Rows L2
/-! ### a set of texts -/
def txOf : Int × Value → Str := fun e => match e.2 with
  | .str z _ => z
  | _ => Str.empty
abbrev kS (P : Program) (w : World) : KeyKind P w Str := PySem.strKind P w
def OkT (P : Program) (w : World) (e : Int × Value) : Prop := ∃ z tk, e.2 = Value.str z tk ∧ e.1 = (kS P w).hash z
/-- the texts at a: those of L -/
structure SetT (P : Program) (w : World) (h : Heap) (a : Addr) (L : List Str) (o : Obj) (es : Array (Int × Value)) (ep : Nat) (t : SetTable) : Prop where
  at_ : h.get? a = some o
  ex : o.ExactSet
  da : o.data = .set es ep t
  ok : ∀ e ∈ es.toList, OkT P w e
  nd : (es.toList.map txOf).Nodup
  me : ∀ z, z ∈ L ↔ z ∈ es.toList.map txOf
  sz : es.size < scanBound
  fi : t.fits es.size = true
  ri : Ris t.place.toList
  le : w.params.followText "set-order" = true ∨ t.led = true
def SetL (P : Program) (w : World) (h : Heap) (a : Addr) (L : List Str) : Prop := ∃ o es ep t, SetT P w h a L o es ep t
section
variable {P : Program} {w : World} {A : Around} {E : Value → Shared → Prop} {s : Shared} {a : Addr} {L : List Str} {z : Str} {tk : Tok}
theorem okT_is {e : Int × Value} (g : OkT P w e) (k : Str) : (kS P w).is k e.2 = true ↔ txOf e = k := by
  obtain ⟨z, tk, h1, _⟩ := g
  unfold txOf
  rw [h1]
  show ((z == k) = true) ↔ z = k
  exact beq_iff_eq
theorem okT_elems {l : List (Int × Value)} (g : ∀ e ∈ l, OkT P w e) : ElemsOf (kS P w) l := fun e he => by
  obtain ⟨z, tk, h1, h2⟩ := g e he
  exact ⟨⟨z, by rw [h1]; exact strKind_is P w z tk, h2⟩, by rw [h1]; rfl⟩
/-- the table is written -/
theorem setT_store {g : Bool → Sem Unit} (hg : ∀ (b : Bool) (s1 : Shared) (Q : Unit → Shared → Prop), Q () s1 → wpAny (model P w) A (g b) Q E s1) {o : Obj} {es es1 : Array (Int × Value)} {ep : Nat} {t t2 : SetTable} (ho : s.heap.get? a = some o) (hex : o.ExactSet) (hd : o.data = .set es ep t)
    (g1 : ∀ e ∈ es1.toList, OkT P w e) (nd1 : (es1.toList.map txOf).Nodup) (m1 : ∀ k, k ∈ L ↔ k ∈ es1.toList.map txOf) (hb1 : es1.size < scanBound) (hf2 : t2.fits es1.size = true) (hr : Ris t2.place.toList) (hl : w.params.followText "set-order" = true ∨ t2.led = true)
    {wasDummy : Bool} {R : Option Bool → Shared → Prop} (hR : ∀ h', Heap.SameBut a s.heap h' → SetL P w h' a L → R (some true) { s with heap := h' }) :
    wpAny (model P w) A (do
        storeSet a es1 t2
        if (!wasDummy && t2.tooFull) = true then do
            g (relayAll t2 es1 (SetTable.grown es1.size)).2.2
            storeSet a (relayAll t2 es1 (SetTable.grown es1.size)).1 (relayAll t2 es1 (SetTable.grown es1.size)).2.1
            pure (some true)
          else pure (some true)) R E s := by
  have w1 := store_at (es' := es1) (t' := t2) ho hd
  have b1 := Heap.SameBut.update s.heap a (Obj.putSet es1 t2)
  refine wpAny_bind (wpAny_storeSet_of ho hd ?_ (fits_of_scanBound hb1))
  by_cases hc : (!wasDummy && t2.tooFull) = true
  · rw [if_pos hc]
    have p1 := relayAll_perm t2 es1 (SetTable.grown es1.size)
    have p2 := relayAll_fits t2 es1 (SetTable.grown es1.size)
    have p3 := relayAll_ris t2 es1 (SetTable.grown es1.size)
    have p4 := relayAll_led t2 es1 (SetTable.grown es1.size)
    rcases hz : relayAll t2 es1 (SetTable.grown es1.size) with ⟨es2, t3, gv⟩
    rw [hz] at p1 p2 p3 p4
    dsimp only at p1 p2 p3 p4 ⊢
    have sz2 : es2.size = es1.size := by rw [← Array.length_toList, p1.length_eq, Array.length_toList]
    refine wpAny_bind (hg _ _ _ (wpAny_bind (wpAny_storeSet_of w1 rfl ?_ (fits_of_scanBound (by rw [sz2]; exact hb1)))))
    have w2 := store_at (es' := es2) (t' := t3) w1 rfl
    refine wpAny_pure (hR _ (b1.trans (Heap.SameBut.update _ a _)) ⟨_, es2, _, t3, w2, hex, rfl, fun e he => g1 e (p1.mem_iff.mp he), (p1.map txOf).nodup_iff.mpr nd1, fun k => (m1 k).trans (p1.map txOf).mem_iff.symm, by rw [sz2]; exact hb1, p2, p3, hl.imp id fun y => by rw [p4]; exact y⟩)
  · rw [if_neg hc]
    exact wpAny_pure (hR _ b1 ⟨_, es1, _, t2, w1, hex, rfl, g1, nd1, m1, hb1, hf2, hr, hl⟩)
/-- one text more -/
theorem setT_add {Q : Bool → Shared → Prop} (R : SetL P w s.heap a L) (room : L.length + 1 < scanBound) (hQ : ∀ b h', Heap.SameBut a s.heap h' → SetL P w h' a (L ++ [z]) → Q b { s with heap := h' }) :
    wpAny (model P w) A (setAddHashed a (.str z tk) ((kS P w).hash z)) Q E s := by
  obtain ⟨o, es, ep, t, r⟩ := R
  have hel := okT_elems r.ok
  have few : es.size ≤ L.length := by
    have key : ∀ {l m : List Str}, l.Nodup → (∀ x ∈ l, x ∈ m) → l.length ≤ m.length := by
      intro l
      induction l with
      | nil => intro m _ _; exact Nat.zero_le _
      | cons x l ih =>
        intro m hn h
        obtain ⟨h1, h2⟩ := List.nodup_cons.mp hn
        have h3 := ih (m := m.erase x) h2 fun y hy => (List.mem_erase_of_ne fun e => h1 (by rw [← e]; exact hy)).mpr (h y (List.mem_cons_of_mem _ hy))
        have h4 := h x List.mem_cons_self
        have h5 := List.length_erase_of_mem h4
        have h6 := List.length_pos_of_mem h4
        simp only [List.length_cons]
        omega
    have := key r.nd fun x hx => (r.me x).mpr hx
    simpa using this
  have scn : (Value.str z tk).scannable = true := rfl
  have isz : (kS P w).is z (.str z tk) = true := strKind_is P w z tk
  have gv : ∀ (b : Bool) {s1 : Shared} {Q' : Unit → Shared → Prop}, Q' () s1 → wpAny (model P w) A (match b with | true => rule "set.scan.the-table-gave-way" | false => pure ()) Q' E s1 := fun b s1 Q' q => by
    cases b
    · exact wpAny_pure q
    · exact wpAny_rule q
  unfold setAddHashed setAddHashedIn
  refine wpAny_holding (wpAny_bind (wpAny_setState_of r.at_ r.da r.fi ?_))
  show wpAny (model P w) A _ _ _ _
  dsimp only
  rw [byScan_of scn r.sz hel]
  simp only [↓reduceIte]
  unfold setAddByScan
  refine wpAny_bind (wpAny_bind (wpAny_rule (wpAny_bind (wpAny_setScan_of isz r.at_ r.da r.fi hel ?_))))
  cases hf : List.findIdx? (fun e => (kS P w).is z e.2) es.toList with
  | none =>
    dsimp only
    have znot : z ∉ es.toList.map txOf := fun hz => by
      obtain ⟨e, he, q⟩ := List.mem_map.mp hz
      have c := List.findIdx?_eq_none_iff.mp hf e he
      rw [(okT_is (r.ok e he) z).mpr q] at c
      cases c
    have p1 := layNew_perm t es ((kS P w).hash z) (.str z tk)
    have p2 := layNew_fits t es ((kS P w).hash z) (.str z tk)
    have p3 := layNew_ris t es ((kS P w).hash z) (.str z tk) r.ri
    have p4 := layNew_led t es ((kS P w).hash z) (.str z tk)
    rcases hz : layNew t es ((kS P w).hash z) (.str z tk) with ⟨es1, t1, wd, gave⟩
    rw [hz] at p1 p2 p3 p4
    dsimp only at p1 p2 p3 p4 ⊢
    rw [Array.toList_push] at p1
    have pc : es1.toList.Perm (((kS P w).hash z, Value.str z tk) :: es.toList) := p1.trans (List.perm_append_singleton _ _)
    have pk : (es1.toList.map txOf).Perm (z :: es.toList.map txOf) := pc.map txOf
    have ok1 : ∀ e ∈ es1.toList, OkT P w e := fun e he => by
      rcases List.mem_cons.mp (pc.mem_iff.mp he) with y | y
      · rw [y]; exact ⟨z, tk, rfl, rfl⟩
      · exact r.ok e y
    have nd1 : (es1.toList.map txOf).Nodup := pk.nodup_iff.mpr (List.nodup_cons.mpr ⟨znot, r.nd⟩)
    have me1 : ∀ k, k ∈ L ++ [z] ↔ k ∈ es1.toList.map txOf := fun k => by
      rw [pk.mem_iff, List.mem_cons, List.mem_append, List.mem_singleton, r.me k]
      exact Or.comm
    have sz1 : es1.size < scanBound := by
      rw [← Array.length_toList, pc.length_eq, List.length_cons, Array.length_toList]
      omega
    have le1 : w.params.followText "set-order" = true ∨ t1.led = true := r.le.imp id fun y => by rw [p4]; exact y
    refine wpAny_bind (gv _ ?_)
    split
    · refine wpAny_bind ?_
      rw [hashByValue_scannable 8 scn]
      refine wpAny_pure (setT_store (L := L ++ [z]) (fun b s1 Q' q => ?_) r.at_ r.ex r.da ok1 nd1 me1 sz1 ?_ ?_ ?_ fun h' sb q => ?_)
      · exact gv b q
      · split
        · exact p2
        · exact SetTable.fits_plain_off p2
      · split <;> exact p3
      · split <;> exact le1
      · dsimp only
        exact wpAny_pure (hQ _ h' sb q)
    · refine wpAny_bind (wpAny_pure ?_)
      simp only [↓reduceIte]
      refine setT_store (L := L ++ [z]) (fun b s1 Q' q => ?_) r.at_ r.ex r.da ok1 nd1 me1 sz1 p2 p3 le1 fun h' sb q => ?_
      · exact gv b q
      · dsimp only
        exact wpAny_pure (hQ _ h' sb q)
  | some j =>
    dsimp only
    obtain ⟨hj, pj, _⟩ := List.findIdx?_eq_some_iff_getElem.mp hf
    have zin : z ∈ es.toList.map txOf := List.mem_map.mpr ⟨_, List.getElem_mem hj, (okT_is (r.ok _ (List.getElem_mem hj)) z).mp pj⟩
    refine wpAny_pure (wpAny_pure (hQ _ s.heap (Heap.SameBut.refl a s.heap) ⟨o, es, ep, t, r.at_, r.ex, r.da, r.ok, r.nd, fun k => ?_, r.sz, r.fi, r.ri, r.le⟩))
    rw [List.mem_append, List.mem_singleton]
    exact ⟨fun h => h.elim (r.me k).mp fun e => e ▸ zin, fun h => .inl ((r.me k).mpr h)⟩
end
end Nt

namespace Nt
open PySem PySem.Spec PyProof.Rows L2
section
variable {P : Program} {w : World} {A : Around} {R : Result → Shared → Prop} {it a : Addr} {fp wr : List Addr} {G : Array GenState → Array GenState → Prop} {n : Nat} {Pv : Nat → Value → Prop} {St : Nat → Shared → Prop} {L : List Str}
theorem SetL.keep {h h' : Heap} (r : SetL P w h a L) (k : ∀ o, h.get? a = some o → h'.get? a = some o) : SetL P w h' a L := by
  obtain ⟨o, es, ep, t, r⟩ := r
  exact ⟨o, es, ep, t, k o r.at_, r.ex, r.da, r.ok, r.nd, r.me, r.sz, r.fi, r.ri, r.le⟩
/-- the texts of an iterable, one after the other -/
theorem setT_loop (W : WalksS P w A.in1 it fp wr G n Pv St) (off : a ∉ fp) {xs : List Str} (hx : xs.length = n) (room : n + 1 < scanBound) (hv : ∀ i v, Pv i v → ∃ t, v = .str (xs.getD i Str.empty) t) (left : Nat) :
    ∀ {i : Nat} {s : Shared}, i + left = n → St i s → SetL P w s.heap a (xs.take i) → (∀ s', Moved (a :: wr) G s s' → SetL P w s'.heap a xs → R (.ok (.ret .none)) s') →
      codeAny (model P w) A (.builtin "set.update.loop" ⟨[.ref a, .ref it], []⟩) R s := by
  have offw : a ∉ wr := fun h => off (W.sub _ h)
  have sub : ∀ b ∈ wr, b ∈ a :: wr := fun b hb => List.mem_cons_of_mem _ hb
  induction left with
  | zero =>
    intro i s hi st r q
    rw [Nat.add_zero] at hi
    subst hi
    have rr : SetL P w s.heap a xs := by rw [← hx, List.take_length] at r; exact r
    refine codeAny_builtin PyProof.Rows.F.entry_set_update_loop ?_
    rw [Around.under_plainId PyProof.Rows.F.plain_set_update_loop _]
    show wpAny _ A.in1 (pyNext (.ref it) >>= _) _ _ s
    exact wpAny_bind (W.done s _ _ st fun s' mv => wpAny_pure (q s' (mv.mono sub) (rr.keep fun o ho => mv.heap a o offw ho)))
  | succ left ih =>
    intro i s hi st r q
    have hin : i < n := by omega
    refine codeAny_builtin PyProof.Rows.F.entry_set_update_loop ?_
    rw [Around.under_plainId PyProof.Rows.F.plain_set_update_loop _]
    show wpAny _ A.in1 (pyNext (.ref it) >>= _) _ _ s
    refine wpAny_bind (W.item i s _ _ hin st fun v s1 hp st1 mv => ?_)
    obtain ⟨tk, rfl⟩ := hv i v hp
    have r1 : SetL P w s1.heap a (xs.take i) := r.keep fun o ho => mv.heap a o offw ho
    have hlen : (xs.take i).length + 1 < scanBound := by rw [List.length_take]; omega
    have hnext : xs.take (i + 1) = xs.take i ++ [xs.getD i Str.empty] := by
      have hl : i < xs.length := by omega
      rw [List.take_succ_eq_append_getElem hl]
      simp [List.getD, hl]
    show wpAny _ A.in1 (holding [Value.str (xs.getD i Str.empty) tk] (setAdd a (.str (xs.getD i Str.empty) tk)) >>= _) _ _ s1
    refine wpAny_bind (wpAny_holding ?_)
    unfold setAdd
    refine wpAny_holding (wpAny_bind ((kS P w).pyHash (k := xs.getD i Str.empty) (strKind_is _ _ _ _) ?_))
    refine setT_add (s := { s1 with toks := s1.toks + 1 }) r1 hlen fun b h' sb r2 => ?_
    rw [← hnext] at r2
    have others : ∀ b, b ≠ a → h'.get? b = s1.heap.get? b := fun b hb => sb.2 b hb
    refine wpAny_pure ⟨plainId_quiet PyProof.Rows.F.plain_set_update_loop _, ih (by omega) (W.frame _ s1 _ _ st1 (Nat.le_succ _) fun b hb o ho => ?_) r2 fun s2 mv2 r3 => q s2 (Moved.trans W.gtrans ((mv.mono sub).then_heap (Nat.le_succ _) fun b o hb ho => ?_) mv2) r3⟩
    · exact (others b fun h => off (by rw [← h]; exact hb)).trans ho
    · exact (others b fun h => hb (by rw [h]; exact List.mem_cons_self)).trans ho
end
end Nt

namespace Nt
open PySem PySem.Spec PyProof.Rows L2
/-- a new set -/
abbrev bare0 (w : World) : Obj := { cls := .type "set", dict := none, data := .set #[] 0 (.fresh 0 0 (!w.params.followText "set-order")) }
section
variable {P : Program} {w : World} {A : Around} {E : Value → Shared → Prop} {s : Shared}
theorem setL_bare {h : Heap} {a : Addr} (ha : h.get? a = some (bare0 w)) : SetL P w h a [] :=
  ⟨_, #[], 0, _, ha, ⟨rfl, rfl, rfl⟩, rfl, fun e he => by simp at he, by simp, fun z => by simp, by decide, rfl, List.Pairwise.nil, by
    show _ ∨ (!w.params.followText "set-order") = true
    cases w.params.followText "set-order"
    · exact .inr rfl
    · exact .inl rfl⟩
theorem str_of {vs : List Value} {xs : List Str} (h : StrsAre vs xs) : ∀ (i : Nat) (v : Value), vs[i]? = some v → ∃ t, v = .str (xs.getD i Str.empty) t := by
  induction h with
  | nil => intro i v h; simp at h
  | cons z t _ ih =>
    intro i v h
    cases i with
    | zero => simp at h; exact ⟨t, h.symm⟩
    | succ i => obtain ⟨t2, e⟩ := ih i v (by simpa using h); exact ⟨t2, by simpa using e⟩
/-- set(xs), xs a list of texts -/
theorem call_setT {l : Addr} {items : Array Value} {xs : List Str} {Q : Value → Shared → Prop} (hh : A.handled = none) (hl : s.heap.IsList l items) (hi : StrsAre items.toList xs) (few : xs.length + 1 < scanBound)
    (h : ∀ (h' : Heap) (tk : Nat), SetL P w h' s.heap.objs.size xs → (∀ b o, s.heap.get? b = some o → h'.get? b = some o) → Q (.ref s.heap.objs.size) { s with heap := h', toks := tk }) :
    wpAny (model P w) A (call (.type "set") [.ref l]) Q E s := by
  have len : xs.length = items.size := by rw [← StrsAre.len_eq hi, Array.length_toList]
  obtain ⟨cc, tl, k1⟩ := PySem.F.called_set.mro
  have k2 := PySem.F.called_set.made
  have k3 := PySem.F.called_set.sub
  refine wpAny_call (codeAny_of_tree ?_)
  show wpAny _ _ (callAny (.type "set") _) _ _ _
  refine wpAny_pure ⟨Code.quiet_builtin _ (by decide +kernel), codeAny_builtin PySem.F.entry_type_call ?_⟩
  rw [Around.under_plain (weight_type_call_type "set" [.ref l] []) rfl]
  have k4 := PySem.F.called_set.notType
  have k5 := PySem.F.called_set.canCreate
  have k6 := PySem.F.typeCall_set_1 (.ref l)
  repeat any_goals first | assumption | wp_step
  have new : (s.heap.push (bare0 w)).get? s.heap.objs.size = some (bare0 w) := Heap.get?_push_size _ rfl
  refine codeAny_mono (code_set_led1 (.ref l) (E := E) (Q₁ := fun obj s1 => obj = .ref s.heap.objs.size ∧ s1 = { s with heap := s.heap.push (bare0 w) }) ⟨rfl, rfl⟩) fun r s1 hr => ?_
  rcases r with er | fl
  · exact hr
  rcases fl with _ | _ | _ | obj
  · exact hr.elim
  · exact hr.elim
  · exact hr.elim
  obtain ⟨rfl, rfl⟩ := hr
  have tyS : Shared.TypeIs { s with heap := s.heap.push (bare0 w) } (.ref s.heap.objs.size) "set" := ⟨_, new, rfl⟩
  have k7 := PySem.F.called_set.init.lookup
  have k8 := PySem.F.called_set.init.bind (.ref s.heap.objs.size)
  repeat any_goals first | assumption | wp_step
  have keep : ∀ (b : Addr) (o : Obj), s.heap.get? b = some o → b ≠ s.heap.objs.size := fun b o e => Nat.ne_of_lt (Heap.lt_size e)
  let Z : Value → Shared → Prop := fun r s2 => r = .none ∧ ∃ h' tk, s2 = { s with heap := h', toks := tk } ∧ SetL P w h' s.heap.objs.size xs ∧ ∀ b o, s.heap.get? b = some o → h'.get? b = some o
  refine codeAny_mono (codeAny_call_builtin (R := wants Z E) PySem.F.called_set.init.plain PySem.F.entry_set_init (check_set_init_1 tyS ?_)) fun r s2 hr => ?_
  · obtain ⟨⟨oc, od, dt, osl⟩, ho, hc, nl, hd⟩ := hl
    simp only at hc hd
    subst hc hd
    have lS := Heap.lt_size ho
    have here : (s.heap.push (bare0 w)).get? l = some { cls := .type "list", dict := od, data := .seq items nl, slots := osl } := Heap.get?_push_of_some _ ho
    have il : (s.heap.push (bare0 w)).IsList l items := ⟨_, here, rfl, nl, rfl⟩
    have k9 := PySem.F.sub_list_set
    have k10 := PySem.F.sub_list_frozenset
    have k11 : (Value.type "list" == Value.type "dict") = false := by decide
    unfold Builtin.«set.__init__» noKeywords Builtin.Frozenset.updateFrom
    generalize hPI : pyIter = PI
    wp_walk
    subst hPI
    refine wpAny_pyIter_list il (wpAny_bind (wpAny_runValue ?_))
    have free3 : A.in1.in1.in1.handled = none := by simp [hh]
    have size1 : (s.heap.push (bare0 w)).objs.size = s.heap.objs.size + 1 := Heap.size_push ..
    have far : l ≠ (s.heap.push (bare0 w)).objs.size := by rw [size1]; exact Nat.ne_of_lt (Nat.lt_succ_of_lt lS)
    have off : s.heap.objs.size ∉ [(s.heap.push (bare0 w)).objs.size, l] := by
      rw [size1]
      intro z
      simp only [List.mem_cons, List.not_mem_nil, or_false] at z
      rcases z with z | z
      · exact absurd z (Nat.ne_of_lt (Nat.lt_succ_self _))
      · exact absurd z (Nat.ne_of_gt lS)
    have its : ∀ (i : Nat) (v : Value), items[i]? = some v → ∃ t, v = .str (xs.getD i Str.empty) t := fun i v hv => str_of hi i v (by rw [Array.getElem?_toList]; exact hv)
    refine setT_loop ((Walks.list free3 _ l far items).toS) off len (by rw [← len]; exact few) its items.size (i := 0) (by omega) ⟨⟨_, Heap.get?_push_size _ rfl, rfl, rfl⟩, il.push _⟩ ?_ ?_
    · rw [List.take_zero]
      exact setL_bare (Heap.get?_push_of_some _ new)
    · intro s3 mv r3
      obtain ⟨h3, g3, d3, t3, o3⟩ := s3
      have eg : g3 = s.gens := mv.gens
      have ed : d3 = s.drawn := mv.drawn
      have eo : o3 = s.os := mv.os
      subst eg ed eo
      show wpAny _ _ _ _ _ _
      refine wpAny_pure ?_
      show wpAny _ _ (ret Value.none) _ _ _
      refine wpAny_pure ⟨rfl, h3, t3, rfl, r3, fun b o e => ?_⟩
      have hb := Heap.lt_size e
      refine mv.heap b o (fun z => ?_) (Heap.get?_push_of_some _ (Heap.get?_push_of_some _ e))
      simp only [List.mem_cons, List.not_mem_nil, or_false] at z
      rcases z with z | z
      · exact keep b o e z
      · rw [size1] at z
        exact absurd z (Nat.ne_of_lt (Nat.lt_succ_of_lt hb))
  · rcases r with er | fl
    · exact hr
    rcases fl with _ | _ | _ | v
    · exact hr.elim
    · exact hr.elim
    · exact hr.elim
    obtain ⟨rfl, h3, t3, rfl, r3, kp⟩ := hr
    repeat any_goals first | assumption | wp_step
    exact h _ _ r3 kp
end
end Nt

namespace Nt
open PySem PySem.Spec PyProof.Rows L2
section
variable {P : Program} {w : World} {A : Around} {E : Value → Shared → Prop} {s : Shared}
/-- sorted(a set of texts) -/
theorem sorted_setT {a : Addr} {L : List Str} {Q : Value → Shared → Prop} (R : SetL P w s.heap a L) (hh : A.handled = none)
    (hQ : ∀ s' p (out : Array Value) (c : Nat) (ys : List Str), (∀ b o, s.heap.get? b = some o → s'.heap.get? b = some o) → s'.gens = s.gens → s'.os = s.os → s.heap.objs.size ≤ p →
      s'.heap.get? p = some (seqObj "list" out c) → StrsAre out.toList ys → sortedS ys = true → ys.Nodup → (∀ z, z ∈ ys ↔ z ∈ L) → Q (.ref p) s') :
    wpAny (model P w) A (call (.builtin "sorted") [.ref a]) Q E s := by
  obtain ⟨o, es, ep, t, r⟩ := R
  refine Calls.call_function_entry kind_sorted plain_sorted entry_sorted (args_sorted1 _) ?_
  unfold Builtin.«sorted»
  refine wpAny_bind (m := checkCount "sorted" 1 1 _) (wpAny_pure (wpAny_bind (collect_set (A := A.in1) hh ⟨o, r.at_, r.ex.1, r.da⟩ r.fi r.sz r.ri r.le fun s1 vs kp le1 g1 o1 pm => ?_)))
  have lens : vs.length = es.size := by rw [pm.length_eq, List.length_map, Array.length_toList]
  have small : vs.length ≤ sizeLine := by rw [lens]; exact fits_of_scanBound r.sz
  have hstr : ∀ (l : List (Int × Value)), (∀ e ∈ l, OkT P w e) → StrsAre (l.map (·.2)) (l.map txOf) := by
    intro l
    induction l with
    | nil => intro _; exact .nil
    | cons e l ih =>
      intro h
      obtain ⟨z, tk, h1, _⟩ := h e List.mem_cons_self
      have e2 : txOf e = z := by unfold txOf; rw [h1]
      rw [List.map_cons, List.map_cons, h1, e2]
      exact .cons z tk (ih fun x hx => h x (List.mem_cons_of_mem _ hx))
  obtain ⟨xs, hxs, px⟩ : ∃ xs, StrsAre vs xs ∧ xs.Perm (es.toList.map txOf) := by
    have key : ∀ {us vs : List Value}, vs.Perm us → ∀ {ys}, StrsAre us ys → ∃ xs, StrsAre vs xs ∧ xs.Perm ys := by
      intro us vs p
      induction p with
      | nil => intro ys h; cases h; exact ⟨[], .nil, .nil⟩
      | cons v _ ih =>
        intro ys h
        cases h with
        | cons z t h =>
          obtain ⟨xs, h1, h2⟩ := ih h
          exact ⟨z :: xs, .cons z t h1, h2.cons z⟩
      | swap v u l =>
        intro ys h
        cases h with
        | cons z t h => cases h with
          | cons z2 t2 h => exact ⟨z2 :: z :: _, .cons z2 t2 (.cons z t h), .swap z z2 _⟩
      | trans _ _ ih1 ih2 =>
        intro ys h
        obtain ⟨xs, h1, h2⟩ := ih2 h
        obtain ⟨xs2, h3, h4⟩ := ih1 h1
        exact ⟨xs2, h3, h4.trans h2⟩
    exact key pm (hstr _ r.ok)
  refine wpAny_bind (wpAny_newList ?_ small)
  have hoL : (s1.heap.push (seqObj "list" vs.toArray 0)).get? s1.heap.objs.size = some (seqObj "list" vs.toArray 0) := Heap.get?_push_size _ rfl
  refine wpAny_bind (wpAny_holding (wpAny_call_entry slot_list_sort ⟨_, hoL, rfl⟩ entry_list_sort (list_sort_treeKAny strKind_oneLt hoL hxs.keysOf (fun v1 v2 rest e => keyKind_strs (by rw [← e]; exact hxs)) small fun st hp hs => ⟨_, rfl, ?_⟩) (args_list_sort _)))
  obtain ⟨ys, y1, y2, y3⟩ := sorted_out_str hxs hp hs
  obtain ⟨c, hc⟩ := sortedHeap_at (vs := vs) (out := (arrOf st).map (·.2)) hoL
  have py := y2.trans px
  refine wpAny_pure ⟨_, rfl, hQ _ s1.heap.objs.size _ c ys (fun b u e => ?_) g1 o1 le1 hc y1 y3 (py.nodup_iff.mpr r.nd) fun z => py.mem_iff.trans (r.me z).symm⟩
  have e1 := kp b u e
  have lt := Heap.lt_size e1
  show (sortedHeap (s1.heap.push (seqObj "list" vs.toArray 0)) s1.heap.objs.size vs _).get? b = some u
  rw [sortedHeap_old (Nat.ne_of_lt lt) (by rw [size_push']; exact Nat.lt_succ_of_lt lt)]
  exact Heap.get?_push_of_some _ e1
end
/-! ### .. in the hand layer -/
def SetTO (P : Program) (w : World) (a : Addr) (L : List Str) : HO := .ext fun h => SetL P w h a L
section
variable {X : Cx}
theorem setTO_ok {P : Program} {w : World} {H : Hp} {h : Heap} {a : Addr} {L : List Str} (R : SetL P w h a L) : ObjOk P w H h a (SetTO P w a L) := by
  have ⟨o, _, _, _, r⟩ := R
  exact ⟨R, ⟨o, r.at_⟩, fun h1 h2 p k => SetL.keep p k⟩
/-- set(a list of texts) -/
def rSetT (K : PySem.W.Frag) (P : Program) (w : World) : List V → Hp → VK → Prop := fun vs H Q => ∃ (a : Addr) (xs : List Str), vs = [V.ref a] ∧ SqL K H a (xs.map V.str) ∧ xs.length + 1 < scanBound ∧ ∀ p, H p = none → Q (.ref p) (upd H p (SetTO P w p xs))
theorem cr_setT (hc : X.calm = true) : CallR X (.type "set") (rSetT X.K X.prog X.w) := by
  intro pins s σ H vs us Q I r h
  obtain ⟨a, xs, rfl, hs, few, q⟩ := h
  obtain ⟨its, rv, hl, _⟩ := I.list hs
  rw [Vals.ref1 r]
  refine call_setT (I.ok.hd hc) hl.isList (by simpa using rv.strs) few fun h' tk R kp => ?_
  exact ⟨.ref _, upd H s.heap.objs.size (SetTO X.prog X.w s.heap.objs.size xs), I.laid (t' := tk) kp (Nat.le_refl _) (setTO_ok R), rfl, q _ (I.hok.fresh (Nat.le_refl _))⟩
def rSortT (P : Program) (w : World) : List V → Hp → VK → Prop := fun vs H Q => ∃ (a : Addr) (L : List Str), vs = [V.ref a] ∧ H a = some (SetTO P w a L) ∧ L.length ≤ 1000 ∧
  ∀ (ys : List Str) (p : Addr), sortedS ys = true → ys.Nodup → (∀ z, z ∈ ys ↔ z ∈ L) → H p = none → Q (.ref p) (upd H p (.lst (ys.map V.str)))
theorem cr_sortT (hc : X.calm = true) : CallR X (.builtin "sorted") (rSortT X.prog X.w) := by
  intro pins s σ H vs us Q I r h
  obtain ⟨a, L, rfl, ha, few, q⟩ := h
  have R : SetL X.prog X.w s.heap a L := (I.hok a _ ha).1
  rw [Vals.ref1 r]
  refine sorted_setT R (I.ok.hd hc) fun s' p out c ys kp hg ho hp hat hst hso hnd hme => ?_
  have hn : H p = none := I.hok.fresh hp
  have few2 : ys.length ≤ L.length := by
    have key : ∀ {l m : List Str}, l.Nodup → (∀ x ∈ l, x ∈ m) → l.length ≤ m.length := by
      intro l
      induction l with
      | nil => intro m _ _; exact Nat.zero_le _
      | cons x l ih =>
        intro m hn h
        obtain ⟨h1, h2⟩ := List.nodup_cons.mp hn
        have h3 := ih (m := m.erase x) h2 fun y hy => (List.mem_erase_of_ne fun e => h1 (by rw [← e]; exact hy)).mpr (h y (List.mem_cons_of_mem _ hy))
        have h5 := List.length_erase_of_mem (h x List.mem_cons_self)
        have h6 := List.length_pos_of_mem (h x List.mem_cons_self)
        simp only [List.length_cons]
        omega
    exact key hnd fun x hx => (hme x).mp hx
  have hl : (ys.map V.str).length ≤ sizeLine := by rw [List.length_map, sizeLine_eq]; omega
  have J : Inv X pins σ (upd H p (.lst (ys.map V.str))) { s with heap := s'.heap, gens := s'.gens, drawn := s'.drawn, toks := s'.toks } :=
    I.call (ch := []) (Un.laid kp hp hn) (I.hok.laid kp hp ⟨hl, out.toList, c, vals_of_strs hst, hat⟩) (by rw [hg]; exact I.bare) fun _ z => nomatch z
  have e : s' = { s with heap := s'.heap, gens := s'.gens, drawn := s'.drawn, toks := s'.toks } := by
    obtain ⟨h1, g1, d1, t1, o1⟩ := s'
    obtain ⟨h2, g2, d2, t2, o2⟩ := s
    simp only at ho
    subst ho
    rfl
  rw [e]
  exact ⟨.ref p, _, J, rfl, q ys p hso hnd hme hn⟩
end
end Nt

namespace Nt
open PySem PySem.Spec PySem.W PyProof.Rows L2
/-! ### a key def: x.count(a text) -/
section
variable {P : Program} {w : World} {K : PySem.W.Frag} {mg : Str → Option Value} {base : Heap} {A : Around} {outer : List Env} {s0 : Shared} {H : Hp} {f : Addr} {fd : FuncData} {nm qual x c z : Str} {params : Arguments} {scope : Scope} {p1 p2 p3 p4 p5 : Pos} {k0 : Nat} {t : Tok}
abbrev cntBody (x c : Str) (k0 : Nat) (p1 p2 p3 p4 p5 : Pos) : List Stmt := [.Return (some (.Call (.Attribute (.Name x p1) "count" p2) [.Constant (.str c) k0 p3] [] p4)) p5]
theorem count_key (F : FunD K nm qual params (cntBody x c k0 p1 p2 p3 p4 p5) scope [] [] f fd) (S : FnScope [x] [x] scope) (hv : scope.names.lookup x = some .local) (hd : (x == ("__debug__" : Str)) = false) (hline : (p2.endLine == p4.line) = true) (hr : Room 1 A) (e0 : Env0 P w K mg base A outer s0 H)
    (hb : BindsTo s0 fd ⟨[.str z t], []⟩ [(x, .str z t)]) : wpAny (model P w) A (call (.ref f) [.str z t]) (PySem.W.KeyPure (.int (Txt.count z c)) s0) (fun _ _ => False) s0 := by
  obtain ⟨oc, od, dV, kV, doc, pm, an, cdv, ct, osl, rfl, lk, hcd, _, _⟩ := F.ex
  have KX : K.In s0.heap := e0.mod.kin.keeps fun b o e => (e0.bs b o e).1
  have lim : s0.heap.NoLimit := e0.mod.nolimit.keeps fun b o e => (e0.bs b o e).1
  refine wpAny_call (codeAny_call_function hr.depth (KX _ _ lk) rfl S.co S.gen rfl (PySem.W.codeRec_of KX hcd) (hb _ _ _ _ ?_))
  refine wpAny_newFunctionEnv_cells S.kind (fun y hy => .inl (by rw [List.mem_singleton.mp hy]; exact hv)) fun env he s1 x1 => ?_
  subst he
  refine ⟨lim.keeps x1.toInCall.keep, codeAny_func ?_⟩
  have I : Inv (cxOf (L2.CX P w) P w K mg base [x] qual scope f cdv A outer s0 H (fun _ _ _ => False)) [] (start [x] [.str z]) H s1 := inv_start S hr.hd e0 rfl (.cons ⟨t, rfl⟩ .nil) x1
  obtain ⟨h1, tk, rfl, hk⟩ := x1.done
  have X0 := cxOf (L2.CX P w) P w K mg base [x] qual scope f cdv A outer s0 H (fun _ _ _ => False)
  refine wpAny_execs_cons (wpAny_Return_some (wpAny_Call_method_late rfl rfl hline rfl ?_))
  obtain ⟨m, hn, hl⟩ := I.loc
  obtain ⟨u, r, l⟩ := hl 0 x (.str z) rfl rfl (.inl hv)
  have here : ∀ {Q : Value → Shared → Prop} {E : Value → Shared → Prop}, Q u { s0 with heap := h1, toks := tk } → wpAny (model P w) (A.deeper (envOfC qual scope s0.heap.objs.size f cdv)) (eval (.Name x p1) (envOfC qual scope s0.heap.objs.size f cdv)) Q E { s0 with heap := h1, toks := tk } := fun {Q E} q => by
    rcases l with ⟨hk, hm⟩ | ⟨hk, c, hc, hcell⟩
    · exact wpAny_Name (wpAny_loadName_local I.ok.kind hk hn hm q) hd
    · have e : (envOfC qual scope s0.heap.objs.size f cdv).kindOf x = some .local := hv
      rcases hk with hk | hk
      · have hk2 : (envOfC qual scope s0.heap.objs.size f cdv).kindOf x = some .cell := hk
        rw [hk2] at e; cases e
      · have hk2 : (envOfC qual scope s0.heap.objs.size f cdv).kindOf x = some .free := hk
        rw [hk2] at e; cases e
  refine here ?_
  obtain ⟨t2, rfl⟩ := r
  refine ⟨"str", "str.count", PySem.F.plainAttrs_str, PySem.F.slot_str_count, PySem.F.type_str_count, typeIs_str _ z t2, (fun _ e => nomatch e), ?_⟩
  refine Calls.callWith_builtin rfl (Calls.evalArgs_plain ?_)
  refine PyProof.Rows.args_cons (wpAny_Constant_str (PyProof.Rows.args_nil (PySem.SC.count ?_))) rfl
  exact ⟨h1, _, rfl, hk, .int _ _⟩
end
/-! ### sorted(texts, key=such a def) -/
theorem pe_gref {X : Cx} {x : Str} {f : Addr} {pos : Pos} (hg : Gl X x) (hm : X.mg x = some (.ref f)) (hdb : (x == ("__debug__" : Str)) = false := by decide) : PE X (.Name x pos) (tC (.ref f)) :=
  ⟨fun pins s σ H Q I h => ld_glob I hg hm ⟨.ref f, H, I, rfl, h⟩ hdb⟩
def leK (g : Str → Int) : Str → Str → Bool := fun a b => decide (g a ≤ g b)
def rSortKey (K : PySem.W.Frag) (f : Addr) (g : Str → Int) : List V → List V → Hp → VK → Prop := fun vs zs H Q => ∃ (a : Addr) (xs : List Str), vs = [V.ref a] ∧ zs = [V.ref f] ∧ SqL K H a (xs.map V.str) ∧ xs.length ≤ 1000 ∧
  ∀ p, H p = none → Q (.ref p) (upd H p (.lst ((xs.mergeSort (leK g)).map V.str)))
section
variable {X : Cx} {nm qual x c : Str} {params : Arguments} {scope : Scope} {p1 p2 p3 p4 p5 : Pos} {k0 : Nat} {f : Addr} {fd : FuncData}
theorem cr_sortKey (F : FunD X.K nm qual params (cntBody x c k0 p1 p2 p3 p4 p5) scope [] [] f fd) (S : FnScope [x] [x] scope) (hv : scope.names.lookup x = some .local) (hd : (x == ("__debug__" : Str)) = false) (hline : (p2.endLine == p4.line) = true) (hr : Room 1 X.A.in1.in1) (hu : X.A.units + 65 < cLine)
    (hb : ∀ (s : Shared) (v : Value), BindsTo s fd ⟨[v], []⟩ [(x, v)]) : CallRK X (.builtin "sorted") ["key"] (rSortKey X.K f fun z => Txt.count z c) := by
  intro pins s σ H vs zs us ws Q I r rz h
  obtain ⟨a, xs, rfl, rfl, hs, few, q⟩ := h
  obtain ⟨its, rv, hl, _⟩ := I.list hs
  rw [Vals.ref1 r, Vals.ref1 rz]
  have hst : StrsAre its xs := by simpa using rv.strs
  have each : PySem.W.EachIs (fun (v : Value) (z : Str) => ∃ t, v = .str z t) its xs := by
    have key : ∀ {its : List Value} {xs : List Str}, StrsAre its xs → PySem.W.EachIs (fun (v : Value) (z : Str) => ∃ t, v = .str z t) its xs := by
      intro its xs h
      induction h with
      | nil => exact .nil
      | cons z t _ ih => exact .cons ⟨t, rfl⟩ ih
    exact key hst
  have hle : (PySem.W.dataLe false fun z : Str => PyData.int (Txt.count z c)) = leK fun z => Txt.count z c := PySem.W.dataLe_int _
  refine PySem.W.sorted_key_data (b := false) (fun z : Str => PyData.int (Txt.count z c)) hl.isList each (PySem.W.AllAlike.of fun _ _ => by simp [PySem.W.alike]) (PySem.W.Sortable.others fun z => ⟨nofun, fun l => nofun⟩) (by rw [sizeLine_eq]; omega) (fun z _ => ?_) (ksk_s1 _ _) (fun _ => ksk_l1 _ _) (fun _ => ksk_t1 _ _) (fun v z hv2 _ h tk kp => ?_) fun out c' h' tk kp _ hD hlen eo => ?_
  · have e : (PyData.int (Txt.count z c)).depth = 0 := by simp [PyData.depth]
    omega
  · obtain ⟨t, rfl⟩ := hv2
    have I2 : Inv X pins σ H { s with heap := h, toks := tk } := I.kept fun b o e => kp b o e
    exact count_key F S hv hd hline hr (I2.env0.in1.in1) (hb _ _)
  · rw [hle] at eo
    have hso : StrsAre out (xs.mergeSort (leK fun z => Txt.count z c)) := by
      generalize xs.mergeSort (leK fun z => Txt.count z c) = ys at eo
      clear hlen hD
      induction eo with
      | nil => exact .nil
      | cons h _ ih =>
        obtain ⟨t, rfl⟩ := h
        exact .cons _ t ih
    have hl2 : ((xs.mergeSort (leK fun z => Txt.count z c)).map V.str).length ≤ sizeLine := by rw [List.length_map, List.length_mergeSort, sizeLine_eq]; omega
    exact ⟨.ref _, upd H (s.heap.objs.size + 1) (.lst ((xs.mergeSort (leK fun z => Txt.count z c)).map V.str)), I.laid (t' := tk) kp (Nat.le_succ _) ⟨hl2, out, c', vals_of_strs hso, hD⟩, rfl, q _ (I.hok.fresh (Nat.le_succ _))⟩
end
/-! ### sorted(pairs of a number and a text) -/
def rCountS : V → List V → Hp → VK → Prop := fun x xs H Q => ∃ a b, x = .str a ∧ xs = [.str b] ∧ Q (.int (Txt.count a b)) H
theorem mt_countS {X : Cx} : MtR X "str.count" rCountS := mt_count
abbrev eG (g : List Nat → Int) (l : List Nat) : D := .tup [.int (g l), .str (T l)]
def leP (g : List Nat → Int) : List Nat → List Nat → Bool := PySem.W.dataLe false fun l => PyData.tuple [.int (g l), .str (T l)]
def rSortPT (K : PySem.W.Frag) : List V → Hp → VK → Prop := fun vs H Q => ∃ (M : Addr → Prop) (I : Hp → Prop) (x : V) (L : List (List Nat)) (g : List Nat → Int), Wf M I ∧ I H ∧ vs = [x] ∧ Rep K M H x (.lst (L.map (eG g))) ∧ L.length ≤ 1000 ∧ (∀ l ∈ L, ∀ c ∈ l, c < 128) ∧
  ∀ y H', Ex M H H' → I H' → Rep K M H' y (.lst ((L.mergeSort (leP g)).map (eG g))) → Q y H'
theorem cr_sortPT {X : Cx} (hu : X.A.units + 65 < cLine) : CallR X (.builtin "sorted") (rSortPT X.K) := by
  intro pins s σ H vs us Q I r h
  obtain ⟨M, J, x, L, g, hw, hJ, rfl, hx, few, hc, q⟩ := h
  cases hx with
  | @lst a xs _ ha na rs =>
    obtain ⟨its, rv, hl, _⟩ := I.list (SqL.of ha)
    rw [Vals.ref1 r]
    let R : Value → List Nat → Prop := fun v l => (∃ x : V, RelV x v ∧ Rep X.K M H x (eG g l)) ∧ l ∈ L
    have each : EachIs R its L ∧ EachIs (fun v l => ∃ as, Reads s.heap v (PyData.tuple [.int (g l), .str (T l)]) as) its L := by
      have key : ∀ {L0 : List (List Nat)} {xs : List V} {its : List Value}, (∀ l ∈ L0, l ∈ L) → Vals xs its → Reps X.K M H xs (L0.map (eG g)) → EachIs R its L0 ∧ EachIs (fun v l => ∃ as, Reads s.heap v (PyData.tuple [.int (g l), .str (T l)]) as) its L0 := by
        intro L0
        induction L0 with
        | nil =>
          intro xs its _ rv rs
          cases rs
          cases rv
          exact ⟨.nil, .nil⟩
        | cons l L0 ih =>
          intro xs its hin rv rs
          cases rs with
          | cons r1 r2 =>
            cases rv with
            | cons v1 v2 =>
              obtain ⟨i1, i2⟩ := ih (fun l hl => hin l (List.mem_cons_of_mem _ hl)) v2 r2
              have hl := hin l List.mem_cons_self
              have ok : eqOk 1 (eG g l) = true := by simp only [eqOk, eqAll, ok_T (hc l hl), Bool.and_self]
              obtain ⟨as, ra⟩ := Dp.reads I _ _ _ (dp_D r1 ok).1 v1
              exact ⟨.cons ⟨⟨_, v1, r1⟩, hl⟩ i1, .cons ⟨as, ra⟩ i2⟩
      exact key (fun _ h => h) rv rs
    refine sorted_data (enc := fun l => PyData.tuple [.int (g l), .str (T l)]) hl.isList each.1 each.2 (AllAlike.of fun _ _ => by simp [alike, alikeAll]) (Sortable.tuples fun _ => ⟨_, _, rfl⟩) (by rw [sizeLine_eq]; omega) (fun l _ => ?_) fun out ho eo => ?_
    · have e : (PyData.tuple [.int (g l), .str (T l)]).depth = 1 := by simp [PyData.depth, PyData.depthAll]
      omega
    · have back : ∃ ys, Vals ys out ∧ Reps X.K M H ys ((L.mergeSort (leP g)).map (eG g)) := by
        have key : ∀ {Z : List (List Nat)} {out : List Value}, EachIs R out Z → ∃ ys, Vals ys out ∧ Reps X.K M H ys (Z.map (eG g)) := by
          intro Z out h
          induction h with
          | nil => exact ⟨[], .nil, .nil⟩
          | cons h _ ih =>
            obtain ⟨ys, h1, h2⟩ := ih
            obtain ⟨⟨y, h3, h4⟩, _⟩ := h
            exact ⟨y :: ys, .cons h3 h1, .cons h4 h2⟩
        exact key eo
      obtain ⟨ys, v1, r1⟩ := back
      have hlen : ys.length ≤ sizeLine := by rw [r1.length, List.length_map, List.length_mergeSort, sizeLine_eq]; omega
      obtain ⟨ep, he'⟩ := PyProof.Rows.sortedAll_at s.heap its (List.toArray out)
      have hp : H (s.heap.objs.size + 1) = none := I.hok.fresh (Nat.le_succ _)
      have sm := same_upd (o := .lst ys) hp
      exact ⟨.ref _, upd H (s.heap.objs.size + 1) (.lst ys), I.laid (t' := s.toks) (fun _ _ => PyProof.Rows.sortedAll_old) (Nat.le_succ _) ⟨hlen, out, ep, v1, he'⟩, rfl, q _ _ (Ex.of sm) (hw.same sm hJ) (.lst upd_same (hw.fresh hJ hp) (r1.same sm))⟩
end Nt

namespace Nt
open PySem PySem.Spec PyProof.Rows L2
section
variable {P : Program} {w : World} {A : Around} {E : Value → Shared → Prop} {s : Shared}
/-- set(xs), xs a tuple of texts -/
theorem call_setTu {l : Addr} {items : Array Value} {xs : List Str} {Q : Value → Shared → Prop} (hh : A.handled = none) (hl : s.heap.IsTuple l items) (hi : StrsAre items.toList xs) (few : xs.length + 1 < scanBound)
    (h : ∀ (h' : Heap) (tk : Nat), SetL P w h' s.heap.objs.size xs → (∀ b o, s.heap.get? b = some o → h'.get? b = some o) → Q (.ref s.heap.objs.size) { s with heap := h', toks := tk }) :
    wpAny (model P w) A (call (.type "set") [.ref l]) Q E s := by
  have len : xs.length = items.size := by rw [← StrsAre.len_eq hi, Array.length_toList]
  obtain ⟨cc, tl, k1⟩ := PySem.F.called_set.mro
  have k2 := PySem.F.called_set.made
  have k3 := PySem.F.called_set.sub
  refine wpAny_call (codeAny_of_tree ?_)
  show wpAny _ _ (callAny (.type "set") _) _ _ _
  refine wpAny_pure ⟨Code.quiet_builtin _ (by decide +kernel), codeAny_builtin PySem.F.entry_type_call ?_⟩
  rw [Around.under_plain (weight_type_call_type "set" [.ref l] []) rfl]
  have k4 := PySem.F.called_set.notType
  have k5 := PySem.F.called_set.canCreate
  have k6 := PySem.F.typeCall_set_1 (.ref l)
  repeat any_goals first | assumption | wp_step
  have new : (s.heap.push (bare0 w)).get? s.heap.objs.size = some (bare0 w) := Heap.get?_push_size _ rfl
  refine codeAny_mono (code_set_led1 (.ref l) (E := E) (Q₁ := fun obj s1 => obj = .ref s.heap.objs.size ∧ s1 = { s with heap := s.heap.push (bare0 w) }) ⟨rfl, rfl⟩) fun r s1 hr => ?_
  rcases r with er | fl
  · exact hr
  rcases fl with _ | _ | _ | obj
  · exact hr.elim
  · exact hr.elim
  · exact hr.elim
  obtain ⟨rfl, rfl⟩ := hr
  have tyS : Shared.TypeIs { s with heap := s.heap.push (bare0 w) } (.ref s.heap.objs.size) "set" := ⟨_, new, rfl⟩
  have k7 := PySem.F.called_set.init.lookup
  have k8 := PySem.F.called_set.init.bind (.ref s.heap.objs.size)
  repeat any_goals first | assumption | wp_step
  have keep : ∀ (b : Addr) (o : Obj), s.heap.get? b = some o → b ≠ s.heap.objs.size := fun b o e => Nat.ne_of_lt (Heap.lt_size e)
  let Z : Value → Shared → Prop := fun r s2 => r = .none ∧ ∃ h' tk, s2 = { s with heap := h', toks := tk } ∧ SetL P w h' s.heap.objs.size xs ∧ ∀ b o, s.heap.get? b = some o → h'.get? b = some o
  refine codeAny_mono (codeAny_call_builtin (R := wants Z E) PySem.F.called_set.init.plain PySem.F.entry_set_init (check_set_init_1 tyS ?_)) fun r s2 hr => ?_
  · obtain ⟨⟨oc, od, dt, osl⟩, ho, hc, nl, hd⟩ := hl
    simp only at hc hd
    subst hc hd
    have lS := Heap.lt_size ho
    have here : (s.heap.push (bare0 w)).get? l = some { cls := .type "tuple", dict := od, data := .seq items nl, slots := osl } := Heap.get?_push_of_some _ ho
    have il : (s.heap.push (bare0 w)).IsTuple l items := ⟨_, here, rfl, nl, rfl⟩
    have k9 := PySem.F.sub_tuple_set
    have k10 := PySem.F.sub_tuple_frozenset
    have k11 : (Value.type "tuple" == Value.type "dict") = false := by decide
    unfold Builtin.«set.__init__» noKeywords Builtin.Frozenset.updateFrom
    generalize hPI : pyIter = PI
    wp_walk
    subst hPI
    refine wpAny_pyIter_tuple il (wpAny_bind (wpAny_runValue ?_))
    have free3 : A.in1.in1.in1.handled = none := by simp [hh]
    have size1 : (s.heap.push (bare0 w)).objs.size = s.heap.objs.size + 1 := Heap.size_push ..
    have far : l ≠ (s.heap.push (bare0 w)).objs.size := by rw [size1]; exact Nat.ne_of_lt (Nat.lt_succ_of_lt lS)
    have off : s.heap.objs.size ∉ [(s.heap.push (bare0 w)).objs.size, l] := by
      rw [size1]
      intro z
      simp only [List.mem_cons, List.not_mem_nil, or_false] at z
      rcases z with z | z
      · exact absurd z (Nat.ne_of_lt (Nat.lt_succ_self _))
      · exact absurd z (Nat.ne_of_gt lS)
    have its : ∀ (i : Nat) (v : Value), items[i]? = some v → ∃ t, v = .str (xs.getD i Str.empty) t := fun i v hv => str_of hi i v (by rw [Array.getElem?_toList]; exact hv)
    refine setT_loop ((Walks.tuple free3 _ l far items).toS) off len (by rw [← len]; exact few) its items.size (i := 0) (by omega) ⟨⟨_, Heap.get?_push_size _ rfl, rfl, rfl⟩, il.push _⟩ ?_ ?_
    · rw [List.take_zero]
      exact setL_bare (Heap.get?_push_of_some _ new)
    · intro s3 mv r3
      obtain ⟨h3, g3, d3, t3, o3⟩ := s3
      have eg : g3 = s.gens := mv.gens
      have ed : d3 = s.drawn := mv.drawn
      have eo : o3 = s.os := mv.os
      subst eg ed eo
      show wpAny _ _ _ _ _ _
      refine wpAny_pure ?_
      show wpAny _ _ (ret Value.none) _ _ _
      refine wpAny_pure ⟨rfl, h3, t3, rfl, r3, fun b o e => ?_⟩
      have hb := Heap.lt_size e
      refine mv.heap b o (fun z => ?_) (Heap.get?_push_of_some _ (Heap.get?_push_of_some _ e))
      simp only [List.mem_cons, List.not_mem_nil, or_false] at z
      rcases z with z | z
      · exact keep b o e z
      · rw [size1] at z
        exact absurd z (Nat.ne_of_lt (Nat.lt_succ_of_lt hb))
  · rcases r with er | fl
    · exact hr
    rcases fl with _ | _ | _ | v
    · exact hr.elim
    · exact hr.elim
    · exact hr.elim
    obtain ⟨rfl, h3, t3, rfl, r3, kp⟩ := hr
    repeat any_goals first | assumption | wp_step
    exact h _ _ r3 kp
end
section
variable {X : Cx}
/-- set(a list or a tuple of texts) -/
def rSetU (K : PySem.W.Frag) (P : Program) (w : World) : List V → Hp → VK → Prop := fun vs H Q => ∃ (a : Addr) (xs : List Str), vs = [V.ref a] ∧ (SqL K H a (xs.map V.str) ∨ SqT K H a (xs.map V.str)) ∧ xs.length + 1 < scanBound ∧ ∀ p, H p = none → Q (.ref p) (upd H p (SetTO P w p xs))
theorem cr_setU (hc : X.calm = true) : CallR X (.type "set") (rSetU X.K X.prog X.w) := by
  intro pins s σ H vs us Q I r h
  obtain ⟨a, xs, rfl, hs | hs, few, q⟩ := h
  · exact cr_setT hc pins s σ H _ us Q I r ⟨a, xs, rfl, hs, few, q⟩
  · obtain ⟨its, rv, hl, _⟩ := I.tuple hs
    rw [Vals.ref1 r]
    refine call_setTu (I.ok.hd hc) (show s.heap.IsTuple a its.toArray from hl) (by simpa using rv.strs) few fun h' tk R kp => ?_
    exact ⟨.ref _, upd H s.heap.objs.size (SetTO X.prog X.w s.heap.objs.size xs), I.laid (t' := tk) kp (Nat.le_refl _) (setTO_ok R), rfl, q _ (I.hok.fresh (Nat.le_refl _))⟩
end
end Nt

namespace Nt
open PySem PySem.Spec PyProof.Rows L2
section
variable {K : PySem.W.Frag} {M : Addr → Prop} {I : Hp → Prop} {J : It} {G : Hp → Prop} {Y : Nat → Hp → V → Hp → Prop} {α : Type} {as : List α} {g : TG} {tt : TT} {te : TE} {vs : List Nat} {σ : L2.St} {H1 : Hp}
theorem lc_any2 {Q : VK} (w : L2.Walk J as.length G Y) (hw : Wf M I) (hI : I H1) (p : α → Bool) (P : α → D → Prop) (asg : Nat → α → L2.St) (hG : ∀ H', Ex M H1 H' → G H') (hlen : as.length ≤ sizeLine)
    (hb : ∀ k a, as[k]? = some a → ∀ H x H' (Qc : L2.St → Hp → Prop), Ex M H1 H → Y k H x H' → (∀ H2, L2.Same H H2 → Qc (asg k a) H2) → g x (wipe σ vs) H' Qc) (hwp : ∀ k a, wipe (asg k a) vs = wipe σ vs)
    (ht : ∀ L acc k a H, H1 L = none → ¬ M L → as[k]? = some a → Wf (Mq M L) (Iq I L (.lst acc)) → Iq I L (.lst acc) H → Ex (Mq M L) H1 H →
      ∀ Qt : Bool → Hp → Prop, (∀ H3, Iq I L (.lst acc) H3 → Ex (Mq M L) H H3 → Qt (p a) H3) → tt (asg k a) H Qt)
    (he : ∀ L acc k a H, H1 L = none → ¬ M L → as[k]? = some a → p a = true → Wf (Mq M L) (Iq I L (.lst acc)) → Iq I L (.lst acc) H → Ex (Mq M L) H1 H →
      ∀ Qe : VK, (∀ y d H4, P a d → Rep K (Mq M L) H4 y d → Iq I L (.lst acc) H4 → Ex (Mq M L) H H4 → Qe y H4) → te (asg k a) H Qe)
    (hd : ∀ L ds H', H1 L = none → A2 P (as.filter p) ds → Rep K M H' (.ref L) (.lst ds) → Ex M H1 H' → I H' → Q (.ref L) H') :
    ∀ L, H1 L = none → ∃ W : Nat → Nat → Hp → Prop, (∃ m, W 0 m (upd H1 L (.lst []))) ∧ ∀ i m H, W i m H →
      (J.stop i H ∧ Q (.ref L) H) ∨ (J.go i H ∧ ∃ Nx : Hp → Prop, (∀ H', Nx H' → ∃ m', m' < m ∧ W (i + 1) m' H') ∧ ∀ x H', J.yld i H x H' → g x (wipe σ vs) H' fun σ2 H2 => wipe σ2 vs = wipe σ vs ∧ tt σ2 H2 fun b H3 =>
        if b = true then te σ2 H3 fun y H4 => ∃ acc, H4 L = some (.lst acc) ∧ acc.length < sizeLine ∧ Nx (upd H4 L (.lst (acc ++ [y]))) else Nx H3) := by
  intro L hL
  have nM : ¬ M L := hw.fresh hI hL
  have exL : ∀ {H' : Hp}, Ex (Mq M L) H1 H' → Ex M H1 H' := fun e p o n h => e p o (fun m => m.elim n fun z => by rw [z, hL] at h; cases h) h
  refine lc_it w (fun k H => ∃ acc ds, Iq I L (.lst acc) H ∧ A2 P ((as.take k).filter p) ds ∧ Reps K (Mq M L) H acc ds ∧ Ex (Mq M L) H1 H) ?_ (fun k H _ h => ?_) ?_ ?_
  · refine ⟨[], [], ⟨hw.same (same_upd hL) hI, upd_same⟩, .nil, .nil, Ex.of (same_upd hL)⟩
  · obtain ⟨acc, ds, _, _, _, e⟩ := h
    exact hG H (exL e)
  · rintro k x H H' hk ⟨acc, ds, i1, a2, rs, e⟩ y
    have ha : as[k]? = some as[k] := by simp [hk]
    have wf' := hw.add L (.lst acc)
    have hlen2 : acc.length < sizeLine := by
      have l1 := rs.length
      have l2 := a2.length
      have l3 : ((as.take k).filter p).length ≤ (as.take k).length := List.length_filter_le _ _
      have l4 : (as.take k).length ≤ k := by simp; omega
      omega
    refine hb k _ ha H x H' _ (exL e) y fun H2 sm => ⟨hwp k _, ?_⟩
    have i2 := wf'.same sm i1
    have e2 : Ex (Mq M L) H1 H2 := e.trans (Ex.of sm)
    have rs2 := rs.same sm
    refine ht L acc k _ H2 hL nM ha wf' i2 e2 _ fun H3 i3 e3 => ?_
    cases hp : p as[k] with
    | false =>
      simp only [Bool.false_eq_true, if_false]
      refine ⟨acc, ds, i3, ?_, rs2.ex e3, e2.trans e3⟩
      rw [take_snoc ha, List.filter_append]
      simpa [hp] using a2
    | true =>
      simp only [if_true]
      refine he L acc k _ H3 hL nM ha hp wf' i3 (e2.trans e3) _ fun y d H4 py ry i4 e4 => ⟨acc, i4.2, hlen2, ?_⟩
      obtain ⟨i5, e5⟩ := hw.put (o' := .lst (acc ++ [y])) nM i4
      refine ⟨acc ++ [y], ds ++ [d], i5, ?_, ?_, ((e2.trans e3).trans e4).trans e5⟩
      · rw [take_snoc ha, List.filter_append]
        refine a2.append ?_
        simp [hp]
        exact .cons py .nil
      · exact (((rs2.ex e3).ex e4).append (.cons ry .nil)).ex e5
  · rintro H ⟨acc, ds, i1, a2, rs, e⟩
    refine hd L ds H hL ?_ (.lst i1.2 nM (rs.le fun p m => .inl m)) (exL e) i1.1
    simpa using a2
end
def prOf (H : Hp) (x : V) : V × V := match x with
  | .ref p => (match H p with
    | some (.tup [v, w]) => (v, w)
    | _ => (.non, .non))
  | _ => (.non, .non)
section
variable {K : PySem.W.Frag} {M : Addr → Prop} {I : Hp → Prop} {α : Type} {as : List α} {tt : TT} {te : TE} {vs : List Nat} {σ : L2.St} {H1 : Hp} {Q : VK} {enc enc2 : α → D}
/-- [e for x, y in a list of pairs if t] -/
theorem lc_srcP {i j : Nat} {x : V} {d : D} (hw : Wf M I) (hI : I H1) (hx : Rep K M H1 x d) (hd : d.elems = some (as.map fun a => .tup [enc a, enc2 a])) (hlen : as.length ≤ sizeLine) (hwp : ∀ v w, wipe (((wipe σ vs).set i (some v)).set j (some w)) vs = wipe σ vs) (p : α → Bool) (P : α → D → Prop)
    (ht : ∀ (L : Addr) (acc : List V) (k : Nat) (a : α) (v w : V) (H : Hp), H1 L = none → ¬ M L → as[k]? = some a → Rep K (Mq M L) H v (enc a) → Rep K (Mq M L) H w (enc2 a) → Wf (Mq M L) (Iq I L (.lst acc)) → Iq I L (.lst acc) H → Ex (Mq M L) H1 H →
      ∀ Qt : Bool → Hp → Prop, (∀ H3, Iq I L (.lst acc) H3 → Ex (Mq M L) H H3 → Qt (p a) H3) → tt (((wipe σ vs).set i (some v)).set j (some w)) H Qt)
    (he : ∀ (L : Addr) (acc : List V) (k : Nat) (a : α) (v w : V) (H : Hp), H1 L = none → ¬ M L → as[k]? = some a → p a = true → Rep K (Mq M L) H v (enc a) → Rep K (Mq M L) H w (enc2 a) → Wf (Mq M L) (Iq I L (.lst acc)) → Iq I L (.lst acc) H → Ex (Mq M L) H1 H →
      ∀ Qe : VK, (∀ y d H4, P a d → Rep K (Mq M L) H4 y d → Iq I L (.lst acc) H4 → Ex (Mq M L) H H4 → Qe y H4) → te (((wipe σ vs).set i (some v)).set j (some w)) H Qe)
    (hq : ∀ y ds H', A2 P (as.filter p) ds → Rep K M H' y (.lst ds) → Ex M H1 H' → I H' → Q y H') : srcR K (LcR (gTup K 2 (gCons (gName i) (gCons (gName j) gNil))) tt te vs σ Q) x H1 := by
  obtain ⟨S, xs, rfl, r, hS⟩ := src_of hx hd
  have hl : xs.length = as.length := by simpa using r.length
  have key : ∀ {J : It} {G : Hp → Prop} {Y : Nat → Hp → V → Hp → Prop}, L2.Walk J as.length G Y → (∀ H', Ex M H1 H' → G H') → (∀ k H x H', Y k H x H' → H' = H ∧ xs[k]? = some x) → LcR (gTup K 2 (gCons (gName i) (gCons (gName j) gNil))) tt te vs σ Q J H1 := fun {J G Y} w hG hY => by
    have pair : ∀ {k : Nat} {a : α}, as[k]? = some a → ∃ p v w, xs[k]? = some (.ref p) ∧ ¬ M p ∧ H1 p = some (.tup [v, w]) ∧ Rep K M H1 v (enc a) ∧ Rep K M H1 w (enc2 a) ∧ prOf H1 (xs.getD k .non) = (v, w) := fun {k a} ha => by
      obtain ⟨x, hx, rx⟩ := r.get (k := k) (d := .tup [enc a, enc2 a]) (by simp [ha])
      cases rx with
      | @tup p _ _ h n r =>
        cases r with
        | cons r1 r2 => cases r2 with
          | cons r2 r3 =>
            cases r3
            refine ⟨p, _, _, hx, n, h, r1, r2, ?_⟩
            rw [show xs.getD k .non = .ref p by simp [List.getD, hx]]
            simp only [prOf, h]
    refine lc_any2 (K := K) w hw hI p P (fun k _ => ((wipe σ vs).set i (some (prOf H1 (xs.getD k .non)).1)).set j (some (prOf H1 (xs.getD k .non)).2)) hG hlen (fun k a ha => ?_) (fun k a => hwp _ _) ?_ ?_ ?_
    · intro H x H' Qc eH y q
      obtain ⟨rfl, e2⟩ := hY k H x H' y
      obtain ⟨p, v, w, hx, n, h, _, _, ep⟩ := pair ha
      rw [hx] at e2
      cases e2
      rw [ep] at q
      exact ⟨p, [v, w], rfl, SqT.of (eH p _ n h), rfl, v, [w], rfl, w, [], rfl, rfl, q _ (L2.Same.refl _)⟩
    · intro L acc k a H hL nL ha wf hi ex Qt q
      obtain ⟨p, v, w, _, _, _, r1, r2, ep⟩ := pair ha
      rw [ep]
      exact ht L acc k a v w H hL nL ha ((r1.off hL).ex ex) ((r2.off hL).ex ex) wf hi ex Qt q
    · intro L acc k a H hL nL ha hp wf hi ex Qt q
      obtain ⟨p, v, w, _, _, _, r1, r2, ep⟩ := pair ha
      rw [ep]
      exact he L acc k a v w H hL nL ha hp ((r1.off hL).ex ex) ((r2.off hL).ex ex) wf hi ex Qt q
    · exact fun L ds H' hL a2 rp ex hi => hq _ ds H' a2 rp ex hi
  cases S with
  | lst a =>
    refine .inl ⟨a, rfl, ⟨xs, hS H1 (Ex.refl _)⟩, ?_⟩
    have w := walk_list (K := K) (a := a) (xs := xs)
    rw [hl] at w
    exact key w hS fun k H x H' y => y
  | tup a =>
    refine .inr (.inl ⟨a, rfl, ⟨xs, hS H1 (Ex.refl _)⟩, ?_⟩)
    have w := walk_tup (K := K) (a := a) (xs := xs)
    rw [hl] at w
    exact key w hS fun k H x H' y => y
  | txt z =>
    refine .inr (.inr ⟨z, rfl, ?_⟩)
    have hxs : xs = signs z := hS H1 (Ex.refl _)
    have w := walk_str (z := z)
    have hz : z.cps.size = as.length := by rw [← hl, hxs]; simp [signs]
    rw [hz] at w
    refine key w (fun _ _ => trivial) fun k H x H' y => ⟨y.1, ?_⟩
    obtain ⟨_, c, e1, e2⟩ := y
    rw [hxs, e2]
    simp [signs, e1]
end
end Nt

namespace Nt
open PySem PySem.Spec PyProof.Rows L2
section
variable {K : PySem.W.Frag} {M : Addr → Prop} {I : Hp → Prop} {J : It} {G : Hp → Prop} {Y : Nat → Hp → V → Hp → Prop} {α : Type} {as : List α} {g : TG} {tt : TT} {te : TE} {vs : List Nat} {σ : L2.St} {H1 : Hp}
/-- .. where the test may answer either way -/
theorem lc_any3 {Q : VK} (w : L2.Walk J as.length G Y) (hw : Wf M I) (hI : I H1) (P : α → D → Prop) (asg : Nat → α → L2.St) (hG : ∀ H', Ex M H1 H' → G H') (hlen : as.length ≤ sizeLine)
    (hb : ∀ k a, as[k]? = some a → Bd g (Y k) (wipe σ vs) (asg k a)) (hwp : ∀ k a, wipe (asg k a) vs = wipe σ vs)
    (ht : ∀ L acc k a H, H1 L = none → ¬ M L → as[k]? = some a → Wf (Mq M L) (Iq I L (.lst acc)) → Iq I L (.lst acc) H → Ex (Mq M L) H1 H →
      ∀ Qt : Bool → Hp → Prop, (∀ b H3, Iq I L (.lst acc) H3 → Ex (Mq M L) H H3 → Qt b H3) → tt (asg k a) H Qt)
    (he : ∀ L acc k a H, H1 L = none → ¬ M L → as[k]? = some a → Wf (Mq M L) (Iq I L (.lst acc)) → Iq I L (.lst acc) H → Ex (Mq M L) H1 H →
      ∀ Qe : VK, (∀ y d H4, P a d → Rep K (Mq M L) H4 y d → Iq I L (.lst acc) H4 → Ex (Mq M L) H H4 → Qe y H4) → te (asg k a) H Qe)
    (hd : ∀ L bs ds H', H1 L = none → bs.Sublist as → A2 P bs ds → Rep K M H' (.ref L) (.lst ds) → Ex M H1 H' → I H' → Q (.ref L) H') :
    ∀ L, H1 L = none → ∃ W : Nat → Nat → Hp → Prop, (∃ m, W 0 m (upd H1 L (.lst []))) ∧ ∀ i m H, W i m H →
      (J.stop i H ∧ Q (.ref L) H) ∨ (J.go i H ∧ ∃ Nx : Hp → Prop, (∀ H', Nx H' → ∃ m', m' < m ∧ W (i + 1) m' H') ∧ ∀ x H', J.yld i H x H' → g x (wipe σ vs) H' fun σ2 H2 => wipe σ2 vs = wipe σ vs ∧ tt σ2 H2 fun b H3 =>
        if b = true then te σ2 H3 fun y H4 => ∃ acc, H4 L = some (.lst acc) ∧ acc.length < sizeLine ∧ Nx (upd H4 L (.lst (acc ++ [y]))) else Nx H3) := by
  intro L hL
  have nM : ¬ M L := hw.fresh hI hL
  have exL : ∀ {H' : Hp}, Ex (Mq M L) H1 H' → Ex M H1 H' := fun e p o n h => e p o (fun m => m.elim n fun z => by rw [z, hL] at h; cases h) h
  refine lc_it w (fun k H => ∃ acc bs ds, Iq I L (.lst acc) H ∧ bs.Sublist (as.take k) ∧ A2 P bs ds ∧ Reps K (Mq M L) H acc ds ∧ Ex (Mq M L) H1 H) ?_ (fun k H _ h => ?_) ?_ ?_
  · exact ⟨[], [], [], ⟨hw.same (same_upd hL) hI, upd_same⟩, by simp, .nil, .nil, Ex.of (same_upd hL)⟩
  · obtain ⟨acc, bs, ds, _, _, _, _, e⟩ := h
    exact hG H (exL e)
  · rintro k x H H' hk ⟨acc, bs, ds, i1, sb, a2, rs, e⟩ y
    have ha : as[k]? = some as[k] := by simp [hk]
    have wf' := hw.add L (.lst acc)
    have hlen2 : acc.length < sizeLine := by
      have l1 := rs.length
      have l2 := a2.length
      have l3 := sb.length_le
      have l4 : (as.take k).length ≤ k := by simp; omega
      omega
    refine hb k _ ha H x H' _ y fun H2 sm => ⟨hwp k _, ?_⟩
    have i2 := wf'.same sm i1
    have e2 : Ex (Mq M L) H1 H2 := e.trans (Ex.of sm)
    have rs2 := rs.same sm
    refine ht L acc k _ H2 hL nM ha wf' i2 e2 _ fun b H3 i3 e3 => ?_
    cases b with
    | false =>
      simp only [Bool.false_eq_true, if_false]
      refine ⟨acc, bs, ds, i3, ?_, a2, rs2.ex e3, e2.trans e3⟩
      rw [take_snoc ha]
      exact sb.trans (List.sublist_append_left _ _)
    | true =>
      simp only [if_true]
      refine he L acc k _ H3 hL nM ha wf' i3 (e2.trans e3) _ fun y d H4 py ry i4 e4 => ⟨acc, i4.2, hlen2, ?_⟩
      obtain ⟨i5, e5⟩ := hw.put (o' := .lst (acc ++ [y])) nM i4
      refine ⟨acc ++ [y], bs ++ [as[k]], ds ++ [d], i5, ?_, a2.append (.cons py .nil), (((rs2.ex e3).ex e4).append (.cons ry .nil)).ex e5, ((e2.trans e3).trans e4).trans e5⟩
      rw [take_snoc ha]
      exact sb.append (List.Sublist.refl _)
  · rintro H ⟨acc, bs, ds, i1, sb, a2, rs, e⟩
    exact hd L bs ds H hL (by simpa using sb) a2 (.lst i1.2 nM (rs.le fun p m => .inl m)) (exL e) i1.1
end
section
variable {K : PySem.W.Frag} {M : Addr → Prop} {I : Hp → Prop} {tt : TT} {te : TE} {vs : List Nat} {σ : L2.St} {H1 : Hp} {Q : VK}
/-- [e for k in range(..) if ..]: the test may answer either way -/
theorem lc_rngS {i : Nat} {lo : Int} {n : Nat} (hw : Wf M I) (hI : I H1) (hlen : n ≤ sizeLine) (hwp : ∀ v, wipe ((wipe σ vs).set i (some v)) vs = wipe σ vs) (P : Nat → D → Prop)
    (ht : ∀ (L : Addr) (acc : List V) (k : Nat) (H : Hp), H1 L = none → ¬ M L → k < n → Wf (Mq M L) (Iq I L (.lst acc)) → Iq I L (.lst acc) H → Ex (Mq M L) H1 H →
      ∀ Qt : Bool → Hp → Prop, (∀ b H3, Iq I L (.lst acc) H3 → Ex (Mq M L) H H3 → Qt b H3) → tt ((wipe σ vs).set i (some (.int (lo + (k : Nat))))) H Qt)
    (he : ∀ (L : Addr) (acc : List V) (k : Nat) (H : Hp), H1 L = none → ¬ M L → k < n → Wf (Mq M L) (Iq I L (.lst acc)) → Iq I L (.lst acc) H → Ex (Mq M L) H1 H →
      ∀ Qe : VK, (∀ y d H4, P k d → Rep K (Mq M L) H4 y d → Iq I L (.lst acc) H4 → Ex (Mq M L) H H4 → Qe y H4) → te ((wipe σ vs).set i (some (.int (lo + (k : Nat))))) H Qe)
    (hq : ∀ L bs ds H', H1 L = none → bs.Sublist (List.range n) → A2 P bs ds → Rep K M H' (.ref L) (.lst ds) → Ex M H1 H' → I H' → Q (.ref L) H') : LcR (gName i) tt te vs σ Q (Itr lo n) H1 := by
  have w := walk_range (lo := lo) (n := n)
  rw [show Walk (Itr lo n) n = Walk (Itr lo n) (List.range n).length by simp] at w
  have at_ : ∀ {k a : Nat}, (List.range n)[k]? = some a → k < n ∧ a = k := fun {k a} h => by
    have hk := (List.getElem?_eq_some_iff.mp h).1
    rw [List.length_range] at hk
    rw [List.getElem?_range hk] at h
    cases h
    exact ⟨hk, rfl⟩
  refine lc_any3 (K := K) w hw hI P (fun k _ => (wipe σ vs).set i (some (.int (lo + (k : Nat))))) (fun _ _ => trivial) (by simpa using hlen) (fun k a ha => ?_) (fun k a => hwp _) ?_ ?_ ?_
  · exact bd_name fun H x H' y => y
  · intro L acc k a H hL nL ha wf hi ex Qt q
    obtain ⟨h1, rfl⟩ := at_ ha
    exact ht L acc a H hL nL h1 wf hi ex Qt q
  · intro L acc k a H hL nL ha wf hi ex Qt q
    obtain ⟨h1, rfl⟩ := at_ ha
    exact he L acc a H hL nL h1 wf hi ex Qt q
  · exact fun L bs ds H' hL sb a2 rp ex hi => hq L bs ds H' hL sb a2 rp ex hi
end
/-- list(range(n)) -/
theorem sx_lstRg {te : L2.St → Hp → (Int → Int → Hp → Prop) → Prop} {σ : L2.St} {H : Hp} {Q : VK} (h : te σ H fun a b H1 => RgOk a b ∧ ∀ q, H1 q = none → Q (.ref q) (upd H1 q (.lst (rgV a b)))) : tLstRg te σ H Q := h
theorem sx_rg1 {ta : TE} {σ : L2.St} {H : Hp} {Q : Int → Int → Hp → Prop} (h : ta σ H fun x H1 => ∃ n, x = .int n ∧ Q 0 n H1) : tRg1 ta σ H Q := h
end Nt

namespace Nt
open PySem PySem.Spec PyProof.Rows L2
/-! ### own special methods -/
section
variable {P : Program} {w : World} {M : Model} {A : Around} {E : Value → Shared → Prop} {s : Shared} {f : Addr} {self : Value} {name : Str} {args : List Value}
theorem cspecO {Q : Option Value → Shared → Prop} (sp : PySem.W.Looks M s.heap (specialOf self name) (some (.ref f))) (hb : PySem.W.Looks M s.heap (bindSpecial (.ref f) self) (.ref f, [self]))
    (hc : wpAny M A (call (.ref f) (self :: args)) (fun v => Q (some v)) E s) : wpAny M A (callSpecial? self name args) Q E s := by
  simp only [callSpecial?]
  refine wpAny_bind (sp.here ?_)
  refine wpAny_holding (wpAny_bind (hb.here ?_))
  exact wpAny_bind (wpAny_mono hc (fun v s' h' => wpAny_pure h') fun _ _ h' => h')
theorem cspecU {Q : Option Value → Shared → Prop} {refuse : Sem Value} (sp : PySem.W.Looks M s.heap (specialOf self name) (some (.ref f))) (hb : PySem.W.Looks M s.heap (bindSpecial (.ref f) self) (.ref f, [self]))
    (hc : wpAny M A (call (.ref f) (self :: args)) (fun v => Q (some v)) E s) : wpAny M A (callSpecialUnlessNone? self name args refuse) Q E s := by
  simp only [callSpecialUnlessNone?]
  refine wpAny_bind (sp.here ?_)
  refine wpAny_holding (wpAny_bind (hb.here ?_))
  show wpAny _ _ (if (Value.ref f == Value.none) = true then _ else _) _ _ _
  rw [if_neg (by simp)]
  exact wpAny_bind (wpAny_mono hc (fun v s' h' => wpAny_pure h') fun _ _ h' => h')
end
section
variable {X : Cx} {k : Nat} {C f : Addr} {fd : FuncData} {ps : List Str} {sp : Sp} {m : Str}
theorem special_at {pins : List (Addr × Obj)} {σ : L2.St} {H : Hp} {s : Shared} {a dx : Addr} {fs : List (Str × V)} {M : Model} (I : Inv X pins σ H s) (e : H a = some (.ins C dx fs)) (hm : Meth X.K C m f) :
    PySem.W.Looks M s.heap (specialOf (.ref a) m) (some (.ref f)) ∧ PySem.W.Looks M s.heap (bindSpecial (.ref f) (.ref a)) (.ref f, [.ref a]) := by
  obtain ⟨mA, O, r, _, _, _⟩ := ins_get I.hok e
  exact ⟨(NwA.type_at O.obj rfl).andThen (PySem.W.looks_findIn I.kIn hm.at_), PySem.W.bind_fn I.kIn (.ref a) (beq_iff_eq.mp hm.fn)⟩
/-- the own method runs, in any place -/
theorem run_own {A' : Around} {pins : List (Addr × Obj)} {σ : L2.St} {H : Hp} {s : Shared} {Q : Value → Shared → Prop} {Er : Value → Shared → Prop} {us : List Value} {vs : List V} (F : FnOk X.prog X.w X.K X.mg X.base (L2.CX X.prog X.w) k f fd ps sp) (hr : Room k A') (e0 : Env0 X.prog X.w X.K X.mg X.base A' X.stack s H) (hb : Binds X.K fd ps [])
    (I : Inv X pins σ H s) (r : Vals vs us) {Z : VK} (h : sp vs H Z E0) (q : ∀ v u H' s', Inv X pins σ H' s' → RelV v u → Z v H' → Q u s') : wpAny (model X.prog X.w) A' (call (.ref f) us) Q Er s := by
  have hl : us.length = ps.length := by rw [← r.length]; exact F.len _ _ _ _ h
  have b := hb s us I.kIn (by rw [List.append_nil]; exact hl)
  rw [List.append_nil] at b
  refine wpAny_call (codeAny_mono (F.run A' X.stack s H ⟨us, []⟩ us vs Z E0 hr e0 b r h) fun r s' hq => ?_)
  cases r with
  | error e =>
    obtain ⟨_, _, _, _, _, _, _, _, _, _, _, _, z⟩ := hq
    exact z.elim
  | ok fl =>
    cases fl with
    | ret u =>
      obtain ⟨v, H', I3, rv, q3⟩ := I.after hq
      exact q v u H' s' I3 rv q3
    | next => exact False.elim hq
    | brk => exact False.elim hq
    | cont => exact False.elim hq
/-- len(an object with an own __len__) -/
def rLenO (C : Addr) (sp : Sp) : List V → Hp → VK → Prop := fun xs H Q => ∃ (a dx : Addr) (fs : List (Str × V)), xs = [.ref a] ∧ H a = some (.ins C dx fs) ∧ sp [.ref a] H (fun v H' => ∃ n : Nat, v = .int (n : Nat) ∧ n < 2 ^ 62 ∧ Q (.int (n : Nat)) H') E0
theorem call_lenO (hm : Meth X.K C "__len__" f) (F : FnOk X.prog X.w X.K X.mg X.base (L2.CX X.prog X.w) k f fd ps sp) (hr : Room (k + 1) X.A) (hb : Binds X.K fd ps []) : CallR X (.builtin "len") (rLenO C sp) := by
  intro pins s σ H xs us Q I r h
  obtain ⟨a, dx, fs, rfl, e, h⟩ := h
  obtain ⟨u, rfl, ru⟩ := vals1 r
  obtain rfl : u = Value.ref a := ru
  obtain ⟨L1, L2⟩ := special_at (M := model X.prog X.w) I e hm
  refine Calls.call_function_entry kind_len plain_len entry_len (args_len1 _) ?_
  unfold Builtin.«len»
  refine wpAny_bind (m := oneArg "len" _) (wpAny_pure ?_)
  refine wpAny_bind (m := callSpecial? (.ref a) (PySem.Str.ofString "__len__")) (cspecO L1 L2 (run_own F hr.in1 I.env0.in1 hb I (.cons (show RelV (.ref a) (.ref a) from rfl) .nil) h fun v u H' s' I' rv q => ?_))
  obtain ⟨n, rfl, hn, q⟩ := q
  obtain ⟨t, rfl⟩ := rv
  refine wpAny_bind (wpAny_holding (wpAny_pure ?_))
  refine wpAny_bind (wpAny_letGo ?_)
  show wpAny _ _ (if ((n : Nat) : Int) < 0 then _ else _) _ _ _
  rw [if_neg (by omega)]
  show wpAny _ _ (if ((n : Nat) : Int) ≥ 2 ^ 63 then _ else _) _ _ _
  rw [if_neg (by omega)]
  exact wpAny_bind (wpAny_mkInt (wpAny_pure ⟨_, rfl, .int (n : Nat), H', I'.tok _, ⟨_, rfl⟩, q⟩))
/-- x in an object with an own __contains__ -/
def rInO (C : Addr) (sp : Sp) (neg : Bool) : V → V → Hp → VK → Prop := fun x y H Q => ∃ (a dx : Addr) (fs : List (Str × V)), y = .ref a ∧ H a = some (.ins C dx fs) ∧ sp [.ref a, x] H (fun v H' => ∃ b, v = .bl b ∧ Q (.bl (b != neg)) H') E0
theorem contains_own {pins : List (Addr × Obj)} {σ : L2.St} {H : Hp} {s : Shared} {a dx : Addr} {fs : List (Str × V)} {x : V} {u : Value} {Z : VK} {Er : Value → Shared → Prop} {Q : Bool → Shared → Prop} (hm : Meth X.K C "__contains__" f) (F : FnOk X.prog X.w X.K X.mg X.base (L2.CX X.prog X.w) k f fd ps sp) (hr : Room k X.A) (hb : Binds X.K fd ps [])
    (I : Inv X pins σ H s) (e : H a = some (.ins C dx fs)) (rx : RelV x u) (h : sp [.ref a, x] H Z E0) (q : ∀ v H' s', Inv X pins σ H' s' → Z v H' → ∃ b, v = .bl b ∧ Q b s') : wpAny (model X.prog X.w) X.A (contains (.ref a) u) Q Er s := by
  obtain ⟨L1, L2⟩ := special_at (M := model X.prog X.w) I e hm
  unfold contains
  refine wpAny_holding ?_
  rw [stdlibNamesSay?_ref]
  refine wpAny_bind (L1.here ?_)
  show wpAny _ _ (if (some (Value.ref f) == some Value.none) = true then _ else _) _ _ _
  rw [if_neg (by simp)]
  refine wpAny_bind (cspecU L1 L2 (run_own F hr I.env0 hb I (.cons (show RelV (.ref a) (.ref a) from rfl) (.cons rx .nil)) h fun v u' H' s' I' rv z => ?_))
  obtain ⟨b, rfl, q⟩ := q v H' s' I' z
  obtain rfl : u' = Value.bool b := rv
  exact wpAny_truthy_bool q
theorem op_inO (hm : Meth X.K C "__contains__" f) (F : FnOk X.prog X.w X.K X.mg X.base (L2.CX X.prog X.w) k f fd ps sp) (hr : Room k X.A) (hb : Binds X.K fd ps []) : OpR X (compareOp .In) (rInO C sp false) := by
  intro pins s σ H x y v u Q I rx ry h
  obtain ⟨a, dx, fs, rfl, e, h⟩ := h
  obtain rfl : u = Value.ref a := ry
  show wpAny _ _ (do return Value.bool (← contains (.ref a) v)) _ _ _
  refine wpAny_bind (contains_own hm F hr hb I e rx h fun v' H' s' I' z => ?_)
  obtain ⟨b, rfl, q⟩ := z
  refine ⟨b, rfl, wpAny_pure ⟨.bl (b != false), H', I', ?_, q⟩⟩
  cases b <;> exact (rfl : Value.bool _ = _)
theorem op_niO (hm : Meth X.K C "__contains__" f) (F : FnOk X.prog X.w X.K X.mg X.base (L2.CX X.prog X.w) k f fd ps sp) (hr : Room k X.A) (hb : Binds X.K fd ps []) : OpR X (compareOp .NotIn) (rInO C sp true) := by
  intro pins s σ H x y v u Q I rx ry h
  obtain ⟨a, dx, fs, rfl, e, h⟩ := h
  obtain rfl : u = Value.ref a := ry
  show wpAny _ _ (do return Value.bool (!(← contains (.ref a) v))) _ _ _
  refine wpAny_bind (contains_own hm F hr hb I e rx h fun v' H' s' I' z => ?_)
  obtain ⟨b, rfl, q⟩ := z
  refine ⟨b, rfl, wpAny_pure ⟨.bl (b != true), H', I', ?_, q⟩⟩
  cases b <;> exact (rfl : Value.bool _ = _)
end
end Nt

namespace Nt
open PySem PySem.Spec PyProof.Rows L2
/-- the j-th statement of a class body -/
def mem (s : Stmt) (j : Nat) : Stmt := match s with
  | .ClassDef _ _ _ body .. => body.getD j (.Pass ⟨0, 0, 0, 0⟩)
  | _ => .Pass ⟨0, 0, 0, 0⟩
/-! ### methods, classes, aliases -/
structure AtM (K : PySem.W.Frag) (c m q : Str) (st : Stmt) (ps : List Str) (dvs : List V) : Prop where
  meth : Meth K (He.ga K c) m (He.ma K (He.ga K c) m)
  ex : ∃ fd dfl kws, FunD K m q (defArgs st) (defBody st) (defScope st) dfl kws (He.ma K (He.ga K c) m) fd ∧ ∃ ds, Vals dvs ds ∧ Binds K fd ps ds
structure DfM (P : Program) (w : World) (K : PySem.W.Frag) (mg : Str → Option Value) (base : Heap) (k : Nat) (c m : Str) (ps : List Str) (dvs : List V) (sp : Sp) : Prop where
  meth : Meth K (He.ga K c) m (He.ma K (He.ga K c) m)
  ok : ∃ fd, FnOk P w K mg base (L2.CX P w) k (He.ma K (He.ga K c) m) fd ps sp ∧ ∃ ds, Vals dvs ds ∧ Binds K fd ps ds
structure AtI (K : PySem.W.Frag) (mg : Str → Option Value) (c q : Str) (st : Stmt) (ps : List Str) (dvs : List V) : Prop where
  mgx : mg c = some (.ref (He.ga K c))
  mkr : Mk K (He.ga K c) (He.ma K (He.ga K c) "__init__")
  ex : ∃ fd dfl kws, FunD K "__init__" q (defArgs st) (defBody st) (defScope st) dfl kws (He.ma K (He.ga K c) "__init__") fd ∧ ∃ ds, Vals dvs ds ∧ Binds K fd ps ds
structure DfI (P : Program) (w : World) (K : PySem.W.Frag) (mg : Str → Option Value) (base : Heap) (k : Nat) (c : Str) (ps : List Str) (dvs : List V) (sp : Sp) : Prop where
  mgx : mg c = some (.ref (He.ga K c))
  mkr : Mk K (He.ga K c) (He.ma K (He.ga K c) "__init__")
  ok : ∃ fd, FnOk P w K mg base (L2.CX P w) k (He.ma K (He.ga K c) "__init__") fd ps sp ∧ ∃ ds, Vals dvs ds ∧ Binds K fd ps ds
/-- a name that stands for a def of another name -/
structure AtA (K : PySem.W.Frag) (mg : Str → Option Value) (x y : Str) (st : Stmt) (ps : List Str) (dfl : List V) : Prop where
  mgx : mg x = some (.ref (He.ga K x))
  ex : ∃ fd, FunD K y y (defArgs st) (defBody st) (defScope st) dfl [] (He.ga K x) fd ∧ ∀ j, j ≤ dfl.length → ∃ ds, Vals (dfl.drop j) ds ∧ Binds K fd ps ds
/-- a class whose instances have these fields -/
structure ClsF (K : PySem.W.Frag) (c : Str) (fields : List Str) : Prop where
  cls : Cls K (He.ga K c)
  na : ∀ f ∈ fields, NoAttr K (He.ga K c) f
section
variable {P : Program} {w : World} {K : PySem.W.Frag} {mg : Str → Option Value} {base : Heap} {k : Nat} {x y c m q : Str} {ps : List Str} {dfl dvs : List V} {sp : Sp} {st : Stmt} {N : List Str}
theorem AtM.df (F : AtM K c m q st ps dvs) (S : FnScope N ps (defScope st)) (len : ∀ vs H Q E, sp vs H Q E → vs.length = ps.length)
    (hbody : ∀ (f : Addr) (cdv : Value) (A : Around) (outer : List Env) (s : Shared) (H : Hp) (vs : List V) (Q : VK) (E : XK), Room k (A.deeper (envOfC q (defScope st) s.heap.objs.size f cdv)) → sp vs H Q E →
      ∃ t, PSs (cxOf (L2.CX P w) P w K mg base N q (defScope st) f cdv A outer s H E).nox (defBody st) t ∧ t { nx := fun _ H' => Q .non H', rt := Q } (start N vs) H) : DfM P w K mg base (k + 1) c m ps dvs sp := by
  obtain ⟨fd, dfl, kws, F1, F2⟩ := F.ex
  refine ⟨F.meth, fd, F1.ok S len fun cdv A outer s H vs Q E hr h => ?_, F2⟩
  obtain ⟨t, h1, h2⟩ := hbody _ cdv A outer s H vs Q E hr h
  exact ⟨t, h1.nox, h2⟩
theorem AtI.df (F : AtI K mg c q st ps dvs) (S : FnScope N ps (defScope st)) (len : ∀ vs H Q E, sp vs H Q E → vs.length = ps.length)
    (hbody : ∀ (f : Addr) (cdv : Value) (A : Around) (outer : List Env) (s : Shared) (H : Hp) (vs : List V) (Q : VK) (E : XK), Room k (A.deeper (envOfC q (defScope st) s.heap.objs.size f cdv)) → sp vs H Q E →
      ∃ t, PSs (cxOf (L2.CX P w) P w K mg base N q (defScope st) f cdv A outer s H E).nox (defBody st) t ∧ t { nx := fun _ H' => Q .non H', rt := Q } (start N vs) H) : DfI P w K mg base (k + 1) c ps dvs sp := by
  obtain ⟨fd, dfl, kws, F1, F2⟩ := F.ex
  refine ⟨F.mgx, F.mkr, fd, F1.ok S len fun cdv A outer s H vs Q E hr h => ?_, F2⟩
  obtain ⟨t, h1, h2⟩ := hbody _ cdv A outer s H vs Q E hr h
  exact ⟨t, h1.nox, h2⟩
theorem AtA.df (F : AtA K mg x y st ps dfl) (S : FnScope N ps (defScope st)) (len : ∀ vs H Q E, sp vs H Q E → vs.length = ps.length)
    (hbody : ∀ (f : Addr) (cdv : Value) (A : Around) (outer : List Env) (s : Shared) (H : Hp) (vs : List V) (Q : VK) (E : XK), Room k (A.deeper (envOfC y (defScope st) s.heap.objs.size f cdv)) → sp vs H Q E →
      ∃ t, PSs (cxOf (L2.CX P w) P w K mg base N y (defScope st) f cdv A outer s H E).nox (defBody st) t ∧ t { nx := fun _ H' => Q .non H', rt := Q } (start N vs) H) : Df P w K mg base (k + 1) x ps dfl sp := by
  obtain ⟨fd, F1, F2⟩ := F.ex
  refine ⟨F.mgx, ⟨fd, F1.ok S len fun cdv A outer s H vs Q E hr h => ?_, F2⟩, F1.kp⟩
  obtain ⟨t, h1, h2⟩ := hbody _ cdv A outer s H vs Q E hr h
  exact ⟨t, h1.nox, h2⟩
end
section
variable {X : Cx} {k : Nat} {x c m : Str} {ps : List Str} {dvs : List V} {sp : Sp} {o e : Expr} {es : List Expr} {ta : TE} {t : TA} {p pos apos : Pos}
/-- o.m(e, ..) -/
theorem pe_dm {fl : List Str} (G : DfM X.prog X.w X.K X.mg X.base k c m ps dvs sp) (C : ClsF X.K c fl) (hr : Room k X.A) (he : PE X o ta) (ha : PA X (e :: es) t) {pl : Sem Bool}
    (hst : starEach (e :: es) X.env = (false, eval e X.env) :: starEach es X.env := by rfl) (hpl : (backTo pos (starEach es X.env)).any (·.1) = false := by rfl)
    (ht : eval (.Call (.Attribute o m apos) (e :: es) [] pos) X.env = (do
      let ov ← eval o X.env
      standAt apos.atName
      let (f, first) ← holding [ov] (getMethod ov m pl)
      callWith pos f first (backTo pos (starEach (e :: es) X.env)) (backToKw pos (keywordEach [] X.env))) := by rfl) :
    PE X (.Call (.Attribute o m apos) (e :: es) [] pos) (tMeth (He.ga X.K c) m sp dvs E0 ta t) := by
  obtain ⟨fd, F, ds, hd, b⟩ := G.ok
  exact pe_meth he C.cls G.meth F hr b hd passL ha hst hpl ht
theorem pe_dm0 {fl : List Str} (G : DfM X.prog X.w X.K X.mg X.base k c m ps dvs sp) (C : ClsF X.K c fl) (hr : Room k X.A) (he : PE X o ta) {pl : Sem Bool}
    (ht : eval (.Call (.Attribute o m apos) [] [] pos) X.env = (do
      let ov ← eval o X.env
      standAt apos.atName
      let (f, first) ← holding [ov] (getMethod ov m pl)
      callWith pos f first (backTo pos (starEach [] X.env)) (backToKw pos (keywordEach [] X.env))) := by rfl) :
    PE X (.Call (.Attribute o m apos) [] [] pos) (tMeth (He.ga X.K c) m sp dvs E0 ta tNil) := by
  obtain ⟨fd, F, ds, hd, b⟩ := G.ok
  exact pe_meth0 he C.cls G.meth F hr b hd passL ht
/-- C(e, ..) -/
theorem pe_di (G : DfI X.prog X.w X.K X.mg X.base k c ps dvs sp) (hr : Room (k + 1) X.A) (hg : Gl X c) (ha : PA X (e :: es) t) (hdb : (c == ("__debug__" : Str)) = false := by decide) (he : starEach (e :: es) X.env = (false, eval e X.env) :: starEach es X.env := by rfl) (hpl : (backTo pos (starEach es X.env)).any (·.1) = false := by rfl) :
    PE X (.Call (.Name c p) (e :: es) [] pos) (tMake (He.ga X.K c) sp dvs E0 t) := by
  obtain ⟨fd, F, ds, hd, b⟩ := G.ok
  exact pe_make G.mkr F hr hg G.mgx b hd passL ha hdb he hpl
theorem call_lenD (G : DfM X.prog X.w X.K X.mg X.base k c "__len__" ps [] sp) (hr : Room (k + 1) X.A) : CallR X (.builtin "len") (rLenO (He.ga X.K c) sp) := by
  obtain ⟨fd, F, ds, hd, b⟩ := G.ok
  cases hd
  exact call_lenO G.meth F hr b
theorem op_inD2 (G : DfM X.prog X.w X.K X.mg X.base k c "__contains__" ps [] sp) (hr : Room k X.A) : OpR X (compareOp .In) (rInO (He.ga X.K c) sp false) := by
  obtain ⟨fd, F, ds, hd, b⟩ := G.ok
  cases hd
  exact op_inO G.meth F hr b
theorem op_niD2 (G : DfM X.prog X.w X.K X.mg X.base k c "__contains__" ps [] sp) (hr : Room k X.A) : OpR X (compareOp .NotIn) (rInO (He.ga X.K c) sp true) := by
  obtain ⟨fd, F, ds, hd, b⟩ := G.ok
  cases hd
  exact op_niO G.meth F hr b
end
/-! ### objects, as data -/
section
variable {K : PySem.W.Frag} {M : Addr → Prop} {I : Hp → Prop} {H H' : Hp} {v : V} {c f : Str} {ds : List (Str × D)} {fl : List Str} {Q : VK}
/-- an object whose fields stay -/
def Ob (K : PySem.W.Frag) (M : Addr → Prop) (H : Hp) (v : V) (c : Str) (ds : List (Str × D)) : Prop := ∃ (a dx : Addr) (fs : List (Str × V)), v = .ref a ∧ ¬ M a ∧ H a = some (.ins (He.ga K c) dx fs) ∧ (∀ f d, ds.lookup f = some d → ∃ u, fs.lookup f = some u ∧ Rep K M H u d) ∧ ∀ f, ds.lookup f = none → fs.lookup f = none
theorem Ob.ex (e : Ex M H H') (h : Ob K M H v c ds) : Ob K M H' v c ds := by
  obtain ⟨a, dx, fs, e1, n, e2, h1, h2⟩ := h
  exact ⟨a, dx, fs, e1, n, e a _ n e2, fun f d hf => by obtain ⟨u, l, r⟩ := h1 f d hf; exact ⟨u, l, r.ex e⟩, h2⟩
theorem Ob.off {q : Addr} (e : H q = none) (h : Ob K M H v c ds) : Ob K (Mq M q) H v c ds := by
  obtain ⟨a, dx, fs, e1, n, e2, h1, h2⟩ := h
  have nq : ¬ Mq M q a := fun m => m.elim n fun z => by rw [z, e] at e2; cases e2
  exact ⟨a, dx, fs, e1, nq, e2, fun f d hf => by obtain ⟨u, l, r⟩ := h1 f d hf; exact ⟨u, l, r.off e⟩, h2⟩
/-- o.f -/
theorem Ob.fld {d : D} {Z : V → Prop} (h : Ob K M H v c ds) (C : ClsF K c fl) (hf : f ∈ fl) (hd : ds.lookup f = some d) (q : ∀ u, Rep K M H u d → Z u) : ∃ a C dx fs u, v = V.ref a ∧ H a = some (.ins C dx fs) ∧ Cls K C ∧ NoAttr K C f ∧ fs.lookup f = some u ∧ Z u := by
  obtain ⟨a, dx, fs, e1, n, e2, h1, h2⟩ := h
  obtain ⟨u, l, r⟩ := h1 f d hd
  exact ⟨a, _, dx, fs, u, e1, e2, C.cls, C.na f hf, l, q u r⟩
theorem Ob.meth (h : Ob K M H v c ds) (hm : ds.lookup f = none) {Z : Prop} (q : Z) : ∃ a dx fs, v = V.ref a ∧ H a = some (.ins (He.ga K c) dx fs) ∧ fs.lookup f = none ∧ Z := by
  obtain ⟨a, dx, fs, e1, n, e2, h1, h2⟩ := h
  exact ⟨a, dx, fs, e1, e2, h2 f hm, q⟩
theorem sx_fld {ta : TE} {σ : L2.St} (h : ta σ H fun x H1 => ∃ a C dx fs v, x = .ref a ∧ H1 a = some (.ins C dx fs) ∧ Cls K C ∧ NoAttr K C f ∧ fs.lookup f = some v ∧ Q v H1) : tFld K ta f σ H Q := h
theorem sx_meth {C : Addr} {m : Str} {sp : Sp} {dvs : List V} {E : XK} {ta : TE} {t : TA} {σ : L2.St} (h : ta σ H fun x H1 => ∃ a dx fs, x = .ref a ∧ H1 a = some (.ins C dx fs) ∧ fs.lookup m = none ∧ t σ H1 fun vs H2 => sp (x :: (vs ++ dvs)) H2 Q E) : tMeth C m sp dvs E ta t σ H Q := h
theorem sx_make {C : Addr} {sp : Sp} {dvs : List V} {E : XK} {t : TA} {σ : L2.St} (h : t σ H fun vs H1 => ∀ x dx, H1 x = none → H1 dx = none → dx ≠ x → sp (.ref x :: (vs ++ dvs)) (upd (upd H1 dx (.own x)) x (.ins C dx [])) (fun v H2 => v = .non ∧ Q (.ref x) H2) E) : tMake C sp dvs E t σ H Q := h
theorem sx_sfld {ta tv : TE} {σ : L2.St} {D : Ends} (h : tv σ H fun y H1 => ta σ H1 fun x H2 => ∃ a C dx fs, x = .ref a ∧ H2 a = some (.ins C dx fs) ∧ Cls K C ∧ NoAttr K C f ∧ fs.length < 1000 ∧ D.nx σ (upd H2 a (.ins C dx (putF f y fs)))) : sFld K ta tv f D σ H := h
/-- self.f = y, self new -/
theorem set_fld {a dx : Addr} {fs : List (Str × V)} {y : V} {Z : Hp → Prop} (hw : Wf M I) (np : ¬ M a) (i : Iq I a (.ins (He.ga K c) dx fs) H) (C : ClsF K c fl) (hf : f ∈ fl) (hl : fs.length < 1000) (q : ∀ H', Ex (Mq M a) H H' → Iq I a (.ins (He.ga K c) dx (putF f y fs)) H' → Z H') :
    ∃ a' C dx fs, V.ref a = .ref a' ∧ H a' = some (.ins C dx fs) ∧ Cls K C ∧ NoAttr K C f ∧ fs.length < 1000 ∧ Z (upd H a' (.ins C dx (putF f y fs))) := by
  refine ⟨a, _, dx, fs, rfl, i.2, C.cls, C.na f hf, hl, ?_⟩
  obtain ⟨u1, u2⟩ := hw.put (o' := .ins (He.ga K c) dx (putF f y fs)) np i
  exact q _ u2 u1
/-- a new object comes to be -/
theorem made (hw : Wf M I) (hI : I H) {x dx : Addr} (C : Addr) (hx : H x = none) (hdx : H dx = none) (ne : dx ≠ x) : ¬ M x ∧ Ex M H (upd (upd H dx (.own x)) x (.ins C dx [])) ∧ Iq I x (.ins C dx []) (upd (upd H dx (.own x)) x (.ins C dx [])) := by
  have s1 := same_upd (o := .own x) hdx
  have hx1 : upd H dx (.own x) x = none := by rw [upd_ne (Ne.symm ne)]; exact hx
  have s2 := same_upd (o := .ins C dx []) hx1
  exact ⟨hw.fresh hI hx, (Ex.of s1).trans (Ex.of s2), hw.same s2 (hw.same s1 hI), upd_same⟩
end
end Nt

namespace Nt
open PySem PySem.Spec PyProof.Rows L2
/-- list(a text) -/
def rListStr : List V → Hp → VK → Prop := fun xs H Q => ∃ z : Str, xs = [.str z] ∧ z.cps.size ≤ 100000 ∧ ∀ l, H l = none → Q (.ref l) (upd H l (.lst (signs z)))
theorem call_listStr {X : Cx} (hc : X.calm = true) : CallR X (.type "list") rListStr := by
  intro pins s σ H xs us Q I r h
  obtain ⟨z, rfl, hz, q⟩ := h
  obtain ⟨u, rfl, t, rfl⟩ := vals1 r
  refine call_list_str (I.ok.hd hc) z t (hn := by rw [sizeLine_eq]; omega) fun h' tk acc' c' kp hS hacc => ?_
  refine ⟨.ref s.heap.objs.size, upd H s.heap.objs.size (.lst (signs z)), I.laid kp (Nat.le_refl _) (show ObjOk X.prog X.w _ _ _ (.lst (signs z)) from ⟨?_, acc'.toList, c', ?_, ?_⟩), rfl, q _ (I.hok.fresh (Nat.le_refl _))⟩
  · unfold signs; simp; rw [sizeLine_eq]; omega
  · have el : acc'.toList.length = acc'.size := by simp
    refine vals_of_at (by rw [el, hacc.1]; simp [signs]) fun j x w h1 h2 => ?_
    have h3 := hacc.2 j w (by rw [← Array.getElem?_toList]; exact h2)
    obtain ⟨c, u, e1, rfl⟩ := h3
    unfold signs at h1
    rw [List.getElem?_map, Array.getElem?_toList, e1] at h1
    cases h1
    exact ⟨u, rfl⟩
  · rw [Array.toArray_toList]; exact hS
/-- .. as data -/
theorem list_T {M : Addr → Prop} {K : PySem.W.Frag} {I : Hp → Prop} {H : Hp} {l : List Nat} {Q : VK} (hw : Wf M I) (hI : I H) (hl : l.length ≤ 100000) (q : ∀ v H', Ex M H H' → I H' → Rep K M H' v (.lst (l.map fun c => .str (T [c]))) → Q v H') : rListStr [.str (T l)] H Q := by
  refine ⟨T l, rfl, by show l.toArray.size ≤ _; simpa using hl, fun p hp => ?_⟩
  have sm := same_upd (o := .lst (signs (T l))) hp
  refine q _ _ (Ex.of sm) (hw.same sm hI) (.lst upd_same (hw.fresh hI hp) ?_)
  have e : signs (T l) = l.map fun c => V.str (T [c]) := by unfold signs; rw [T_cps]; rfl
  rw [e]
  exact Reps.scal (f := fun c => V.str (T [c])) (g := fun c => D.str (T [c])) (fun a => .str _) l
section
variable {K : PySem.W.Frag} {M : Addr → Prop} {I : Hp → Prop} {α : Type} {as : List α} {σ : L2.St} {H1 : Hp} {enc : α → D}
/-- for i, x in enumerate(s) -/
theorem for_enum {i j : Nat} {x : V} {d : D} {tb : TS} {E : Ends} (hx : Rep K M H1 x d) (hd : d.elems = some (as.map enc)) (Pv : Nat → L2.St → Hp → Prop) (h0 : Pv 0 σ H1) (hG : ∀ k σ H, Pv k σ H → Ex M H1 H)
    (hs : ∀ k a v σ H H', as[k]? = some a → Pv k σ H → L2.Same H H' → Rep K M H' v (enc a) → tb { E with nx := Pv (k + 1), ct := Pv (k + 1), bk := E.nx } ((σ.set i (some (.int (k : Nat)))).set j (some v)) H') (hq : ∀ σ H, Pv as.length σ H → E.nx σ H) : enumR K (ForR (gTup K 2 (gCons (gName i) (gCons (gName j) gNil))) tb E σ) [x] H1 := by
  obtain ⟨S1, xs, rfl, r, hS⟩ := src_of hx hd
  have hl := reps_len r
  refine ⟨S1, xs, rfl, hS _ (Ex.refl _), ?_⟩
  have w := walk_enumS (K := K) (S := S1) (xs := xs)
  rw [hl] at w
  refine for_it w Pv h0 (fun k σ H _ h => hS H (hG k σ H h)) (fun k x σ H H' hk h y => ?_) hq
  have ha : as[k]? = some as[k] := by simp [hk]
  obtain ⟨T, u, v, e1, e2, e3, e4, e5⟩ := y
  subst e1 e3
  cases e4
  obtain ⟨v2, hv, rv⟩ := reps_at r ha
  have e5 : xs[k]? = some v := e5
  rw [hv] at e5
  cases e5
  have sm := same_upd (o := .tup [.int (k : Nat), v]) e2
  exact ⟨T, [.int (k : Nat), v], rfl, SqT.of upd_same, rfl, _, [v], rfl, v, [], rfl, rfl, hs k _ v σ H _ ha h sm ((rv.ex (hG _ _ _ h)).same sm)⟩
end
end Nt

namespace Nt
open PySem PySem.Spec PyProof.Rows L2
/-! ### a dict comprehension -/
def DcR (g : TG) (tt : TT) (tk tv : TE) (vs : List Nat) (σ : L2.St) (Q : VK) : It → Hp → Prop := fun J H1 => ∀ D, H1 D = none → ∃ W : Nat → Nat → Hp → Prop, (∃ m, W 0 m (upd H1 D (.dK []))) ∧ ∀ i m H, W i m H →
  (J.stop i H ∧ Q (.ref D) H) ∨ (J.go i H ∧ ∃ Nx : Hp → Prop, (∀ H', Nx H' → ∃ m', m' < m ∧ W (i + 1) m' H') ∧ ∀ x H', J.yld i H x H' → g x (wipe σ vs) H' fun σ2 H2 => wipe σ2 vs = wipe σ vs ∧ tt σ2 H2 fun b H3 =>
    if b = true then tk σ2 H3 fun y H4 => tv σ2 H4 fun z H5 => ∃ kvs k, y = kV k ∧ H5 D = some (.dK kvs) ∧ kvs.length < sizeLine ∧ Nx (upd H5 D (.dK (putK kvs k z))) else Nx H3)
theorem sx_dc {wi : TI} {g : TG} {tt : TT} {tk tv : TE} {vs : List Nat} {σ : L2.St} {H : Hp} {Q : VK} (h : wi σ H (DcR g tt tk tv vs σ Q)) : tDc wi g tt tk tv vs σ H Q := h
section
variable {K : PySem.W.Frag} {M : Addr → Prop} {I : Hp → Prop} {H1 : Hp} {Q : VK} {σ : L2.St} {vs : List Nat} {i : Nat}
/-- {x: True for x in texts}, the texts distinct -/
theorem dc_true {x : V} {d : D} {F : List (List Nat)} (hw : Wf M I) (hI : I H1) (hx : Rep K M H1 x d) (hd : d.elems = some (F.map fun l => .str (T l))) (hn : F.Nodup) (hlen : F.length ≤ 100000) (hwp : ∀ v, wipe ((wipe σ vs).set i (some v)) vs = wipe σ vs) (hi : ∀ v, ((wipe σ vs).set i (some v))[i]? = some (some v))
    (hq : ∀ D H', H1 D = none → ¬ M D → H' D = some (.dK (F.map fun l => ((.inr (T l) : Key), V.bl true))) → Ex M H1 H' → I H' → Q (.ref D) H') : srcR K (DcR (gName i) tYes (tVar i) (tC (.bl true)) vs σ Q) x H1 := by
  obtain ⟨S, xs, rfl, r, hS⟩ := src_of hx hd
  have hxs : xs = F.map fun l => V.str (T l) := Reps.scal_inv (f := fun l => V.str (T l)) (g := fun l => D.str (T l)) (fun a v h => rep_str h) r
  have key : ∀ {J : It} {G : Hp → Prop} {Y : Nat → Hp → V → Hp → Prop}, L2.Walk J F.length G Y → (∀ H', Ex M H1 H' → G H') → (∀ k H x H', Y k H x H' → H' = H ∧ xs[k]? = some x) → DcR (gName i) tYes (tVar i) (tC (.bl true)) vs σ Q J H1 := fun {J G Y} w hG hY => by
    intro D hD
    have nM : ¬ M D := hw.fresh hI hD
    let St : Nat → Hp → Prop := fun k H => H D = some (.dK ((F.take k).map fun l => ((.inr (T l) : Key), V.bl true))) ∧ Ex (Mq M D) H1 H ∧ I H
    have hG2 : ∀ {k : Nat} {H : Hp}, St k H → G H := fun {k H} h => hG _ (h.2.1.shut hD)
    refine ⟨fun k m H => m = F.length - k ∧ k ≤ F.length ∧ St k H, ⟨F.length, by simp, Nat.zero_le _, upd_same, Ex.of (same_upd hD), hw.same (same_upd hD) hI⟩, ?_⟩
    rintro k m H ⟨rfl, hk, h⟩
    by_cases hlt : k < F.length
    · refine .inr ⟨w.goes k H hlt (hG2 h), St (k + 1), fun H' h' => ⟨F.length - (k + 1), by omega, rfl, hlt, h'⟩, fun y H' hy => ?_⟩
      obtain ⟨e, ey⟩ := hY k H y H' (w.yields k H y H' hlt (hG2 h) hy)
      subst e
      have ha : F[k]? = some F[k] := by simp [hlt]
      have ey2 : y = V.str (T F[k]) := by
        rw [hxs, List.getElem?_map, ha] at ey
        cases ey
        rfl
      subst ey2
      refine ⟨hwp _, sx_yes ?_⟩
      refine ifT ?_
      refine sx_var (hi _) ?_
      refine sx_c ?_
      have hni : T F[k] ∉ (F.take k).map T := fun hm => by
        obtain ⟨l, hl, e⟩ := List.mem_map.mp hm
        have e := T_inj e
        subst e
        have e2 : F = F.take k ++ F[k] :: F.drop (k + 1) := by rw [List.getElem_cons_drop, List.take_append_drop]
        rw [e2] at hn
        exact (List.nodup_append.mp hn).2.2 _ hl _ List.mem_cons_self rfl
      have hp : putK ((F.take k).map fun l => ((.inr (T l) : Key), V.bl true)) (.inr (T F[k])) (.bl true) = (F.take (k + 1)).map fun l => ((.inr (T l) : Key), V.bl true) := by
        have h2 : (((F.take k).map fun l => ((.inr (T l) : Key), V.bl true)).any fun kv => decide (kv.1 = (Sum.inr (T F[k]) : Key))) = false := by
          rw [List.any_eq_false]
          intro kv hkv
          obtain ⟨a, ha, rfl⟩ := List.mem_map.mp hkv
          simp only [decide_eq_true_eq, Sum.inr.injEq]
          intro e
          exact hni (List.mem_map.mpr ⟨a, ha, e⟩)
        unfold putK
        rw [if_neg (by rw [h2]; exact Bool.false_ne_true), take_snoc ha, List.map_append]
        rfl
      refine ⟨_, .inr (T F[k]), rfl, h.1, Nat.lt_of_lt_of_le (show _ < 100001 by rw [List.length_map, List.length_take]; omega) (by decide), ?_⟩
      rw [hp]
      refine ⟨upd_same, h.2.1.trans (fun a o n z => by rw [upd_ne fun e => n (.inr e)]; exact z), ?_⟩
      exact (hw.put (o := .dK ((F.take k).map fun l => ((.inr (T l) : Key), V.bl true))) nM ⟨h.2.2, h.1⟩).1.1
    · have e : k = F.length := by omega
      subst e
      refine .inl ⟨w.stops H (hG2 h), ?_⟩
      obtain ⟨h1, h2, h3⟩ := h
      rw [List.take_length] at h1
      exact hq D H hD nM h1 (h2.shut hD) h3
  have hl : xs.length = F.length := by rw [hxs]; simp
  cases S with
  | lst a =>
    refine .inl ⟨a, rfl, ⟨xs, hS H1 (Ex.refl _)⟩, ?_⟩
    have w := walk_list (K := K) (a := a) (xs := xs)
    rw [hl] at w
    exact key w hS fun k H x H' y => y
  | tup a =>
    refine .inr (.inl ⟨a, rfl, ⟨xs, hS H1 (Ex.refl _)⟩, ?_⟩)
    have w := walk_tup (K := K) (a := a) (xs := xs)
    rw [hl] at w
    exact key w hS fun k H x H' y => y
  | txt z =>
    refine .inr (.inr ⟨z, rfl, ?_⟩)
    have hxs2 : xs = signs z := hS H1 (Ex.refl _)
    have w := walk_str (z := z)
    have hz : z.cps.size = F.length := by rw [← hl, hxs2]; simp [signs]
    rw [hz] at w
    refine key w (fun _ _ => trivial) fun k H x H' y => ⟨y.1, ?_⟩
    obtain ⟨_, c, e1, e2⟩ := y
    rw [hxs2, e2]
    simp [signs, e1]
end
end Nt

namespace Nt
open PySem PySem.Spec PyProof.Rows L2
/-! ### quicker steps: the slots are kept as a written list -/
theorem gs_nameN {n : Nat} {σ σ' : L2.St} {H : Hp} {v : V} {G : L2.St → Hp → Prop} (e : σ.set n (some v) = σ') (h : G σ' H) : gName n v σ H G := by subst e; exact h
theorem st_eq {t : TS} {E : Ends} {σ σ' : L2.St} {H : Hp} (e : σ = σ') (h : t E σ' H) : t E σ H := by subst e; exact h
theorem tupK_id {Q : VK} {xs : List V} {H : Hp} (h : TupK Q xs H) : TupK Q xs H := h
theorem lstK_id {Q : VK} {xs : List V} {H : Hp} (h : LstK Q xs H) : LstK Q xs H := h
theorem two {M : Addr → Prop} {I : Hp → Prop} {H : Hp} {P : Hp → Prop} {G : Prop} (h1 : (∀ H', Ex M H H' → I H' → P H') → G) (h2 : ∀ H', Ex M H H' → I H' → P H') : G := h1 h2
end Nt

namespace Nt
open PySem PySem.Spec PyProof.Rows
/-! ### the head's facts, read off few objects -/
def propP (K : PySem.W.Frag) (C : Addr) (f : Str) : Addr := match PySem.W.findIn K (.ref C) f with
  | some (some (.ref p)) => p
  | _ => 0
def propG (K : PySem.W.Frag) (p : Addr) : Addr := match PySem.W.recIn K p "property" with
  | some (.ref g :: _) => g
  | _ => 0
/-- a def, its address by a rule -/
structure DefX where
  adr : PySem.W.Frag → Addr
  name : Str
  qual : Str
  params : Arguments
  body : List Stmt
  scope : Scope
  dfl : List He.Dv := []
  kwd : List (Str × He.Dv) := []
def DefX.val (d : DefX) : He.FnW := some (d.name, d.qual, d.params, .stmts d.body, d.scope, mainGlobals, [], builtinsNs)
def DefX.dvs (K : PySem.W.Frag) (d : DefX) : List L2.V := d.dfl.map (He.Dv.v K)
def DefX.kws (K : PySem.W.Frag) (d : DefX) : List (Str × L2.V) := d.kwd.map fun q => (q.1, q.2.v K)
def fnX (K : PySem.W.Frag) (a : Addr) : He.FnW := match K.lookup a with
  | some ⟨_, _, .func fd, _⟩ => some (fd.name, fd.qualname, fd.params, fd.body, fd.scope, fd.globals, fd.closure, fd.builtins)
  | _ => none
def DefX.ok (K : PySem.W.Frag) (d : DefX) : Bool := PySem.W.keepIn K (.ref (d.adr K)) && (match K.lookup (d.adr K) with
  | some ⟨_, _, .func fd, _⟩ => PySem.W.codeIn K fd.code d.qual && (He.dflB K fd.defaults (d.dvs K) && He.kwdB K fd.kwdefaults (d.kws K))
  | _ => false)
theorem DefX.funD {K : PySem.W.Frag} {d : DefX} (e : fnX K (d.adr K) = d.val) (c : d.ok K = true) : ∃ fd, L2.FunD K d.name d.qual d.params d.body d.scope (d.dvs K) (d.kws K) (d.adr K) fd := by
  obtain ⟨kp, c2⟩ := He.ba c
  unfold fnX at e
  cases q : K.lookup (d.adr K) with
  | none =>
    rw [q] at c2
    cases c2
  | some o =>
    obtain ⟨oc, od, dt, osl⟩ := o
    rw [q] at c2 e
    cases dt with
    | func fd =>
      obtain ⟨n1, n2, n3, n4, n5, n6, n7, n8, n9, n10, n11, n12, n13, n14, n15⟩ := fd
      have e2 : (some (n1, n2, n3, n4, n5, n6, n7, n15) : He.FnW) = some (d.name, d.qual, d.params, .stmts d.body, d.scope, mainGlobals, [], builtinsNs) := e
      simp only [Option.some.injEq, Prod.mk.injEq] at e2
      obtain ⟨h1, h2, h3, h4, h5, h6, h7, h8⟩ := e2
      subst h1 h2 h3 h4 h5 h6 h7 h8
      have c3 : (PySem.W.codeIn K n13 d.qual && (He.dflB K n8 (d.dvs K) && He.kwdB K n9 (d.kws K))) = true := c2
      obtain ⟨k1, k2⟩ := He.ba c3
      obtain ⟨k3, k4⟩ := He.ba k2
      exact ⟨_, ⟨oc, od, n8, n9, n10, n11, n12, n13, n14, osl, rfl, q, k1, He.dflB_ok k3, He.kwdB_ok k4⟩, kp⟩
    | _ => cases c2
/-- the built-in errors that own exceptions lean on -/
def baseL : List (String × List Value) := [("ValueError.__new__", [.type "ValueError", .type "Exception", .type "BaseException", .type "object"]), ("LookupError.__new__", [.type "LookupError", .type "Exception", .type "BaseException", .type "object"]), ("IndexError.__new__", [.type "IndexError", .type "LookupError", .type "Exception", .type "BaseException", .type "object"])]
def BaseF (n : String) (bmB : List Value) : Prop := ∃ B initId, ExcBaseFacts B n initId bmB ∧ StoreFacts B bmB "object.__setattr__" "object"
theorem base_of {p : String × List Value} (h : p ∈ baseL) : BaseF p.1 p.2 := by
  simp only [baseL, List.mem_cons, List.not_mem_nil, or_false] at h
  rcases h with rfl | rfl | rfl
  · exact ⟨_, _, F.excBase_ValueError, F.store_ValueError⟩
  · exact ⟨_, _, F.excBase_LookupError, F.store_LookupError⟩
  · exact ⟨_, _, F.excBase_IndexError, F.store_IndexError⟩
/-- an own exception class, whatever built-in it leans on -/
structure OexG (K : PySem.W.Frag) (C : Addr) : Prop where
  cls : ∃ newId bmB, BaseF newId bmB ∧ ∃ nm q N bs bm sn sub ab col dd k0 k1 k2 k3 k5, K.lookup C = some (excClassObj nm q C N bs bm true sn sub ab col dd k0 k1 k2 k3 k5 newId) ∧ PySem.W.excTail bmB bm = true
  sa : PySem.W.findIn K (.ref C) "__setattr__" = some (some (.builtin "object.__setattr__"))
  exC : PySem.W.subIn K (.ref C) (.type "BaseException") = some true
  tyC : PySem.W.typeIn K (.ref C) = some (.type "type")
  kC : PySem.W.keepIn K (.ref C) = true
/-- .. as its object stands -/
def oexB (K : PySem.W.Frag) (C : Addr) : Bool := match K.lookup C with
  | some ⟨.type "type", _, .cls cd, sl⟩ => (match cd.mro, sl.toList with
    | .ref C' :: bm, [_, _, _, _, some (.builtin n), _] => decide (C' = C) && (cd.hasDict && (!cd.hasDel && baseL.any fun p => decide (n = p.1) && PySem.W.excTail p.2 bm))
    | _, _ => false)
  | _ => false
theorem oexB_ok {K : PySem.W.Frag} {C : Addr} (q : oexB K C = true) : ∃ newId bmB, BaseF newId bmB ∧ ∃ nm q N bs bm sn sub ab col dd k0 k1 k2 k3 k5, K.lookup C = some (excClassObj nm q C N bs bm true sn sub ab col dd k0 k1 k2 k3 k5 newId) ∧ PySem.W.excTail bmB bm = true := by
  unfold oexB at q
  split at q
  · rename_i dd cd sl ho
    split at q
    · rename_i C' bm k0 k1 k2 k3 n k5 hm hs
      obtain ⟨q1, q⟩ := He.ba q
      obtain ⟨q3, q⟩ := He.ba q
      obtain ⟨q4, q5⟩ := He.ba q
      obtain ⟨p, hp, q6⟩ := List.any_eq_true.mp q5
      obtain ⟨q7, q8⟩ := He.ba q6
      have e1 := of_decide_eq_true q1
      have e2 := of_decide_eq_true q7
      obtain ⟨nm, bs, mro, ns, qn, hd, sn, sub, ab, col, del⟩ := cd
      dsimp only at hm q3 q4
      have e4 : del = false := by simpa using q4
      subst hm e1 e2 q3 e4
      have hsl : sl = #[k0, k1, k2, k3, some (.builtin p.1), k5] := by
        obtain ⟨l⟩ := sl
        simp only at hs
        rw [hs]
      subst hsl
      exact ⟨p.1, p.2, base_of hp, nm, qn, ns, bs, bm, sn, sub, ab, col, dd, k0, k1, k2, k3, k5, ho, q8⟩
    · cases q
  · cases q
inductive FaX where
  | he (f : He.Fa)
  | prop (c f : Str)
  | isc (c : Str)
  | oex (c : Str)
  | any (f : PySem.W.Frag → Bool)
def FaX.ok (K : PySem.W.Frag) : FaX → Bool
  | .any f => f K
  | .he f => f.ok K
  | .prop c f => He.eqO (PySem.W.findIn K (.ref (He.ga K c)) f) (some (some (.ref (propP K (He.ga K c) f)))) && (He.eqO (PySem.W.specialIn K (.ref (propP K (He.ga K c) f)) "__get__") (some (some (.builtin "property.__get__"))) &&
      (decide (PySem.W.takesIn K (.ref (propP K (He.ga K c) f)) = some true) && (match PySem.W.recIn K (propP K (He.ga K c) f) "property" with
        | some (.ref g :: _) => decide (g = propG K (propP K (He.ga K c) f))
        | _ => false)))
  | .isc c => He.eqO (PySem.W.findIn K (.ref (He.ga K c)) "__class__") (some (some (.builtin "object.__class__"))) && (He.eqO (PySem.W.specialIn K (.builtin "object.__class__") "__get__") (some (some (.builtin "getset_descriptor.__get__"))) &&
      (decide (PySem.W.takesIn K (.builtin "object.__class__") = some true) && decide (PySem.W.mroIn K (He.ga K c) (.type "object") = some true)))
  | .oex c => oexB K (He.ga K c) && (He.eqO (PySem.W.findIn K (.ref (He.ga K c)) "__setattr__") (some (some (.builtin "object.__setattr__"))) && (decide (PySem.W.subIn K (.ref (He.ga K c)) (.type "BaseException") = some true) &&
      (decide (PySem.W.typeIn K (.ref (He.ga K c)) = some (.type "type")) && (PySem.W.keepIn K (.ref (He.ga K c)) && (L2.xfB K (He.ga K c) && (decide (PySem.W.exmOne K (.ref (He.ga K c)) (.ref (He.ga K c)) = some true) &&
      (He.eqO (PySem.W.findIn K (.ref (He.ga K c)) "__init__") (some (some (.ref (He.ma K (He.ga K c) "__init__")))) && decide (PySem.W.typeIn K (.ref (He.ma K (He.ga K c) "__init__")) = some (.type "function")))))))))
theorem oex_ok {K : PySem.W.Frag} {c : Str} (h : (FaX.oex c).ok K = true) : OexG K (He.ga K c) ∧ L2.XfC K (He.ga K c) ∧ PySem.W.exmOne K (.ref (He.ga K c)) (.ref (He.ga K c)) = some true ∧
    PySem.W.findIn K (.ref (He.ga K c)) "__init__" = some (some (.ref (He.ma K (He.ga K c) "__init__"))) ∧ PySem.W.typeIn K (.ref (He.ma K (He.ga K c) "__init__")) = some (.type "function") := by
  obtain ⟨h1, h⟩ := He.ba h
  obtain ⟨h2, h⟩ := He.ba h
  obtain ⟨h3, h⟩ := He.ba h
  obtain ⟨h4, h⟩ := He.ba h
  obtain ⟨h5, h⟩ := He.ba h
  obtain ⟨h6, h⟩ := He.ba h
  obtain ⟨h7, h⟩ := He.ba h
  obtain ⟨h8, h9⟩ := He.ba h
  exact ⟨⟨oexB_ok h1, He.eqO_ok h2, of_decide_eq_true h3, of_decide_eq_true h4, h5⟩, L2.xfB_ok h6, of_decide_eq_true h7, He.eqO_ok h8, of_decide_eq_true h9⟩
/-- an own class, as a value -/
structure ClsG (K : PySem.W.Frag) (mg : Str → Option Value) (c : Str) : Prop where
  mgx : mg c = some (.ref (He.ga K c))
  ha : PySem.W.findIn K (.ref (He.ga K c)) "__class__" = some (some (.builtin "object.__class__"))
  hn : PySem.W.specialIn K (.builtin "object.__class__") "__get__" = some (some (.builtin "getset_descriptor.__get__"))
  htk : PySem.W.takesIn K (.builtin "object.__class__") = some true
  hm : PySem.W.mroIn K (He.ga K c) (.type "object") = some true
theorem isc_ok {K : PySem.W.Frag} {mg : Str → Option Value} {c : Str} (g : mg c = some (.ref (He.ga K c))) (h : (FaX.isc c).ok K = true) : ClsG K mg c := by
  obtain ⟨h1, h⟩ := He.ba h
  obtain ⟨h2, h⟩ := He.ba h
  obtain ⟨h3, h4⟩ := He.ba h
  exact ⟨g, He.eqO_ok h1, He.eqO_ok h2, of_decide_eq_true h3, of_decide_eq_true h4⟩
theorem prop_ok {K : PySem.W.Frag} {c f : Str} (h : (FaX.prop c f).ok K = true) : L2.PropOf K (He.ga K c) f (propP K (He.ga K c) f) (propG K (propP K (He.ga K c) f)) := by
  obtain ⟨h1, h⟩ := He.ba h
  obtain ⟨h2, h⟩ := He.ba h
  obtain ⟨h3, h4⟩ := He.ba h
  refine ⟨He.eqO_ok h1, He.eqO_ok h2, of_decide_eq_true h3, ?_⟩
  cases e : PySem.W.recIn K (propP K (He.ga K c) f) "property" with
  | none => rw [e] at h4; cases h4
  | some l =>
    rw [e] at h4
    cases l with
    | nil => cases h4
    | cons v l =>
      cases v with
      | ref g => exact ⟨l, by rw [of_decide_eq_true h4]⟩
      | _ => cases h4
/-- lists of addresses, told out -/
def forceL {α : Type} : List Nat → (List Nat → α) → α
  | [], k => k []
  | a :: as, k => Nat.casesOn (motive := fun _ => α) a (forceL as fun l => k (0 :: l)) fun m => forceL as fun l => k (Nat.succ m :: l)
theorem forceL_eq {α : Type} : ∀ (as : List Nat) (k : List Nat → α), forceL as k = k as
  | [], _ => rfl
  | 0 :: as, k => forceL_eq as _
  | (m + 1) :: as, k => forceL_eq as _
def refsA (g : Addr → Option Obj) (a : Addr) : List Addr := match g a with
  | some o => He.refsD o
  | none => []
/-- the functions' code and defaults -/
def refsF (g : Addr → Option Obj) (a : Addr) : List Addr := match g a with
  | some o => (match o.data with
    | .func fd => He.refV fd.code ++ (He.refV fd.defaults ++ He.refV fd.kwdefaults)
    | _ => [])
  | none => []
/-- the items of the tuples of defaults -/
def refsT (g : Addr → Option Obj) (a : Addr) : List Addr := match g a with
  | some ⟨_, _, .seq its _, _⟩ => its.toList.flatMap He.refV
  | _ => []
def refsC (g : Addr → Option Obj) (a : Addr) : List Addr := match g a with
  | some o => (match o.data with
    | .cls cd => cd.ns :: cd.mro.flatMap He.refV
    | _ => [])
  | none => []
abbrev CM : Type := Str × List Str × List Str
/-- what is read: the names' objects, the classes' parts, the methods, what functions lean on -/
def withA {α : Type} (g : Addr → Option Obj) (glo : List Str) (cls : List CM) (xcl : List Str) (k : List Addr → α) : α :=
  forceL (glo.map (He.ga (He.frG g [mainGlobals]))) fun A1 =>
  forceL ((cls.flatMap fun c => let a := He.ga (He.frG g [mainGlobals]) c.1; a :: refsC g a) ++ (xcl.flatMap fun c => (refsC g (He.ga (He.frG g [mainGlobals]) c)).flatMap (refsC g))) fun A2 =>
  forceL (cls.flatMap fun c => let K1 := He.frG g (mainGlobals :: A2); let a := He.ga K1 c.1; c.2.1.map (He.ma K1 a) ++ c.2.2.map (propP K1 a)) fun A3 =>
  forceL (A3.map (propG (He.frG g A3))) fun A4 =>
  forceL ((A1 ++ (A3 ++ A4)).flatMap (refsF g)) fun A5 =>
  forceL (A5.flatMap (refsT g)) fun A6 =>
  k (mainGlobals :: (A2 ++ (A3 ++ (A4 ++ (A1 ++ (A5 ++ A6))))))
theorem withA_eq {α : Type} (g : Addr → Option Obj) (glo : List Str) (cls : List CM) (xcl : List Str) : ∃ as, ∀ k : List Addr → α, withA g glo cls xcl k = k as := by
  unfold withA
  simp only [forceL_eq]
  exact ⟨_, fun k => rfl⟩
def obsX (fa : List FaX) (fn : List DefX) (K : PySem.W.Frag) : He.AlD := ((fa.all fun f => f.ok K) && fn.all fun d => d.ok K, fn.map fun d => fnX K (d.adr K))
def valX (fn : List DefX) : He.AlD := (true, fn.map DefX.val)
def SaysX (fa : List FaX) (fn : List DefX) (K : PySem.W.Frag) : Prop := obsX fa fn K = valX fn
def obsXG (glo : List Str) (cls : List CM) (xcl : List Str) (fa : List FaX) (fn : List DefX) (g : Addr → Option Obj) : He.AlD := withA g glo cls xcl fun as => obsX fa fn (He.frG g as)
def hookX (glo : List Str) (cls : List CM) (xcl : List Str) (fa : List FaX) (fn : List DefX) : PySem.W.Hook where
  α := He.AlD
  obs := fun s => obsXG glo cls xcl fa fn s.heap.get?
  val := fun _ => valX fn
  says := fun _ h => ∃ K : PySem.W.Frag, K.In h ∧ SaysX fa fn K
  of := fun _ s e => by
    obtain ⟨as, h⟩ := withA_eq (α := He.AlD) s.heap.get? glo cls xcl
    exact ⟨_, He.frG_in, (h _).symm.trans e⟩
  keeps := fun _ _ _ ⟨K, hK, c⟩ k => ⟨K, PySem.W.Frag.In.keeps hK k, c⟩
theorem obsXG_eq {glo : List Str} {cls : List CM} {xcl : List Str} {fa : List FaX} {fn : List DefX} {g : Addr → Option Obj} {s : Shared} (h : ∀ a, g a = s.heap.get? a) : obsXG glo cls xcl fa fn g = (hookX glo cls xcl fa fn).obs s := by
  have e : g = s.heap.get? := funext h
  rw [e] <;> rfl
section
variable {fa : List FaX} {fn : List DefX} {K : PySem.W.Frag}
theorem SaysX.factX (c : SaysX fa fn K) (i : Nat) {f : FaX} (h : fa[i]? = some f := by rfl) : f.ok K = true := by
  have c1 := (He.ba (show ((fa.all fun f => f.ok K) && fn.all fun d => d.ok K) = true from congrArg (fun z : He.AlD => z.1) c)).1
  exact List.all_eq_true.mp c1 f (List.mem_of_getElem? h)
theorem SaysX.fact (c : SaysX fa fn K) (i : Nat) {f : He.Fa} (h : fa[i]? = some (.he f) := by rfl) : f.ok K = true := c.factX i (f := .he f) h
theorem SaysX.def_ (c : SaysX fa fn K) (i : Nat) {d : DefX} (h : fn[i]? = some d := by rfl) : ∃ fd, L2.FunD K d.name d.qual d.params d.body d.scope (d.dvs K) (d.kws K) (d.adr K) fd := by
  have c2 := (He.ba (show ((fa.all fun f => f.ok K) && fn.all fun d => d.ok K) = true from congrArg (fun z : He.AlD => z.1) c)).2
  have e : fn.map (fun d => fnX K (d.adr K)) = fn.map DefX.val := congrArg (fun z : He.AlD => z.2) c
  have e2 : (fn.map fun d => fnX K (d.adr K))[i]? = (fn.map DefX.val)[i]? := by rw [e]
  rw [List.getElem?_map, List.getElem?_map, h] at e2
  exact DefX.funD (Option.some.inj e2) (List.all_eq_true.mp c2 d (List.mem_of_getElem? h))
end
end Nt

namespace Nt
open PySem PySem.Spec PyProof.Rows L2
/-! ### a def walked, wherever it stands -/
def Bok (P : Program) (w : World) (K : PySem.W.Frag) (mg : Str → Option Value) (base : Heap) (k : Nat) (q : Str) (st : Stmt) (ps : List Str) (sp : Sp) : Prop :=
  ∀ {m : Str} {dfl : List V} {kws : List (Str × V)} {f : Addr} {fd : FuncData}, FunD K m q (defArgs st) (defBody st) (defScope st) dfl kws f fd → FnOk P w K mg base (L2.CX P w) k f fd ps sp
/-- how a keyword call fills the parameters: a keyword's value by its place, or a default -/
def pickL {α : Type} (d : α) (idx : List (Nat ⊕ Nat)) (zs ms : List α) : List α := idx.map fun
  | .inl i => zs.getD i d
  | .inr j => ms.getD j d
def kwV (idx : List (Nat ⊕ Nat)) (ms : List V) (vs zs : List V) : List V := vs ++ pickL .non idx zs ms
structure AtK (K : PySem.W.Frag) (c m q : Str) (st : Stmt) (ps : List Str) (n : Nat) (ks : List Str) (gV : List V → List V → List V) : Prop where
  meth : Meth K (He.ga K c) m (He.ma K (He.ga K c) m)
  ex : ∃ fd dfl kws, FunD K m q (defArgs st) (defBody st) (defScope st) dfl kws (He.ma K (He.ga K c) m) fd ∧ ∃ g, KBn K fd ps n ks g gV
structure DfK (P : Program) (w : World) (K : PySem.W.Frag) (mg : Str → Option Value) (base : Heap) (k : Nat) (c m : Str) (ps : List Str) (n : Nat) (ks : List Str) (gV : List V → List V → List V) (sp : Sp) : Prop where
  meth : Meth K (He.ga K c) m (He.ma K (He.ga K c) m)
  ok : ∃ fd, FnOk P w K mg base (L2.CX P w) k (He.ma K (He.ga K c) m) fd ps sp ∧ ∃ g, KBn K fd ps n ks g gV
/-- a property -/
structure AtP (K : PySem.W.Frag) (c f q : Str) (st : Stmt) : Prop where
  prop : PropOf K (He.ga K c) f (propP K (He.ga K c) f) (propG K (propP K (He.ga K c) f))
  ex : ∃ fd dfl kws, FunD K f q (defArgs st) (defBody st) (defScope st) dfl kws (propG K (propP K (He.ga K c) f)) fd ∧ Binds K fd ["self"] []
structure DfP (P : Program) (w : World) (K : PySem.W.Frag) (mg : Str → Option Value) (base : Heap) (k : Nat) (c f : Str) (sp : Sp) : Prop where
  prop : PropOf K (He.ga K c) f (propP K (He.ga K c) f) (propG K (propP K (He.ga K c) f))
  ok : ∃ fd, FnOk P w K mg base (L2.CX P w) k (propG K (propP K (He.ga K c) f)) fd ["self"] sp ∧ Binds K fd ["self"] []
/-- a method with *rows -/
structure AtS (K : PySem.W.Frag) (c m q : Str) (st : Stmt) (ps : List Str) (pv : Str) : Prop where
  meth : Meth K (He.ga K c) m (He.ma K (He.ga K c) m)
  ex : ∃ fd dfl kws, FunD K m q (defArgs st) (defBody st) (defScope st) dfl kws (He.ma K (He.ga K c) m) fd ∧
    ∀ us rest : List Value, us.length = ps.length → bindArgs fd ⟨us ++ rest, []⟩ = (newTuple rest >>= fun t => pure (ps.zip us ++ [(pv, t)]))
def spS (n : Nat) (sp : Sp) : Sp := fun vs H Q E => ∃ ws rest, vs = ws ++ rest ∧ ws.length = n ∧ rest.length ≤ sizeLine ∧ ∀ p, H p = Option.none → sp (ws ++ [V.ref p]) (upd H p (.tup rest)) Q E
structure DfS (P : Program) (w : World) (K : PySem.W.Frag) (mg : Str → Option Value) (base : Heap) (k : Nat) (c m : Str) (sp : Sp) : Prop where
  meth : Meth K (He.ga K c) m (He.ma K (He.ga K c) m)
  ok : FnR P w K mg base (L2.CX P w) k (He.ma K (He.ga K c) m) sp
section
variable {P : Program} {w : World} {K : PySem.W.Frag} {mg : Str → Option Value} {base : Heap} {k n : Nat} {x y c m q pv : Str} {ps ks : List Str} {dfl dvs : List V} {sp : Sp} {st : Stmt} {N : List Str} {gV : List V → List V → List V}
theorem Bok.mk (S : FnScope N ps (defScope st)) (len : ∀ vs H Q E, sp vs H Q E → vs.length = ps.length)
    (hbody : ∀ (f : Addr) (cdv : Value) (A : Around) (outer : List Env) (s : Shared) (H : Hp) (vs : List V) (Q : VK) (E : XK), Room k (A.deeper (envOfC q (defScope st) s.heap.objs.size f cdv)) → sp vs H Q E →
      ∃ t, PSs (cxOf (L2.CX P w) P w K mg base N q (defScope st) f cdv A outer s H E).nox (defBody st) t ∧ t { nx := fun _ H' => Q .non H', rt := Q } (start N vs) H) : Bok P w K mg base (k + 1) q st ps sp := by
  intro m dfl kws f fd F
  refine F.ok S len fun cdv A outer s H vs Q E hr h => ?_
  obtain ⟨t, h1, h2⟩ := hbody _ cdv A outer s H vs Q E hr h
  exact ⟨t, h1.nox, h2⟩
/-- a def that may raise -/
theorem Bok.mkX (S : FnScope N ps (defScope st)) (len : ∀ vs H Q E, sp vs H Q E → vs.length = ps.length)
    (hbody : ∀ (f : Addr) (cdv : Value) (A : Around) (outer : List Env) (s : Shared) (H : Hp) (vs : List V) (Q : VK) (E : XK), Room k (A.deeper (envOfC q (defScope st) s.heap.objs.size f cdv)) → sp vs H Q E →
      ∃ t, PSs (cxOf (L2.CX P w) P w K mg base N q (defScope st) f cdv A outer s H E) (defBody st) t ∧ t { nx := fun _ H' => Q .non H', rt := Q } (start N vs) H) : Bok P w K mg base (k + 1) q st ps sp := by
  intro m dfl kws f fd F
  exact F.ok S len fun cdv A outer s H vs Q E hr h => hbody _ cdv A outer s H vs Q E hr h
theorem Bok.df (b : Bok P w K mg base k x st ps sp) (F : At K mg x st ps dfl) : Df P w K mg base k x ps dfl sp := by
  obtain ⟨fd, F1, F2⟩ := F.ex
  exact ⟨F.mgx, ⟨fd, b F1, F2⟩, F1.kp⟩
theorem Bok.da (b : Bok P w K mg base k y st ps sp) (F : AtA K mg x y st ps dfl) : Df P w K mg base k x ps dfl sp := by
  obtain ⟨fd, F1, F2⟩ := F.ex
  exact ⟨F.mgx, ⟨fd, b F1, F2⟩, F1.kp⟩
theorem Bok.dm (b : Bok P w K mg base k q st ps sp) (F : AtM K c m q st ps dvs) : DfM P w K mg base k c m ps dvs sp := by
  obtain ⟨fd, dfl, kws, F1, F2⟩ := F.ex
  exact ⟨F.meth, fd, b F1, F2⟩
theorem Bok.di (b : Bok P w K mg base k q st ps sp) (F : AtI K mg c q st ps dvs) : DfI P w K mg base k c ps dvs sp := by
  obtain ⟨fd, dfl, kws, F1, F2⟩ := F.ex
  exact ⟨F.mgx, F.mkr, fd, b F1, F2⟩
theorem Bok.dk (b : Bok P w K mg base k q st ps sp) (F : AtK K c m q st ps n ks gV) : DfK P w K mg base k c m ps n ks gV sp := by
  obtain ⟨fd, dfl, kws, F1, F2⟩ := F.ex
  exact ⟨F.meth, fd, b F1, F2⟩
theorem Bok.dp (b : Bok P w K mg base k q st ["self"] sp) (F : AtP K c m q st) : DfP P w K mg base k c m sp := by
  obtain ⟨fd, dfl, kws, F1, F2⟩ := F.ex
  exact ⟨F.prop, fd, b F1, F2⟩
/-- a method with *rows, walked -/
theorem AtS.ds (F : AtS K c m q st ps pv) (S : FnScope N (ps ++ [pv]) (defScope st))
    (hbody : ∀ (f : Addr) (cdv : Value) (A : Around) (outer : List Env) (s : Shared) (H : Hp) (vs : List V) (Q : VK) (E : XK), Room k (A.deeper (envOfC q (defScope st) s.heap.objs.size f cdv)) → sp vs H Q E →
      ∃ t, PSs (cxOf (L2.CX P w) P w K mg base N q (defScope st) f cdv A outer s H E).nox (defBody st) t ∧ t { nx := fun _ H' => Q .non H', rt := Q } (start N vs) H) : DfS P w K mg base (k + 1) c m (spS ps.length sp) := by
  obtain ⟨fd, dfl, kws, F1, F2⟩ := F.ex
  obtain ⟨oc, od, dV, kV, doc, pm, an, cdv, ct, osl, rfl, lk, hcd, _, _⟩ := F1.ex
  refine ⟨F.meth, StX.fn_star lk hcd S StX.cxUp F2 fun A outer s H vs Q E hr h => ?_⟩
  obtain ⟨t, h1, h2⟩ := hbody _ cdv A outer s H vs Q E hr h
  exact ⟨t, h1.nox, h2⟩
theorem vals_getD : ∀ {zs : List V} {ws : List Value} (i : Nat), Vals zs ws → RelV (zs.getD i .non) (ws.getD i .none)
  | _, _, _, .nil => rfl
  | _, _, 0, .cons r _ => r
  | _, _, i + 1, .cons _ rs => by simpa using vals_getD i rs
theorem vals_pick {idx : List (Nat ⊕ Nat)} {zs ms : List V} {ws us : List Value} (r : Vals zs ws) (r2 : Vals ms us) : Vals (pickL .non idx zs ms) (pickL .none idx ws us) := by
  induction idx with
  | nil => exact .nil
  | cons i idx ih =>
    cases i with
    | inl i => exact .cons (vals_getD i r) ih
    | inr j => exact .cons (vals_getD j r2) ih
theorem vals_app : ∀ {vs zs : List V} {us ws : List Value}, Vals vs us → Vals zs ws → Vals (vs ++ zs) (us ++ ws)
  | _, _, _, _, .nil, h => h
  | _, _, _, _, .cons r rs, h => .cons r (vals_app rs h)
/-- o.m(e, .., k = v, ..): keyword-only parameters, some of them by their defaults -/
theorem kb_some {params : Arguments} {body : List Stmt} {scope : Scope} {kws : List (Str × V)} {f : Addr} {fd : FuncData} (F : FunD K x q params body scope [] kws f fd) (n : Nat) (ks : List Str) (ms : List (Str × V)) (idx : List (Nat ⊕ Nat)) (hk : kws ≠ []) (hms : ∀ z ∈ ms, z ∈ kws)
    (h : ∀ (D : Addr) (doc pm : Value) (an : Option Addr) (cdv ct : Value) (us mv ws : List Value), us.length = n → mv.length = ms.length → ws.length = ks.length →
      KwChain D ((ms.map (·.1)).zip mv) (bindArgs (PySem.W.fnOf x q params body scope .none (.ref D) doc pm an cdv ct) ⟨us, ks.zip ws⟩) (ps.zip (us ++ pickL .none idx ws mv))) : ∃ g, KBn K fd ps n ks g (kwV idx (ms.map (·.2))) := by
  obtain ⟨oc, od, dV, kV, doc, pm, an, cdv, ct, osl, rfl, lk, hcd, hD, hK⟩ := F.ex
  rcases hD with ⟨_, rfl⟩ | ⟨e, _⟩
  · rcases hK with e | ⟨D, rfl, hq⟩
    · exact absurd e hk
    · obtain ⟨mv, hl, rk, hks⟩ := kwd_vals (ms := ms) fun z hz => hq z (hms z hz)
      refine ⟨fun us ws => us ++ pickL .none idx ws mv, fun s us ws X l1 l2 => ?_, fun r1 r2 => vals_app r1 (vals_pick r2 rk)⟩
      exact BindsTo.of_looks fun M => KwChain.looks X hks (h D doc pm an cdv ct us mv ws l1 hl l2)
  · exact absurd rfl e
/-- .. all of them written -/
theorem kb_all {params : Arguments} {body : List Stmt} {scope : Scope} {kws : List (Str × V)} {f : Addr} {fd : FuncData} (F : FunD K x q params body scope [] kws f fd) (n : Nat) (ks : List Str) (idx : List (Nat ⊕ Nat))
    (h : ∀ (kV doc pm : Value) (an : Option Addr) (cdv ct : Value) (us ws : List Value), us.length = n → ws.length = ks.length →
      bindArgs (PySem.W.fnOf x q params body scope .none kV doc pm an cdv ct) ⟨us, ks.zip ws⟩ = pure (ps.zip (us ++ pickL .none idx ws []))) : ∃ g, KBn K fd ps n ks g (kwV idx []) := by
  obtain ⟨oc, od, dV, kV, doc, pm, an, cdv, ct, osl, rfl, lk, hcd, hD, hK⟩ := F.ex
  rcases hD with ⟨_, rfl⟩ | ⟨e, _⟩
  · refine ⟨fun us ws => us ++ pickL .none idx ws [], fun s us ws X l1 l2 => ?_, fun r1 r2 => vals_app r1 (vals_pick r2 .nil)⟩
    exact BindsTo.of_looks fun M => .of_pure (h kV doc pm an cdv ct us ws l1 l2)
  · exact absurd rfl e
end
/-! ### the calls -/
def tMethK (C : Addr) (m : Str) (n nk : Nat) (sp : Sp) (gV : List V → List V → List V) (E : XK) (ta : TE) (t tk : TA) : TE := fun σ H Q => ta σ H fun x H1 => ∃ a dx fs, x = .ref a ∧ H1 a = some (.ins C dx fs) ∧ fs.lookup m = none ∧ t σ H1 fun vs H2 => tk σ H2 fun zs H3 => vs.length + 1 = n ∧ zs.length = nk ∧ sp (gV (x :: vs) zs) H3 Q E
section
variable {X : Cx} {k n : Nat} {c m : Str} {ps ks : List Str} {sp : Sp} {o e : Expr} {es : List Expr} {kws : List Keyword} {ta : TE} {t tk : TA} {pos apos : Pos} {gV : List V → List V → List V}
theorem pe_dk0 {fl : List Str} {nk : Nat} (G : DfK X.prog X.w X.K X.mg X.base k c m ps n ks gV sp) (C : ClsF X.K c fl) (hr : Room k X.A) (he : PE X o ta) (hkw : PK X kws tk) {pl : Sem Bool}
    (ht : eval (.Call (.Attribute o m apos) [] kws pos) X.env = (do
      let ov ← eval o X.env
      standAt apos.atName
      let (f, first) ← holding [ov] (getMethod ov m pl)
      callWith pos f first (backTo pos (starEach [] X.env)) (backToKw pos (keywordEach kws X.env))) := by rfl)
    (hall : (backToKw pos (keywordEach kws X.env)).all (·.1.isSome) = true := by rfl) (hks : (backToKw pos (keywordEach kws X.env)).filterMap (·.1) = ks := by rfl)
    (hpl : ((backTo pos (starEach [] X.env)).any (·.1) || (backToKw pos (keywordEach kws X.env)).any (·.1.isNone)) = false := by rfl) (hnk : ks.length = nk := by rfl) :
    PE X (.Call (.Attribute o m apos) [] kws pos) (tMethK (He.ga X.K c) m n nk sp gV E0 ta tNil tk) := by
  subst hnk
  obtain ⟨fd, F, g, b⟩ := G.ok
  refine ⟨fun pins s σ H Q I h => ?_⟩
  refine PySem.W.methodCall_KW (pl := pl) (thn (he.run pins s σ H _ I h) fun u s1 ⟨x, H1, I1, rx, a, dx, fs, ex, ea, l, q⟩ => ?_) ht
  subst ex
  obtain rfl : u = Value.ref a := rx
  refine getmeth_ok I1 ea C.cls G.meth l ?_
  refine PySem.W.callWith_KW0 (first := [.ref a]) (h₀ := X.base) I.ok.mod.kin G.meth.kp hall (thn (hkw.run pos pins s1 σ H1 _ I1 q) fun ws s2 ⟨zs, H2, I2, rz, l1, l2, q2⟩ => ⟨I2.kIn, ?_⟩) hpl
  rw [hks]
  exact run_fnN (us := [.ref a]) (vs := [.ref a]) F hr b passL I2 (.cons rfl .nil) rz l1 l2 q2
theorem pe_dk {fl : List Str} {nk : Nat} (G : DfK X.prog X.w X.K X.mg X.base k c m ps n ks gV sp) (C : ClsF X.K c fl) (hr : Room k X.A) (he : PE X o ta) (ha : PA X (e :: es) t) (hkw : PK X kws tk) {pl : Sem Bool}
    (ht : eval (.Call (.Attribute o m apos) (e :: es) kws pos) X.env = (do
      let ov ← eval o X.env
      standAt apos.atName
      let (f, first) ← holding [ov] (getMethod ov m pl)
      callWith pos f first (backTo pos (starEach (e :: es) X.env)) (backToKw pos (keywordEach kws X.env))) := by rfl)
    (hall : (backToKw pos (keywordEach kws X.env)).all (·.1.isSome) = true := by rfl) (hks : (backToKw pos (keywordEach kws X.env)).filterMap (·.1) = ks := by rfl)
    (hst : starEach (e :: es) X.env = (false, eval e X.env) :: starEach es X.env := by rfl)
    (hpl : ((backTo pos (starEach (e :: es) X.env)).any (·.1) || (backToKw pos (keywordEach kws X.env)).any (·.1.isNone)) = false := by rfl) (hnk : ks.length = nk := by rfl) :
    PE X (.Call (.Attribute o m apos) (e :: es) kws pos) (tMethK (He.ga X.K c) m n nk sp gV E0 ta t tk) := by
  subst hnk
  obtain ⟨fd, F, g, b⟩ := G.ok
  refine ⟨fun pins s σ H Q I h => ?_⟩
  refine PySem.W.methodCall_KW (pl := pl) (thn (he.run pins s σ H _ I h) fun u s1 ⟨x, H1, I1, rx, a, dx, fs, ex, ea, l, q⟩ => ?_) ht
  subst ex
  obtain rfl : u = Value.ref a := rx
  refine getmeth_ok I1 ea C.cls G.meth l ?_
  refine PySem.W.callWith_KW (first := [.ref a]) (h₀ := X.base) I.ok.mod.kin G.meth.kp hall (thn (ha.run pos pins s1 σ H1 _ I1 q) fun us s2 ⟨vs, H2, I2, r, q2⟩ => ?_) hpl hst
  refine thn (hkw.run pos pins s2 σ H2 _ I2 q2) fun ws s3 ⟨zs, H3, I3, rz, l1, l2, q3⟩ => ⟨I3.kIn, ?_⟩
  rw [hks]
  exact run_fnN (us := .ref a :: us) (vs := .ref a :: vs) F hr b passL I3 (.cons rfl r) rz l1 l2 q3
/-- o.m(e, ..), m with *rows -/
theorem pe_ds {fl : List Str} (G : DfS X.prog X.w X.K X.mg X.base k c m sp) (C : ClsF X.K c fl) (hr : Room k X.A) (he : PE X o ta) (ha : PA X (e :: es) t) {pl : Sem Bool}
    (hst : starEach (e :: es) X.env = (false, eval e X.env) :: starEach es X.env := by rfl) (hpl : (backTo pos (starEach es X.env)).any (·.1) = false := by rfl)
    (ht : eval (.Call (.Attribute o m apos) (e :: es) [] pos) X.env = (do
      let ov ← eval o X.env
      standAt apos.atName
      let (f, first) ← holding [ov] (getMethod ov m pl)
      callWith pos f first (backTo pos (starEach (e :: es) X.env)) (backToKw pos (keywordEach [] X.env))) := by rfl) :
    PE X (.Call (.Attribute o m apos) (e :: es) [] pos) (tMethR (He.ga X.K c) m sp E0 ta t) := pe_methR he C.cls G.meth G.ok hr passL ha hst hpl ht
theorem pe_ds0 {fl : List Str} (G : DfS X.prog X.w X.K X.mg X.base k c m sp) (C : ClsF X.K c fl) (hr : Room k X.A) (he : PE X o ta) {pl : Sem Bool}
    (ht : eval (.Call (.Attribute o m apos) [] [] pos) X.env = (do
      let ov ← eval o X.env
      standAt apos.atName
      let (f, first) ← holding [ov] (getMethod ov m pl)
      callWith pos f first (backTo pos (starEach [] X.env)) (backToKw pos (keywordEach [] X.env))) := by rfl) :
    PE X (.Call (.Attribute o m apos) [] [] pos) (tMethR (He.ga X.K c) m sp E0 ta tNil) := by
  refine ⟨fun pins s σ H Q I h => ?_⟩
  refine PySem.W.methodCall_KW (pl := pl) (thn (he.run pins s σ H _ I h) fun u s1 ⟨x, H1, I1, rx, a, dx, fs, ex, ea, l, q⟩ => ?_) ht
  subst ex
  obtain rfl : u = Value.ref a := rx
  refine getmeth_ok I1 ea C.cls G.meth l ?_
  refine PySem.W.callWith_K0 (first := [.ref a]) I1.kIn G.meth.kp ?_
  exact wpAny_call (run_fnR (us := [.ref a]) (vs := [.ref a]) G.ok hr passL I1 (.cons rfl .nil) q)
/-- o.f, a property -/
theorem pe_dp {fl : List Str} {f : Str} (G : DfP X.prog X.w X.K X.mg X.base k c f sp) (C : ClsF X.K c fl) (hr : Room (k + 1) X.A) (he : PE X o ta) (hab : attributeBase o f X.env (eval o X.env) = eval o X.env := by rfl) : PE X (.Attribute o f pos) (tProp (He.ga X.K c) sp [] E0 ta) := by
  obtain ⟨fd, F, b⟩ := G.ok
  exact pe_prop he C.cls G.prop F hr b .nil passL hab
end
/-! ### readings -/
section
variable {K : PySem.W.Frag} {M : Addr → Prop} {I : Hp → Prop} {σ : L2.St} {H : Hp} {Q : VK} {C : Addr} {m : Str} {sp : Sp} {E : XK} {ta : TE} {t tk : TA}
theorem sx_methK {n nk : Nat} {gV : List V → List V → List V} (h : ta σ H fun x H1 => ∃ a dx fs, x = .ref a ∧ H1 a = some (.ins C dx fs) ∧ fs.lookup m = none ∧ t σ H1 fun vs H2 => tk σ H2 fun zs H3 => vs.length + 1 = n ∧ zs.length = nk ∧ sp (gV (x :: vs) zs) H3 Q E) : tMethK C m n nk sp gV E ta t tk σ H Q := h
theorem sx_methR (h : ta σ H fun x H1 => ∃ a dx fs, x = .ref a ∧ H1 a = some (.ins C dx fs) ∧ fs.lookup m = none ∧ t σ H1 fun vs H2 => sp (x :: vs) H2 Q E) : tMethR C m sp E ta t σ H Q := h
theorem sx_prop {dvs : List V} (h : ta σ H fun x H1 => ∃ a dx fs, x = .ref a ∧ H1 a = some (.ins C dx fs) ∧ sp (.ref a :: dvs) H1 Q E) : tProp C sp dvs E ta σ H Q := h
theorem sx_rng3 {R : It → Hp → Prop} {a : TA} (h : a σ H fun vs H1 => ∃ (i j c : Int) (n : Nat), vs = [.int i, .int j, .int c] ∧ RgC i j c n ∧ R (Itc i c n) H1) : iRng3 a σ H R := h
theorem sx_ckw {r : List V → List V → Hp → VK → Prop} (h : t σ H fun vs H1 => tk σ H1 fun zs H2 => r vs zs H2 Q) : tCKw r t tk σ H Q := h
/-- sorted(ints, reverse=True) -/
theorem sort_rev {x : V} {ns : List Int} (hw : Wf M I) (hI : I H) (hx : Rep K M H x (.lst (ns.map .int))) (q : ∀ v (ns' : List Int) H', ns'.Perm ns → ns'.Pairwise (· ≥ ·) → Ex M H H' → I H' → Rep K M H' v (.lst (ns'.map .int)) → Q v H') : rSortedKw K true [.bl true] [x] [.bl true] H Q := by
  cases hx with
  | lst h n r =>
    have e := Reps.scal_inv (f := V.int) (g := D.int) (fun a v h => rep_int h) r
    subst e
    refine ⟨_, ns, rfl, rfl, SqL.of h, fun ns' p hp ho hn => q _ ns' _ hp ho (Ex.of (same_upd hn)) (hw.same (same_upd hn) hI) (.lst upd_same (hw.fresh hI hn) (Reps.scal (fun a => .int a) _))⟩
end
end Nt

namespace Nt
open PySem PySem.Spec PyProof.Rows L2
/-! ### ways that meet again -/
section
variable {σ : L2.St} {H : Hp} {E : Ends} {s1 s2 : TS} {t : TT} {ta tb : TE} {Q : VK}
/-- what follows a statement is shown once, for whatever it leaves -/
theorem sx_seqJ (J : L2.St → Hp → Prop) (h1 : ∀ N : L2.St → Hp → Prop, (∀ σ H, J σ H → N σ H) → s1 { E with nx := N } σ H) (h2 : ∀ σ H, J σ H → s2 E σ H) : tSeq s1 s2 E σ H := h1 _ h2
/-- a test whose answer is known -/
theorem sx_ifJ (b : Bool) (J : Hp → Prop) (ht : ∀ QT : Bool → Hp → Prop, (∀ H', J H' → QT b H') → t σ H QT) (h : ∀ H', J H' → if b = true then s1 E σ H' else s2 E σ H') : tIfS t s1 s2 E σ H := ht _ h
/-- .. not known -/
theorem sx_ifN (J : Bool → Hp → Prop) (ht : ∀ QT : Bool → Hp → Prop, (∀ b H', J b H' → QT b H') → t σ H QT) (h1 : ∀ H', J true H' → s1 E σ H') (h2 : ∀ H', J false H' → s2 E σ H') : tIfS t s1 s2 E σ H :=
  ht (fun b H' => if b = true then s1 E σ H' else s2 E σ H') fun b H' j => by
    cases b
    · exact ifF (h2 H' j)
    · exact ifT (h1 H' j)
/-- x if t else y -/
theorem sx_ifEJ (J : V → Hp → Prop) (h1 : ∀ Q' : VK, (∀ v H', J v H' → Q' v H') → tIf t ta tb σ H Q') (h2 : ∀ v H', J v H' → Q v H') : tIf t ta tb σ H Q := h1 _ h2
theorem sx_asgJ {g : TG} (J : V → Hp → Prop) (h1 : ∀ Q' : VK, (∀ v H', J v H' → Q' v H') → ta σ H Q') (h2 : ∀ v H', J v H' → g v σ H' E.nx) : tAsg ta g E σ H := h1 _ h2
end
end Nt

namespace Nt
open PySem PySem.Spec PyProof.Rows
open L2 hiding rLen
/-! ### o[k], o == p, repr(o), bool(o) by own methods -/
structure DfG (P : Program) (w : World) (K : PySem.W.Frag) (mg : Str → Option Value) (base : Heap) (k : Nat) (c : Str) (ps : List Str) (sp : Sp) : Prop where
  meth : Meth K (He.ga K c) "__getitem__" (He.ma K (He.ga K c) "__getitem__")
  fn : PySem.W.fnIn K (He.ma K (He.ga K c) "__getitem__") = true
  ok : ∃ fd, FnOk P w K mg base (L2.CX P w) k (He.ma K (He.ga K c) "__getitem__") fd ps sp ∧ Binds K fd ps []
theorem Bok.dg {P : Program} {w : World} {K : PySem.W.Frag} {mg : Str → Option Value} {base : Heap} {k : Nat} {c q : Str} {ps : List Str} {sp : Sp} {st : Stmt} (b : Bok P w K mg base k q st ps sp) (F : AtM K c "__getitem__" q st ps []) : DfG P w K mg base k c ps sp := by
  obtain ⟨fd, dfl, kws, F1, ds, hd, F2⟩ := F.ex
  cases hd
  refine ⟨F.meth, ?_, fd, b F1, F2⟩
  obtain ⟨oc, od, dV, kV, doc, pm, an, cdv, ct, osl, rfl, lk, hcd, _, _⟩ := F1.ex
  unfold PySem.W.fnIn
  rw [lk]
def tGetO (C : Addr) (sp : Sp) (E : XK) (ta ti : TE) : TE := fun σ H Q => ta σ H fun x H1 => ti σ H1 fun y H2 => ∃ (a dx : Addr) (fs : List (Str × V)), x = .ref a ∧ H2 a = some (.ins C dx fs) ∧ sp [x, y] H2 Q E
theorem sx_getO {C : Addr} {sp : Sp} {E : XK} {ta ti : TE} {σ : L2.St} {H : Hp} {Q : VK} (h : ta σ H fun x H1 => ti σ H1 fun y H2 => ∃ (a dx : Addr) (fs : List (Str × V)), x = .ref a ∧ H2 a = some (.ins C dx fs) ∧ sp [x, y] H2 Q E) : tGetO C sp E ta ti σ H Q := h
section
variable {X : Cx} {k : Nat} {c : Str} {ps : List Str} {sp : Sp} {o i : Expr} {to ti : TE} {pos : Pos}
theorem ins_at {pins : List (Addr × Obj)} {σ : L2.St} {H : Hp} {s : Shared} {a C dx : Addr} {fs : List (Str × V)} (I : Inv X pins σ H s) (e : H a = some (.ins C dx fs)) : ∃ ox od, PySem.W.InstAt s.heap a ox C (some od) := by
  obtain ⟨mA, O, _, _, _, _⟩ := ins_get I.hok e
  obtain ⟨od, J, _⟩ := O.look
  exact ⟨_, od, J⟩
/-- o[k] -/
theorem pe_getD (G : DfG X.prog X.w X.K X.mg X.base k c ps sp) (hr : Room (k + 1) X.A) (ho : PE X o to) (hi : PE X i ti)
    (hsl : ∀ x u, subscripted i true (.ref x) u = runValue (.builtin "lifetime.subscript" ⟨[.ref x, u], []⟩) := by intro _ _; with_unfolding_all rfl) :
    PE X (.Subscript o i pos) (tGetO (He.ga X.K c) sp E0 to ti) := by
  obtain ⟨fd, F, hb⟩ := G.ok
  refine ⟨fun pins s σ H Q I h => ?_⟩
  refine Subscript_ (thn (ho.run pins s σ H _ I h) fun v s1 ⟨x, H1, I1, r1, q1⟩ => ?_)
  refine thn (hi.run pins s1 σ H1 _ I1 q1) fun u s2 ⟨y, H2, I2, r2, a, dx, fs, ex, e, q⟩ => ?_
  subst ex
  obtain rfl : v = Value.ref a := r1
  obtain ⟨ox, od, J⟩ := ins_at I2 e
  obtain ⟨m, hF⟩ := I2.fr
  refine PySem.W.sub_K hF I2.ok.mod.kin J G.meth.at_ G.fn G.meth.fn ?_ (hsl a u)
  exact run_own F hr.in1 I2.env0.in1 hb I2 (.cons (show RelV (.ref a) (.ref a) from rfl) (.cons r2 .nil)) q fun v u H' s' I' rv z => ⟨v, H', I', rv, z⟩
/-- o == p, both of own classes -/
def rEqO (K : PySem.W.Frag) (C : Addr) (sp : Sp) : R2 := fun x y H Q => ∃ (a dx : Addr) (fs : List (Str × V)) (b dy : Addr) (gs : List (Str × V)), x = .ref a ∧ y = .ref b ∧ H a = some (.ins C dx fs) ∧ H b = some (.ins C dy gs) ∧ sp [x, y] H Q E0
theorem op_eqO (G : DfM X.prog X.w X.K X.mg X.base k c "__eq__" ps [] sp) (hr : Room k X.A) : OpR X (compareOp .Eq) (rEqO X.K (He.ga X.K c) sp) := by
  obtain ⟨fd, F, ds, hd, hb⟩ := G.ok
  cases hd
  intro pins s σ H x y v u Q I rx ry h
  obtain ⟨a, dx, fs, b, dy, gs, rfl, rfl, ea, eb, q⟩ := h
  obtain rfl : v = Value.ref a := rx
  obtain rfl : u = Value.ref b := ry
  obtain ⟨ox, od, J⟩ := ins_at I ea
  obtain ⟨ox', od', J'⟩ := ins_at I eb
  obtain ⟨m, hF⟩ := I.fr
  show wpAny _ _ (richCompare .Eq _ _) _ _ _
  refine PySem.W.cmp_K (op := .Eq) (tb := .ref (He.ga X.K c)) hr.units0 hF I.ok.mod.kin J J'.type (by simp [PySem.W.notFirst]) G.meth.at_ G.meth.fn ?_
  refine wpAny_mono (run_own F hr I.env0 hb I (.cons (show RelV (.ref a) (.ref a) from rfl) (.cons (show RelV (.ref b) (.ref b) from rfl) .nil)) q (Q := fun u s' => ∃ v H', Inv X pins σ H' s' ∧ RelV v u ∧ Q v H') fun v u H' s' I' rv z => ⟨v, H', I', rv, z⟩) (fun w s' z => ?_) fun _ _ x => x
  obtain ⟨z', H', I', rz, qz⟩ := z
  exact SlX.cmpback rz ⟨z', H', I', rz, qz⟩
/-- repr(o) -/
def rReprO (C : Addr) (sp : Sp) : List V → Hp → VK → Prop := fun xs H Q => ∃ (a dx : Addr) (fs : List (Str × V)), xs = [.ref a] ∧ H a = some (.ins C dx fs) ∧ sp [.ref a] H (fun v H' => ∃ z, v = .str z ∧ Q (.str z) H') E0
theorem call_reprD (G : DfM X.prog X.w X.K X.mg X.base k c "__repr__" ps [] sp) (hr : Room (k + 1) X.A) : CallR X (.builtin "repr") (rReprO (He.ga X.K c) sp) := by
  obtain ⟨fd, Fo, ds, hd, hb⟩ := G.ok
  cases hd
  intro pins s σ H xs us Q I r h
  obtain ⟨a, dx, fs, rfl, e, h⟩ := h
  obtain ⟨u, rfl, ru⟩ := vals1 r
  obtain rfl : u = Value.ref a := ru
  obtain ⟨k1, k2⟩ := special_at (M := model X.prog X.w) I e G.meth
  obtain ⟨ox, od, J⟩ := ins_at I e
  refine Calls.call_function_entry F.kind_repr F.plain_repr F.entry_repr (F.args_repr1 _) ?_
  unfold Builtin.«repr»
  refine wpAny_bind (m := oneArg "repr" _) (wpAny_pure ?_)
  refine wpAny_bind (wpAny_cRoomFor hr.in1.units0 ?_)
  refine wpAny_bind (k1.here ?_)
  show wpAny _ _ (if (some (Value.ref _)).isNone = true then _ else _) _ _ _
  rw [if_neg (by simp)]
  refine wpAny_bind (m := callSpecialIfBound? (.ref a) (Str.ofString "__repr__") _) (PySem.W.ifBound_K I.kIn J G.meth.at_ G.meth.fn (run_own Fo hr.in1 I.env0.in1 hb I (.cons (show RelV (.ref a) (.ref a) from rfl) .nil) h fun v u H' s' I' rv z => ?_))
  obtain ⟨z, rfl, q⟩ := z
  obtain ⟨t, rfl⟩ := rv
  refine wpAny_bind (wpAny_isInstance (typeIs_str _ _ _) isSubtype_str_str ?_)
  first
    | exact wpAny_pure ⟨_, rfl, .str z, H', I', ⟨_, rfl⟩, q⟩
    | (rw [if_pos rfl]; exact wpAny_pure ⟨_, rfl, .str z, H', I', ⟨_, rfl⟩, q⟩)
    | (simp only [if_true]; exact wpAny_pure ⟨_, rfl, .str z, H', I', ⟨_, rfl⟩, q⟩)
/-- bool(o) -/
def rBoolO (C : Addr) (sp : Sp) : List V → Hp → VK → Prop := fun xs H Q => ∃ (a dx : Addr) (fs : List (Str × V)), xs = [.ref a] ∧ H a = some (.ins C dx fs) ∧ sp [.ref a] H (fun v H' => ∃ b, v = .bl b ∧ Q (.bl b) H') E0
theorem truthy_ownM {M : Model} {A : Around} {E : Value → Shared → Prop} {s : Shared} {f a : Addr} {Q : Bool → Shared → Prop} (sp : PySem.W.Looks M s.heap (specialOf (.ref a) "__bool__") (some (.ref f))) (hb : PySem.W.Looks M s.heap (bindSpecial (.ref f) (.ref a)) (.ref f, [.ref a]))
    (hc : wpAny M A (call (.ref f) [.ref a]) (fun r s' => ∃ b, r = .bool b ∧ Q b s') E s) : wpAny M A (truthy (.ref a)) Q E s := by
  unfold truthy
  first
    | (refine wpAny_bind (m := callSpecial? (.ref a) (Str.ofString "__bool__")) (cspecO sp hb (wpAny_mono hc (fun r s' hr => ?_) fun _ _ y => y)))
    | (refine wpAny_bind (wpAny_pure ?_); refine wpAny_bind (m := callSpecial? (.ref a) (Str.ofString "__bool__")) (cspecO sp hb (wpAny_mono hc (fun r s' hr => ?_) fun _ _ y => y)))
  obtain ⟨b, rfl, hq⟩ := hr
  exact wpAny_pure hq
theorem call_boolD (G : DfM X.prog X.w X.K X.mg X.base k c "__bool__" ps [] sp) (hr : Room (k + 2) X.A) : CallR X (.type "bool") (rBoolO (He.ga X.K c) sp) := by
  obtain ⟨fd, Fo, ds, hd, hb⟩ := G.ok
  cases hd
  intro pins s σ H xs us Q I r h
  obtain ⟨a, dx, fs, rfl, e, h⟩ := h
  obtain ⟨u, rfl, ru⟩ := vals1 r
  obtain rfl : u = Value.ref a := ru
  obtain ⟨k1, k2⟩ := special_at (M := model X.prog X.w) I e G.meth
  refine callType_codes (T := "bool") (Bi := Builtin.«object.__init__») (Q₁ := fun r s₁ => ∃ b, r = Value.bool b ∧ EP X pins σ Q r s₁) F.called_bool (F.typeCall_bool_1 _) F.entry_object_init ?_ ?_
  · refine codeAny_of_tree ?_
    show wpAny _ X.A.in1.in1 (do checkBuiltinCall "bool.__new__" ⟨[.type "bool", .ref a], []⟩; again (.builtin "bool.__new__" ⟨[.type "bool", .ref a], []⟩)) _ _ s
    refine wpAny_bind (wpAny_of_eq (F.newCall_bool_1 _) (wpAny_pure ⟨plainId_quiet (by decide +kernel) _, codeAny_builtin F.entry_bool_new ?_⟩))
    rw [Around.under_plainId (by decide +kernel) _]
    have key : wpAny (model X.prog X.w) X.A.in1.in1 (truthy (.ref a)) (fun b s' => EP X pins σ Q (.bool b) s') X.xe s := by
      refine truthy_ownM k1 k2 (run_own Fo hr.in1.in1 I.env0.in1.in1 hb I (.cons (show RelV (.ref a) (.ref a) from rfl) .nil) h fun v u H' s' I' rv z => ?_)
      obtain ⟨b, rfl, q⟩ := z
      obtain rfl : u = Value.bool b := rv
      exact ⟨b, rfl, .bl b, H', I', rfl, q⟩
    have f1 := F.conv_sub_bool
    repeat (any_goals (first | assumption | (with_reducible refine wpAny_bind (wpAny_mono key (fun b s' hq => ?_) fun _ _ y => y)) | wp_step))
    all_goals first | exact ⟨_, rfl, hq⟩ | skip
  · rintro obj s₁ ⟨b, rfl, hq⟩
    exact ⟨PySem.typeIs_bool _ _, F.args_object_init_2 _ _, object_init_meets F.called_bool.init.lookup F.called_bool.made (by decide) X.prog X.w X.A.in1 _ s₁ ⟨PySem.typeIs_bool _ _, rfl, hq⟩⟩
end
/-! ### f(e, .., k = v, ..), f a def of the module -/
structure AtN (K : PySem.W.Frag) (mg : Str → Option Value) (x : Str) (st : Stmt) (ps : List Str) (n : Nat) (ks : List Str) (gV : List V → List V → List V) : Prop where
  mgx : mg x = some (.ref (He.ga K x))
  ex : ∃ fd dfl kws, FunD K x x (defArgs st) (defBody st) (defScope st) dfl kws (He.ga K x) fd ∧ ∃ g, KBn K fd ps n ks g gV
structure DfN (P : Program) (w : World) (K : PySem.W.Frag) (mg : Str → Option Value) (base : Heap) (k : Nat) (x : Str) (ps : List Str) (n : Nat) (ks : List Str) (gV : List V → List V → List V) (sp : Sp) : Prop where
  mgx : mg x = some (.ref (He.ga K x))
  kp : PySem.W.keepIn K (.ref (He.ga K x)) = true
  ok : ∃ fd, FnOk P w K mg base (L2.CX P w) k (He.ga K x) fd ps sp ∧ ∃ g, KBn K fd ps n ks g gV
theorem Bok.dn {P : Program} {w : World} {K : PySem.W.Frag} {mg : Str → Option Value} {base : Heap} {k n : Nat} {x : Str} {ps ks : List Str} {gV : List V → List V → List V} {sp : Sp} {st : Stmt} (b : Bok P w K mg base k x st ps sp) (F : AtN K mg x st ps n ks gV) : DfN P w K mg base k x ps n ks gV sp := by
  obtain ⟨fd, dfl, kws, F1, F2⟩ := F.ex
  exact ⟨F.mgx, F1.kp, fd, b F1, F2⟩
section
variable {X : Cx} {k n : Nat} {x : Str} {ps ks : List Str} {sp : Sp} {e : Expr} {es : List Expr} {kws : List Keyword} {t tk : TA} {p pos : Pos} {gV : List V → List V → List V}
theorem pe_dn {nk : Nat} (G : DfN X.prog X.w X.K X.mg X.base k x ps n ks gV sp) (hr : Room k X.A) (hg : Gl X x) (ha : PA X (e :: es) t) (hkw : PK X kws tk) (hall : (backToKw pos (keywordEach kws X.env)).all (·.1.isSome) = true := by rfl) (hks : (backToKw pos (keywordEach kws X.env)).filterMap (·.1) = ks := by rfl)
    (hdb : (x == ("__debug__" : Str)) = false := by decide) (he : starEach (e :: es) X.env = (false, eval e X.env) :: starEach es X.env := by rfl)
    (hpl : ((backTo pos (starEach (e :: es) X.env)).any (·.1) || (backToKw pos (keywordEach kws X.env)).any (·.1.isNone)) = false := by rfl) (hnk : ks.length = nk := by rfl) :
    PE X (.Call (.Name x p) (e :: es) kws pos) (tCallN n nk sp gV E0 t tk) := by
  subst hnk
  obtain ⟨fd, Fo, g, b⟩ := G.ok
  exact pe_callN Fo hr hg G.mgx G.kp b passL ha hkw hall hks hdb he hpl
theorem pe_dn0 {nk : Nat} (G : DfN X.prog X.w X.K X.mg X.base k x ps n ks gV sp) (hr : Room k X.A) (hg : Gl X x) (hkw : PK X kws tk) (hall : (backToKw pos (keywordEach kws X.env)).all (·.1.isSome) = true := by rfl) (hks : (backToKw pos (keywordEach kws X.env)).filterMap (·.1) = ks := by rfl)
    (hdb : (x == ("__debug__" : Str)) = false := by decide)
    (hpl : ((backTo pos (starEach [] X.env)).any (·.1) || (backToKw pos (keywordEach kws X.env)).any (·.1.isNone)) = false := by rfl) (hnk : ks.length = nk := by rfl) :
    PE X (.Call (.Name x p) [] kws pos) (tCallN n nk sp gV E0 tNil tk) := by
  subst hnk
  obtain ⟨fd, Fo, g, b⟩ := G.ok
  refine ⟨fun pins s σ H Q I h => ?_⟩
  refine wpAny_Call_Name_kw (ld_glob I hg G.mgx ?_ hdb)
  refine PySem.W.callWith_KW0 (first := []) (h₀ := X.base) I.ok.mod.kin G.kp hall (thn (hkw.run pos pins s σ H _ I h) fun ws s2 ⟨zs, H2, I2, rz, l1, l2, q2⟩ => ⟨I2.kIn, ?_⟩) hpl
  rw [hks]
  exact run_fnN (us := []) (vs := []) Fo hr b passL I2 .nil rz l1 l2 q2
theorem sx_callN {nk : Nat} {σ : L2.St} {H : Hp} {Q : VK} {E : XK} (h : t σ H fun vs H1 => tk σ H1 fun zs H2 => vs.length = n ∧ zs.length = nk ∧ sp (gV vs zs) H2 Q E) : tCallN n nk sp gV E t tk σ H Q := h
end
/-! ### isinstance of an own class; f-strings -/
section
variable {X : Cx} {c : Str} {pos : Pos}
theorem pe_cls (N : ClsG X.K X.mg c) (hg : Gl X c) (hd : (c == ("__debug__" : Str)) = false := by decide) : PE X (.Name c pos) (tC (.ref (He.ga X.K c))) := pe_glob hg N.mgx (rfl : (Value.ref _) = _) hd
/-- isinstance(o, C), o of the class C -/
theorem isi_O {K : PySem.W.Frag} {mg : Str → Option Value} {H : Hp} {a dx : Addr} {fs : List (Str × V)} {fl : List Str} {Q : VK} (C : ClsF K c fl) (N : ClsG K mg c) (e : H a = some (.ins (He.ga K c) dx fs)) (q : Q (.bl true) H) : rIsi K [.ref a, .ref (He.ga K c)] H Q := by
  refine ⟨_, _, .ref (He.ga K c), .ref (He.ga K c), true, rfl, .own _, .base (.ins e C.cls N.ha N.hn N.htk N.hm), ?_, q⟩
  unfold PySem.W.kitOne
  rw [if_pos (beq_self_eq_true _)]
def tJ (ts : List TE) : TE := fun σ H Q => tJs ts Str.empty σ H fun out H1 => Q (.str out) H1
theorem pe_joinedJ {v1 v2 : Expr} {rest : List Expr} {ts : List TE} (h : PJ X (v1 :: v2 :: rest) ts) : PE X (.JoinedStr (v1 :: v2 :: rest) pos) (tJ ts) := pe_joined h
theorem sx_j {ts : List TE} {σ : L2.St} {H : Hp} {Q : VK} (h : tJs ts Str.empty σ H fun out H1 => Q (.str out) H1) : tJ ts σ H Q := h
theorem sx_jn {acc : Str} {σ : L2.St} {H : Hp} {Z : Str → Hp → Prop} (h : Z acc H) : tJs [] acc σ H Z := h
theorem sx_jc {t : TE} {ts : List TE} {acc : Str} {σ : L2.St} {H : Hp} {Z : Str → Hp → Prop} (h : t σ H fun x H1 => ∃ y : Str, x = .str y ∧ (acc ++ y).length ≤ sizeLine ∧ tJs ts (acc ++ y) σ H1 Z) : tJs (t :: ts) acc σ H Z := h
theorem sx_fmt {t : TE} {σ : L2.St} {H : Hp} {Q : VK} (h : t σ H fun x H1 => (∃ y : Str, x = .str y ∧ y.length ≤ sizeLine ∧ Q (.str y) H1) ∨ ∃ i : Int, x = .int i ∧ i.natAbs.log2 < 1920 ∧ Q (.str (toString i)) H1) : tFmt t σ H Q := h
theorem ex_sl {z acc : Str} {Z : Str → Prop} (h1 : (acc ++ z).length ≤ sizeLine) (h2 : Z (acc ++ z)) : ∃ y : Str, V.str z = .str y ∧ (acc ++ y).length ≤ sizeLine ∧ Z (acc ++ y) := ⟨z, rfl, h1, h2⟩
theorem str_app_len (a b : Str) : (a ++ b).length = a.length + b.length := by
  show (a.cps ++ b.cps).size = a.cps.size + b.cps.size
  exact Array.size_append
end
end Nt

namespace Nt
open PySem PySem.Spec PyProof.Rows
/-! ### own exceptions over any of the built-in errors: stored into, made -/
section
open PySem.W PySem.HandSPX PySem.OEX PySem.Builtin PySem.Builtin.ObjectAttr
variable {prog : Program} {w : World} {A : Around} {R : Result → Shared → Prop} {hp : Heap} {g : Array GenState} {d : PySem.Drawn} {t : Nat} {os : OsState} {K : PySem.W.Frag} {name : Str} {tk : Tok} {v : Value} {x C dx : Addr} {fv : Array Value} {cd : ClassData} {B : String} {bmB : List Value}
theorem osa0 (SF : StoreFacts B bmB "object.__setattr__" "object") (X : K.In hp) (hx : hp.get? x = some { cls := .ref C, data := .fields fv }) (ho : PySem.W.excOver K C bmB = true) (hcd : PySem.W.clsIn K C = some cd) (hh : cd.hasDict = true) (ha : PySem.W.findIn K (.ref C) name = some none)
    (hq : ∀ h' tk' dx, (∀ b o, b ≠ x → hp.get? b = some o → h'.get? b = some o) → hp.objs.size ≤ dx → dx ≠ x → h'.get? x = some { cls := .ref C, dict := some dx, data := .fields fv } →
      h'.Ns1 dx (fun y => if y = name then some v else none) → R (.ok (.ret .none)) ⟨h', g, d, tk', os⟩) :
    codeAny (model prog w) A (.call (.builtin "object.__setattr__") ⟨[.ref x, .str name tk, v], []⟩) R ⟨hp, g, d, t, os⟩ := by
  have I : PySem.W.InstAt hp x { cls := .ref C, data := .fields fv } C none := ⟨hx, rfl, rfl, trivial⟩
  have hxs : x ≠ hp.objs.size := Nat.ne_of_lt (Heap.lt_size hx)
  have hcls : PySem.W.Looks (model prog w) hp (classData C) cd := PySem.W.looks_clsIn X hcd
  refine PySem.W.osa_openX (r := none) SF X I ho (by unfold PySem.W.takerIn; rw [ha]; rfl) fun b => ?_
  show wpAny _ _ (storeInOwnDict (.ref x) (.ref C) (.str name tk) name v b) _ _ _
  obtain ⟨nm, bs, mro, ns, qn, hd, sn, sb, ab, col, del⟩ := cd
  dsimp only at hh
  subst hh
  unfold storeInOwnDict ownDictForStores
  repeat (first | with_reducible refine store_in_new ?_ ?_ | with_reducible refine wpAny_loadPart_at hx ?_ | with_reducible refine hcls.at ?_ | wp_step)
  · exact ⟨_, #[], _, (Heap.get?_update_ne _ _ _ _ hxs.symm).trans (Heap.get?_push_at rfl rfl), rfl, fun e he => absurd he (by simp), fun _ => rfl⟩
  · intro h' tk' hn' hs
    have hx₁ : (hp.push { cls := .type "dict", data := .dict #[] }).get? x = some { cls := .ref C, data := .fields fv } := Heap.get?_push_of_some _ hx
    refine hq h' tk' hp.objs.size (fun b o hb ho => ?_) (Nat.le_refl _) hxs.symm ?_ hn'
    · exact (hs.2 b (Nat.ne_of_lt (Heap.lt_size ho))).trans ((Heap.get?_update_ne _ _ _ _ hb).trans (Heap.get?_push_of_some _ ho))
    · exact (hs.2 x hxs).trans (Heap.get?_update_self _ hx₁ rfl)
theorem osa1 {m0 : Str → Option Value} {nl : List Str} (SF : StoreFacts B bmB "object.__setattr__" "object") (X : K.In hp) (hx : hp.get? x = some { cls := .ref C, dict := some dx, data := .fields fv }) (hns : hp.Ns1 dx m0) (hw : Within m0 nl) (hz : nl.length ≤ 1000) (ho : PySem.W.excOver K C bmB = true) (hcd : PySem.W.clsIn K C = some cd) (hh : cd.hasDict = true)
    (ha : PySem.W.findIn K (.ref C) name = some none)
    (hq : ∀ h' tk', (∀ b o, b ≠ dx → hp.get? b = some o → h'.get? b = some o) → h'.Ns1 dx (fun y => if y = name then some v else m0 y) → R (.ok (.ret .none)) ⟨h', g, d, tk', os⟩) :
    codeAny (model prog w) A (.call (.builtin "object.__setattr__") ⟨[.ref x, .str name tk, v], []⟩) R ⟨hp, g, d, t, os⟩ := by
  obtain ⟨oD, esD, epD, hoD, hdD, _⟩ := hns.count hw
  have I : PySem.W.InstAt hp x { cls := .ref C, dict := some dx, data := .fields fv } C (some oD) := ⟨hx, rfl, rfl, hoD⟩
  have hcls : PySem.W.Looks (model prog w) hp (classData C) cd := PySem.W.looks_clsIn X hcd
  refine PySem.W.osa_openX (r := none) SF X I ho (by unfold PySem.W.takerIn; rw [ha]; rfl) fun b => ?_
  show wpAny _ _ (storeInOwnDict (.ref x) (.ref C) (.str name tk) name v b) _ _ _
  obtain ⟨nm, bs, mro, ns, qn, hd, sn, sb, ab, col, del⟩ := cd
  dsimp only at hh
  subst hh
  unfold storeInOwnDict ownDictForStores
  repeat (first | with_reducible refine store_in_old hns hw hz ?_ | with_reducible refine wpAny_loadPart_at hx ?_ | with_reducible refine hcls.at ?_ | wp_step)
  intro h' tk' hn' hs
  exact hq h' tk' (fun b o hb ho => (hs.2 b hb).trans ho) hn'
end
end Nt
namespace Nt
open PySem PySem.Spec PyProof.Rows
open L2 hiding rLen
section
variable {X : Cx} {pins : List (Addr × Obj)} {σ : L2.St} {H : Hp} {s : Shared} {a C dx : Addr} {f : Str} {y : V} {u : Value} {fs : List (Str × V)} {Q : Unit → Shared → Prop} {E : Value → Shared → Prop} {A : Around}
theorem OexG.in {K : PySem.W.Frag} {C : Addr} (T : OexG K C) : ∃ newId bmB, BaseF newId bmB ∧ ∃ nm q N bs bm sn sub ab col dd k0 k1 k2 k3 k5, K.lookup C = some (excClassObj nm q C N bs bm true sn sub ab col dd k0 k1 k2 k3 k5 newId) ∧ PySem.W.excTail bmB bm = true ∧
    PySem.W.clsIn K C = some { name := nm, bases := bs, mro := .ref C :: bm, ns := N, qualname := q, hasDict := true, slotNames := sn, subclasses := sub, abstract := ab, collection := col, hasDel := false } ∧ PySem.W.excOver K C bmB = true := by
  obtain ⟨newId, bmB, hB, nm, q, N, bs, bm, sn, sub, ab, col, dd, k0, k1, k2, k3, k5, hC, hbm⟩ := T.cls
  have hcl : PySem.W.clsIn K C = some { name := nm, bases := bs, mro := .ref C :: bm, ns := N, qualname := q, hasDict := true, slotNames := sn, subclasses := sub, abstract := ab, collection := col, hasDel := false } := by unfold PySem.W.clsIn; rw [hC] <;> rfl
  refine ⟨newId, bmB, hB, nm, q, N, bs, bm, sn, sub, ab, col, dd, k0, k1, k2, k3, k5, hC, hbm, hcl, ?_⟩
  unfold PySem.W.excOver
  rw [hcl]
  show (C == C && PySem.W.excTail bmB bm) = true
  rw [hbm, Bool.and_true]
  exact beq_self_eq_true C
/-- self.f = y: the first field of an exception that is being made -/
theorem ostG_new (T : OexG X.K C) (I : Inv X pins σ H s) (e : H a = some (exo a C none)) (hno : PySem.W.findIn X.K (.ref C) f = some none) (ry : RelV y u)
    (h : ∀ dx s', H dx = none → dx ≠ a → Inv X pins σ (upd (upd H dx (exd dx [(f, y)])) a (exo a C (some dx))) s' → Q () s') : wpAny (model X.prog X.w) A (setAttr (.ref a) f u) Q E s := by
  obtain ⟨newId, bmB, ⟨B, ini, FB, SF⟩, nm, q, N, bs, bm, sn, sub, ab, col, dd, k0, k1, k2, k3, k5, hC, hbm, hcl, hov⟩ := T.in
  obtain ⟨t1, ho⟩ := exo_at I.hok e
  obtain ⟨hp, g, d, t, os⟩ := s
  refine PySem.W.set_plain I.kIn (ox := { cls := .ref C, dict := none, data := .fields #[.ref t1, .none, .none, .none, .bool false, .none] }) (od := none) ⟨ho, rfl, rfl, trivial⟩ T.sa ?_
  refine osa0 SF I.kIn ho hov hcl rfl hno (fun h' tk' dx k dn dne hx hn => ?_)
  have hnd : H dx = none := I.hok.fresh dn
  have nd : ∀ {b : Addr} {o : Obj}, hp.get? b = some o → b ≠ dx := fun {b o} q => Nat.ne_of_lt (Nat.lt_of_lt_of_le (Heap.lt_size q) dn)
  have na : ∀ {b : Addr}, H b = none → b ≠ a := fun {b} n z => by
    rw [z, e] at n
    cases n
  have Un1 : Un X.fs [] H (upd (upd H dx (exd dx [(f, y)])) a (exo a C (some dx))) hp h' := {
    keep := fun b o q n _ _ => k b o (na n) q
    slot := fun b o q n _ _ => ⟨o.slots, k b o (na n) q⟩
    free := fun b o q n _ => by rw [upd_ne (na n), upd_ne (nd q)]; exact n
    there := fun b o q _ => by
      by_cases hb : b = a
      · exact ⟨_, by rw [hb]; exact hx⟩
      · exact ⟨o, k b o hb q⟩
    tups := fun b xs q => by rw [upd_ne (at_ne e q exo_tup), upd_ne (ne_of_none q hnd)]; exact q
    frzs := fun b o v q => by rw [upd_ne (at_ne e q exo_frz), upd_ne (ne_of_none q hnd)]; exact q
    tbls := fun b ps q => ⟨#[], by rw [upd_ne (at_ne e q exo_tbl), upd_ne (ne_of_none q hnd), q]; simp⟩ }
  refine h dx _ hnd dne (I.un (t' := tk') Un1 fun b o q => ?_)
  by_cases hb : b = a
  · subst hb
    rw [upd_same] at q
    cases q
    exact exo_ok hx
  · rw [upd_ne hb] at q
    by_cases hd : b = dx
    · subst hd
      rw [upd_same] at q
      cases q
      exact exd_ok hn (relO_put (fs := []) ry fun g => True.intro)
    · rw [upd_ne hd] at q
      exact (I.hok b o q).stay (fun c v hc z => k c v (by
          rcases hc with hc | hc
          · rw [hc]
            exact hb
          · exact at_ne e hc exo_own) z)
        (fun c hc => by rw [upd_ne (at_ne e hc exo_own), upd_ne (ne_of_none hc hnd)]; exact hc) (fun c xs hc => by rw [upd_ne (at_ne e hc exo_tup), upd_ne (ne_of_none hc hnd)]; exact hc)
/-- .. a further one -/
theorem ostG_old (T : OexG X.K C) (I : Inv X pins σ H s) (e : H a = some (exo a C (some dx))) (ed : H dx = some (exd dx fs)) (hl : fs.length ≤ 900) (hno : PySem.W.findIn X.K (.ref C) f = some none) (ry : RelV y u)
    (h : ∀ s', Inv X pins σ (upd H dx (exd dx ((f, y) :: fs))) s' → Q () s') : wpAny (model X.prog X.w) A (setAttr (.ref a) f u) Q E s := by
  obtain ⟨newId, bmB, ⟨B, ini, FB, SF⟩, nm, q, N, bs, bm, sn, sub, ab, col, dd, k0, k1, k2, k3, k5, hC, hbm, hcl, hov⟩ := T.in
  obtain ⟨t1, ho⟩ := exo_at I.hok e
  obtain ⟨mA, hns, rel⟩ := exd_at I.hok ed
  have hw := within_of rel
  obtain ⟨hp, g, d, t, os⟩ := s
  obtain ⟨oD, _, _, hoD, _, _⟩ := hns.count hw
  refine PySem.W.set_plain I.kIn (ox := { cls := .ref C, dict := some dx, data := .fields #[.ref t1, .none, .none, .none, .bool false, .none] }) (od := some oD) ⟨ho, rfl, rfl, hoD⟩ T.sa ?_
  refine osa1 SF I.kIn ho hns hw (by rw [List.length_map]; omega) hov hcl rfl hno (fun h' tk' k hn => ?_)
  have hd : ∃ o, h'.get? dx = some o := by
    obtain ⟨o, _, _, e', _⟩ := hn
    exact ⟨o, e'⟩
  exact h _ (I.write (t' := tk') (x := dx) (e := dx) (o := exd dx ((f, y) :: fs)) (by rw [ed]; exact True.intro) (.inl rfl) k hd (exd_ok hn (relO_put ry rel)))
end
/-- self.f = e in the own `__init__` of an exception -/
def tOstG (K : PySem.W.Frag) (f : Str) (to te : TE) : TS := fun D σ H => te σ H fun y H1 => to σ H1 fun x H2 => ∃ a C : Addr, x = .ref a ∧ OexG K C ∧ PySem.W.findIn K (.ref C) f = some none ∧
  ((H2 a = some (exo a C none) ∧ ∀ dx, H2 dx = none → dx ≠ a → D.nx σ (upd (upd H2 dx (exd dx [(f, y)])) a (exo a C (some dx)))) ∨
    ∃ (dx : Addr) (fs : List (Str × V)), H2 a = some (exo a C (some dx)) ∧ H2 dx = some (exd dx fs) ∧ fs.length ≤ 900 ∧ D.nx σ (upd H2 dx (exd dx ((f, y) :: fs))))
section
variable {X : Cx} {o e : Expr} {es : List Expr} {to te : TE} {ta : TA} {f : Str} {p p' p1 p2 pos : Pos}
theorem ps_ostG (ho : PE X o to) (he : PE X e te) (hs : swapsWith e (some (.Attribute o f p')) pos.line X.env = pure false := by rfl) : PS X (.Assign [.Attribute o f p'] e pos) (tOstG X.K f to te) := by
  refine ⟨fun pins s σ H D I h => ?_⟩
  refine plainObj_wpAny_Assign_Attribute (thn (he.run pins s σ H _ I h) fun v s1 ⟨y, H1, I1, r1, q1⟩ => thn (ho.run pins s1 σ H1 _ I1 q1) fun u s2 ⟨x, H2, I2, r2, a, C, ex, T, hno, q⟩ => ?_) hs
  subst ex
  obtain rfl : u = Value.ref a := r2
  rcases q with ⟨ea, q⟩ | ⟨dx, fs, ea, ed, hl, q⟩
  · exact ostG_new T I2 ea hno r1 fun dx s' n ne J => ⟨σ, _, J, q dx n ne⟩
  · exact ostG_old T I2 ea ed hl hno r1 fun s' J => ⟨σ, _, J, q⟩
/-- C(e, ..), C's own `__init__` keeping sp -/
theorem pmkG {CX : CXT} {x : Str} {C fI : Addr} {k : Nat} {fd : FuncData} {ps : List Str} {sp : Sp} {ds : List Value} {dvs : List V} (T : OexG X.K C) (iC : PySem.W.findIn X.K (.ref C) "__init__" = some (some (.ref fI))) (tI : PySem.W.typeIn X.K (.ref fI) = some (.type "function"))
    (F1 : FnOk X.prog X.w X.K X.mg X.base CX k fI fd ps sp) (hr : Room (k + 1) X.A) (hb : Binds X.K fd ps ds) (hd : Vals dvs ds) (hx : Passes CX X (fun _ _ _ => False)) (hg : Gl X x) (hm : X.mg x = some (.ref C)) (ha : PA X (e :: es) ta)
    (hdb : (x == ("__debug__" : Str)) = false := by decide) (he : starEach (e :: es) X.env = (false, eval e X.env) :: starEach es X.env := by rfl) (hpl : (backTo pos (starEach es X.env)).any (·.1) = false := by rfl) :
    PMk X (.Call (.Name x p) (e :: es) [] pos) (tMkO C sp dvs ta) := by
  intro pins s σ H Q I h
  obtain ⟨newId, bmB, ⟨B, ini, FB, SF⟩, nm, q, N, bs, bm, sn, sub, ab, col, dd, k0, k1, k2, k3, k5, hC, hbm, hcl, hov⟩ := T.in
  refine wpAny_Call_Name_kw (ld_glob I hg hm ?_ hdb)
  refine PySem.W.callWith_K (h₀ := X.base) I.ok.mod.kin T.kC (thn (ha.run pos pins s σ H _ I h) fun us s1 ⟨vs, H1, I1, r1, hz, q1⟩ => ⟨I1.kIn, ?_⟩) he hpl
  show wpAny _ _ (call (.ref C) us) _ _ _
  obtain ⟨hp, g, dr, tk, os⟩ := s1
  have hsz : hp.objs.size ≤ hp.objs.size + 1 := Nat.le_succ _
  have hn : H1 (hp.objs.size + 1) = none := I1.hok.fresh hsz
  have hq := q1 (hp.objs.size + 1) hn
  have kk : ∀ b o, hp.get? b = some o → ((hp.push (PySem.W.kdv_tup us)).push (PySem.HandSPX.excO C hp.objs.size)).get? b = some o := fun b o e => Heap.get?_push_of_some _ (Heap.get?_push_of_some _ e)
  have hget : ((hp.push (PySem.W.kdv_tup us)).push (PySem.HandSPX.excO C hp.objs.size)).get? (hp.objs.size + 1) = some (PySem.HandSPX.excO C hp.objs.size) := by heap_get
  have I2 : Inv X pins σ (upd H1 (hp.objs.size + 1) (exo (hp.objs.size + 1) C none)) ⟨(hp.push (PySem.W.kdv_tup us)).push (PySem.HandSPX.excO C hp.objs.size), g, dr, tk, os⟩ :=
    I1.laid (t' := tk) (a := hp.objs.size + 1) (o := exo (hp.objs.size + 1) C none) (h' := (hp.push (PySem.W.kdv_tup us)).push (PySem.HandSPX.excO C hp.objs.size)) kk hsz (exo_ok hget)
  have r2 : Vals (V.ref (hp.objs.size + 1) :: (vs ++ dvs)) (Value.ref (hp.objs.size + 1) :: (us ++ ds)) := .cons rfl (r1.append hd)
  have hl : (Value.ref (hp.objs.size + 1) :: us ++ ds).length = ps.length := by
    have e := r2.length
    rw [F1.len _ _ _ _ hq] at e
    exact e.symm
  have hus : us.length ≤ sizeLine := by
    rw [← Paired.length r1, sizeLine_eq]
    omega
  refine wpAny_call (PySem.HandSPX.call_own FB (fun Y => PySem.W.excTail_contains Y bm hbm) (I1.kIn _ _ hC) (PySem.W.looks_findIn I1.kIn iC) (fun self => PySem.W.bind_fn I1.kIn self tI) hus
    (codeAny_mono (F1.run _ X.stack _ _ ⟨Value.ref (hp.objs.size + 1) :: us, []⟩ (Value.ref (hp.objs.size + 1) :: (us ++ ds)) _ _ (fun _ _ _ => False) (hr.make C us []) (I2.env0.make C us []) (hb _ (Value.ref (hp.objs.size + 1) :: us) I2.kIn hl) r2 hq) fun r s' hq' => ?_))
  cases r with
  | error er => exact hx pins σ _ _ er s' I2 hq'
  | ok fl =>
    cases fl with
    | ret u =>
      obtain ⟨v, H2, os2, bare2, un2, hok2, rv, ev, d, fs, ea, ed, hd1, q2⟩ := hq'
      subst ev
      obtain ⟨h2, g2, d2, t2, os'⟩ := s'
      exact ⟨rv, mk_end (raises_own T.exC T.tyC) I1 hsz kk un2 hok2 os2 bare2 ea ed hd1 q2⟩
    | next => exact False.elim hq'
    | brk => exact False.elim hq'
    | cont => exact False.elim hq'
end
end Nt

namespace Nt
open PySem PySem.Spec PyProof.Rows
open L2 hiding rLen
/-! ### calls that may raise: what is let out is wished for by W -/
section
variable {X : Cx} {W : WX} {k : Nat} {f : Addr} {fd : FuncData} {ps : List Str} {sp : Sp}
theorem run_W {A' : Around} {pins : List (Addr × Obj)} {σ : L2.St} {H : Hp} {s : Shared} {Z : VK} {us : List Value} {vs : List V} {args : Args} {Q : Value → Shared → Prop} (F : FnOk X.prog X.w X.K X.mg X.base (L2.CX X.prog X.w) k f fd ps sp) (hr : Room k A') (e0 : Env0 X.prog X.w X.K X.mg X.base A' X.stack s H) (tk : Takes X W)
    (I : Inv X pins σ H s) (b : BindsTo s fd args (ps.zip us)) (r : Vals vs us) (h : sp vs H Z (WE W σ)) (q : ∀ v u H' s', Inv X pins σ H' s' → RelV v u → Z v H' → Q u s') : wpAny (model X.prog X.w) A' (PySem.call (.ref f) args.pos args.kw) Q X.xe s := by
  refine wpAny_call (codeAny_mono (F.run A' X.stack s H args us vs Z (WE W σ) hr e0 b r h) fun r s' hq => ?_)
  cases r with
  | error e => exact tk e s' (XE.of_call I (fun _ _ _ h => h) hq)
  | ok fl =>
    cases fl with
    | ret u =>
      obtain ⟨v, H', I3, rv, q3⟩ := I.after hq
      exact q v u H' s' I3 rv q3
    | next => exact False.elim hq
    | brk => exact False.elim hq
    | cont => exact False.elim hq
end
def tCallW (sp : Sp) (d : List V) (W : WX) (t : TA) : TE := fun σ H Q => t σ H fun vs H1 => sp (vs ++ d) H1 Q (WE W σ)
def tMethW (C : Addr) (m : Str) (sp : Sp) (d : List V) (W : WX) (ta : TE) (t : TA) : TE := fun σ H Q => ta σ H fun x H1 => ∃ (a dx : Addr) (fs : List (Str × V)), x = .ref a ∧ H1 a = some (.ins C dx fs) ∧ fs.lookup m = none ∧ t σ H1 fun vs H2 => sp (x :: (vs ++ d)) H2 Q (WE W σ)
def tMethKW (C : Addr) (m : Str) (n nk : Nat) (sp : Sp) (gV : List V → List V → List V) (W : WX) (ta : TE) (t tk : TA) : TE := fun σ H Q => ta σ H fun x H1 => ∃ (a dx : Addr) (fs : List (Str × V)), x = .ref a ∧ H1 a = some (.ins C dx fs) ∧ fs.lookup m = none ∧ t σ H1 fun vs H2 => tk σ H2 fun zs H3 => vs.length + 1 = n ∧ zs.length = nk ∧ sp (gV (x :: vs) zs) H3 Q (WE W σ)
def tCallNW (n m : Nat) (sp : Sp) (gV : List V → List V → List V) (W : WX) (t tk : TA) : TE := fun σ H Q => t σ H fun vs H1 => tk σ H1 fun zs H2 => vs.length = n ∧ zs.length = m ∧ sp (gV vs zs) H2 Q (WE W σ)
def tGetOW (C : Addr) (sp : Sp) (W : WX) (ta ti : TE) : TE := fun σ H Q => ta σ H fun x H1 => ti σ H1 fun y H2 => ∃ (a dx : Addr) (fs : List (Str × V)), x = .ref a ∧ H2 a = some (.ins C dx fs) ∧ sp [x, y] H2 Q (WE W σ)
def tMethRW (C : Addr) (m : Str) (sp : Sp) (W : WX) (ta : TE) (t : TA) : TE := fun σ H Q => ta σ H fun x H1 => ∃ (a dx : Addr) (fs : List (Str × V)), x = .ref a ∧ H1 a = some (.ins C dx fs) ∧ fs.lookup m = none ∧ t σ H1 fun vs H2 => sp (x :: vs) H2 Q (WE W σ)
section
variable {X : Cx} {W : WX} {k n : Nat} {x c m : Str} {ps ks : List Str} {dfl dvs : List V} {sp : Sp} {o e i : Expr} {es : List Expr} {kws : List Keyword} {ta to ti : TE} {t tk : TA} {p pos apos : Pos} {gV : List V → List V → List V}
theorem pe_dfW (j : Nat) (G : Df X.prog X.w X.K X.mg X.base k x ps dfl sp) (hr : Room k X.A) (hg : Gl X x) (ha : PA X (e :: es) t) (wk : Takes X W) (hj : j ≤ dfl.length := by decide) (hdb : (x == ("__debug__" : Str)) = false := by decide)
    (he : starEach (e :: es) X.env = (false, eval e X.env) :: starEach es X.env := by rfl) (hpl : (backTo pos (starEach es X.env)).any (·.1) = false := by rfl) :
    PE X (.Call (.Name x p) (e :: es) [] pos) (tCallW sp (dfl.drop j) W t) := by
  obtain ⟨fd, Fo, hb⟩ := G.ok
  obtain ⟨ds, hd, b⟩ := hb j hj
  refine ⟨fun pins s σ H Q I h => ?_⟩
  refine wpAny_Call_Name_kw (ld_glob I hg G.mgx ?_ hdb)
  refine PySem.W.callWith_K (h₀ := X.base) I.ok.mod.kin G.kp (thn (ha.run pos pins s σ H _ I h) fun us s1 ⟨vs, H1, I1, r, q⟩ => ⟨I1.kIn, ?_⟩) he hpl
  have r2 : Vals (vs ++ dfl.drop j) (us ++ ds) := r.append hd
  have hl : (us ++ ds).length = ps.length := by rw [← r2.length]; exact Fo.len _ _ _ _ q
  exact run_W (args := ⟨us, []⟩) Fo hr I1.env0 wk I1 (b s1 us I1.kIn hl) r2 q fun v u H' s' I' rv z => ⟨v, H', I', rv, z⟩
theorem pe_dmW {fl : List Str} (G : DfM X.prog X.w X.K X.mg X.base k c m ps dvs sp) (C : ClsF X.K c fl) (hr : Room k X.A) (he : PE X o ta) (ha : PA X (e :: es) t) (wk : Takes X W) {pl : Sem Bool}
    (hst : starEach (e :: es) X.env = (false, eval e X.env) :: starEach es X.env := by rfl) (hpl : (backTo pos (starEach es X.env)).any (·.1) = false := by rfl)
    (ht : eval (.Call (.Attribute o m apos) (e :: es) [] pos) X.env = (do
      let ov ← eval o X.env
      standAt apos.atName
      let (f, first) ← holding [ov] (getMethod ov m pl)
      callWith pos f first (backTo pos (starEach (e :: es) X.env)) (backToKw pos (keywordEach [] X.env))) := by rfl) :
    PE X (.Call (.Attribute o m apos) (e :: es) [] pos) (tMethW (He.ga X.K c) m sp dvs W ta t) := by
  obtain ⟨fd, Fo, ds, hd, b⟩ := G.ok
  refine ⟨fun pins s σ H Q I h => ?_⟩
  refine PySem.W.methodCall_KW (pl := pl) (thn (he.run pins s σ H _ I h) fun u s1 ⟨x, H1, I1, rx, a, dx, fs, ex, ea, l, q⟩ => ?_) ht
  subst ex
  obtain rfl : u = Value.ref a := rx
  refine getmeth_ok I1 ea C.cls G.meth l ?_
  refine PySem.W.callWith_K (first := [.ref a]) (h₀ := X.base) I.ok.mod.kin G.meth.kp (thn (ha.run pos pins s1 σ H1 _ I1 q) fun us s2 ⟨vs, H2, I2, r, q2⟩ => ⟨I2.kIn, ?_⟩) hst hpl
  have r2 : Vals (V.ref a :: (vs ++ dvs)) (Value.ref a :: (us ++ ds)) := .cons rfl (r.append hd)
  have hl : (Value.ref a :: us ++ ds).length = ps.length := by
    have := r2.length
    rw [Fo.len _ _ _ _ q2] at this
    exact this.symm
  exact run_W (args := ⟨.ref a :: us, []⟩) Fo hr I2.env0 wk I2 (b s2 (.ref a :: us) I2.kIn hl) r2 q2 fun v u H' s' I' rv z => ⟨v, H', I', rv, z⟩
theorem pe_dm0W {fl : List Str} (G : DfM X.prog X.w X.K X.mg X.base k c m ps dvs sp) (C : ClsF X.K c fl) (hr : Room k X.A) (he : PE X o ta) (wk : Takes X W) {pl : Sem Bool}
    (ht : eval (.Call (.Attribute o m apos) [] [] pos) X.env = (do
      let ov ← eval o X.env
      standAt apos.atName
      let (f, first) ← holding [ov] (getMethod ov m pl)
      callWith pos f first (backTo pos (starEach [] X.env)) (backToKw pos (keywordEach [] X.env))) := by rfl) :
    PE X (.Call (.Attribute o m apos) [] [] pos) (tMethW (He.ga X.K c) m sp dvs W ta tNil) := by
  obtain ⟨fd, Fo, ds, hd, b⟩ := G.ok
  refine ⟨fun pins s σ H Q I h => ?_⟩
  refine PySem.W.methodCall_KW (pl := pl) (thn (he.run pins s σ H _ I h) fun u s1 ⟨x, H1, I1, rx, a, dx, fs, ex, ea, l, q⟩ => ?_) ht
  subst ex
  obtain rfl : u = Value.ref a := rx
  refine getmeth_ok I1 ea C.cls G.meth l ?_
  refine PySem.W.callWith_K0 I1.kIn G.meth.kp ?_
  have r2 : Vals (V.ref a :: ([] ++ dvs)) (Value.ref a :: ([] ++ ds)) := .cons rfl hd
  have hl : ([Value.ref a] ++ ds).length = ps.length := by
    have := r2.length
    rw [Fo.len _ _ _ _ q] at this
    exact this.symm
  exact run_W (args := ⟨[.ref a], []⟩) Fo hr I1.env0 wk I1 (b s1 [.ref a] I1.kIn hl) r2 q fun v u H' s' I' rv z => ⟨v, H', I', rv, z⟩
theorem run_NW {pins : List (Addr × Obj)} {σ : L2.St} {H : Hp} {s : Shared} {Q : VK} {f : Addr} {fd : FuncData} {g : List Value → List Value → List Value} {us ws : List Value} {vs zs : List V} (F : FnOk X.prog X.w X.K X.mg X.base (L2.CX X.prog X.w) k f fd ps sp) (hr : Room k X.A) (hb : KBn X.K fd ps n ks g gV) (wk : Takes X W)
    (I : Inv X pins σ H s) (r : Vals vs us) (rz : Vals zs ws) (l1 : vs.length = n) (l2 : zs.length = ks.length) (h : sp (gV vs zs) H Q (WE W σ)) : wpAny (model X.prog X.w) X.A (PySem.call (.ref f) us (ks.zip ws)) (EP X pins σ Q) X.xe s :=
  run_W (args := ⟨us, ks.zip ws⟩) F hr I.env0 wk I (hb.to s us ws I.kIn (r.length.symm.trans l1) (rz.length.symm.trans l2)) (hb.rel r rz) h fun v u H' s' I' rv z => ⟨v, H', I', rv, z⟩
theorem pe_dk0W {fl : List Str} {nk : Nat} (G : DfK X.prog X.w X.K X.mg X.base k c m ps n ks gV sp) (C : ClsF X.K c fl) (hr : Room k X.A) (he : PE X o ta) (hkw : PK X kws tk) (wk : Takes X W) {pl : Sem Bool}
    (ht : eval (.Call (.Attribute o m apos) [] kws pos) X.env = (do
      let ov ← eval o X.env
      standAt apos.atName
      let (f, first) ← holding [ov] (getMethod ov m pl)
      callWith pos f first (backTo pos (starEach [] X.env)) (backToKw pos (keywordEach kws X.env))) := by rfl)
    (hall : (backToKw pos (keywordEach kws X.env)).all (·.1.isSome) = true := by rfl) (hks : (backToKw pos (keywordEach kws X.env)).filterMap (·.1) = ks := by rfl)
    (hpl : ((backTo pos (starEach [] X.env)).any (·.1) || (backToKw pos (keywordEach kws X.env)).any (·.1.isNone)) = false := by rfl) (hnk : ks.length = nk := by rfl) :
    PE X (.Call (.Attribute o m apos) [] kws pos) (tMethKW (He.ga X.K c) m n nk sp gV W ta tNil tk) := by
  subst hnk
  obtain ⟨fd, Fo, g, b⟩ := G.ok
  refine ⟨fun pins s σ H Q I h => ?_⟩
  refine PySem.W.methodCall_KW (pl := pl) (thn (he.run pins s σ H _ I h) fun u s1 ⟨x, H1, I1, rx, a, dx, fs, ex, ea, l, q⟩ => ?_) ht
  subst ex
  obtain rfl : u = Value.ref a := rx
  refine getmeth_ok I1 ea C.cls G.meth l ?_
  refine PySem.W.callWith_KW0 (first := [.ref a]) (h₀ := X.base) I.ok.mod.kin G.meth.kp hall (thn (hkw.run pos pins s1 σ H1 _ I1 q) fun ws s2 ⟨zs, H2, I2, rz, l1, l2, q2⟩ => ⟨I2.kIn, ?_⟩) hpl
  rw [hks]
  exact run_NW (us := [.ref a]) (vs := [.ref a]) Fo hr b wk I2 (.cons rfl .nil) rz l1 l2 q2
theorem pe_dkW {fl : List Str} {nk : Nat} (G : DfK X.prog X.w X.K X.mg X.base k c m ps n ks gV sp) (C : ClsF X.K c fl) (hr : Room k X.A) (he : PE X o ta) (ha : PA X (e :: es) t) (hkw : PK X kws tk) (wk : Takes X W) {pl : Sem Bool}
    (ht : eval (.Call (.Attribute o m apos) (e :: es) kws pos) X.env = (do
      let ov ← eval o X.env
      standAt apos.atName
      let (f, first) ← holding [ov] (getMethod ov m pl)
      callWith pos f first (backTo pos (starEach (e :: es) X.env)) (backToKw pos (keywordEach kws X.env))) := by rfl)
    (hall : (backToKw pos (keywordEach kws X.env)).all (·.1.isSome) = true := by rfl) (hks : (backToKw pos (keywordEach kws X.env)).filterMap (·.1) = ks := by rfl)
    (hst : starEach (e :: es) X.env = (false, eval e X.env) :: starEach es X.env := by rfl)
    (hpl : ((backTo pos (starEach (e :: es) X.env)).any (·.1) || (backToKw pos (keywordEach kws X.env)).any (·.1.isNone)) = false := by rfl) (hnk : ks.length = nk := by rfl) :
    PE X (.Call (.Attribute o m apos) (e :: es) kws pos) (tMethKW (He.ga X.K c) m n nk sp gV W ta t tk) := by
  subst hnk
  obtain ⟨fd, Fo, g, b⟩ := G.ok
  refine ⟨fun pins s σ H Q I h => ?_⟩
  refine PySem.W.methodCall_KW (pl := pl) (thn (he.run pins s σ H _ I h) fun u s1 ⟨x, H1, I1, rx, a, dx, fs, ex, ea, l, q⟩ => ?_) ht
  subst ex
  obtain rfl : u = Value.ref a := rx
  refine getmeth_ok I1 ea C.cls G.meth l ?_
  refine PySem.W.callWith_KW (first := [.ref a]) (h₀ := X.base) I.ok.mod.kin G.meth.kp hall (thn (ha.run pos pins s1 σ H1 _ I1 q) fun us s2 ⟨vs, H2, I2, r, q2⟩ => ?_) hpl hst
  refine thn (hkw.run pos pins s2 σ H2 _ I2 q2) fun ws s3 ⟨zs, H3, I3, rz, l1, l2, q3⟩ => ⟨I3.kIn, ?_⟩
  rw [hks]
  exact run_NW (us := .ref a :: us) (vs := .ref a :: vs) Fo hr b wk I3 (.cons rfl r) rz l1 l2 q3
theorem pe_dnW {nk : Nat} (G : DfN X.prog X.w X.K X.mg X.base k x ps n ks gV sp) (hr : Room k X.A) (hg : Gl X x) (ha : PA X (e :: es) t) (hkw : PK X kws tk) (wk : Takes X W) (hall : (backToKw pos (keywordEach kws X.env)).all (·.1.isSome) = true := by rfl) (hks : (backToKw pos (keywordEach kws X.env)).filterMap (·.1) = ks := by rfl)
    (hdb : (x == ("__debug__" : Str)) = false := by decide) (he : starEach (e :: es) X.env = (false, eval e X.env) :: starEach es X.env := by rfl)
    (hpl : ((backTo pos (starEach (e :: es) X.env)).any (·.1) || (backToKw pos (keywordEach kws X.env)).any (·.1.isNone)) = false := by rfl) (hnk : ks.length = nk := by rfl) :
    PE X (.Call (.Name x p) (e :: es) kws pos) (tCallNW n nk sp gV W t tk) := by
  subst hnk
  obtain ⟨fd, Fo, g, b⟩ := G.ok
  refine ⟨fun pins s σ H Q I h => ?_⟩
  refine wpAny_Call_Name_kw (ld_glob I hg G.mgx ?_ hdb)
  refine PySem.W.callWith_KW (h₀ := X.base) I.ok.mod.kin G.kp hall (thn (ha.run pos pins s σ H _ I h) fun us s1 ⟨vs, H1, I1, r, q⟩ => ?_) hpl he
  refine thn (hkw.run pos pins s1 σ H1 _ I1 q) fun ws s2 ⟨zs, H2, I2, rz, l1, l2, q2⟩ => ⟨I2.kIn, ?_⟩
  rw [hks]
  exact run_NW Fo hr b wk I2 r rz l1 l2 q2
theorem pe_dn0W {nk : Nat} (G : DfN X.prog X.w X.K X.mg X.base k x ps n ks gV sp) (hr : Room k X.A) (hg : Gl X x) (hkw : PK X kws tk) (wk : Takes X W) (hall : (backToKw pos (keywordEach kws X.env)).all (·.1.isSome) = true := by rfl) (hks : (backToKw pos (keywordEach kws X.env)).filterMap (·.1) = ks := by rfl)
    (hdb : (x == ("__debug__" : Str)) = false := by decide)
    (hpl : ((backTo pos (starEach [] X.env)).any (·.1) || (backToKw pos (keywordEach kws X.env)).any (·.1.isNone)) = false := by rfl) (hnk : ks.length = nk := by rfl) :
    PE X (.Call (.Name x p) [] kws pos) (tCallNW n nk sp gV W tNil tk) := by
  subst hnk
  obtain ⟨fd, Fo, g, b⟩ := G.ok
  refine ⟨fun pins s σ H Q I h => ?_⟩
  refine wpAny_Call_Name_kw (ld_glob I hg G.mgx ?_ hdb)
  refine PySem.W.callWith_KW0 (first := []) (h₀ := X.base) I.ok.mod.kin G.kp hall (thn (hkw.run pos pins s σ H _ I h) fun ws s2 ⟨zs, H2, I2, rz, l1, l2, q2⟩ => ⟨I2.kIn, ?_⟩) hpl
  rw [hks]
  exact run_NW (us := []) (vs := []) Fo hr b wk I2 .nil rz l1 l2 q2
theorem pe_getDW (G : DfG X.prog X.w X.K X.mg X.base k c ps sp) (hr : Room (k + 1) X.A) (ho : PE X o to) (hi : PE X i ti) (wk : Takes X W)
    (hsl : ∀ x u, subscripted i true (.ref x) u = runValue (.builtin "lifetime.subscript" ⟨[.ref x, u], []⟩) := by intro _ _; with_unfolding_all rfl) :
    PE X (.Subscript o i pos) (tGetOW (He.ga X.K c) sp W to ti) := by
  obtain ⟨fd, Fo, hb⟩ := G.ok
  refine ⟨fun pins s σ H Q I h => ?_⟩
  refine Subscript_ (thn (ho.run pins s σ H _ I h) fun v s1 ⟨x, H1, I1, r1, q1⟩ => ?_)
  refine thn (hi.run pins s1 σ H1 _ I1 q1) fun u s2 ⟨y, H2, I2, r2, a, dx, fs, ex, e, q⟩ => ?_
  subst ex
  obtain rfl : v = Value.ref a := r1
  obtain ⟨ox, od, J⟩ := ins_at I2 e
  obtain ⟨m, hF⟩ := I2.fr
  refine PySem.W.sub_K hF I2.ok.mod.kin J G.meth.at_ G.fn G.meth.fn ?_ (hsl a u)
  have r3 : Vals [V.ref a, y] [Value.ref a, u] := .cons rfl (.cons r2 .nil)
  have hl : [Value.ref a, u].length = ps.length := by
    have := r3.length
    rw [Fo.len _ _ _ _ q] at this
    exact this.symm
  have b := hb s2 [.ref a, u] I2.kIn (by rw [List.append_nil]; exact hl)
  rw [List.append_nil] at b
  exact run_W (args := ⟨[.ref a, u], []⟩) Fo hr.in1 I2.env0.in1 wk I2 b r3 q fun v u H' s' I' rv z => ⟨v, H', I', rv, z⟩
end
/-! ### an own exception class -/
structure AtE (K : PySem.W.Frag) (mg : Str → Option Value) (c q : Str) (st : Stmt) (ps : List Str) : Prop where
  mgx : mg c = some (.ref (He.ga K c))
  oex : OexG K (He.ga K c)
  iC : PySem.W.findIn K (.ref (He.ga K c)) "__init__" = some (some (.ref (He.ma K (He.ga K c) "__init__")))
  tI : PySem.W.typeIn K (.ref (He.ma K (He.ga K c) "__init__")) = some (.type "function")
  ex : ∃ fd dfl kws, FunD K "__init__" q (defArgs st) (defBody st) (defScope st) dfl kws (He.ma K (He.ga K c) "__init__") fd ∧ Binds K fd ps []
structure DfE (P : Program) (w : World) (K : PySem.W.Frag) (mg : Str → Option Value) (base : Heap) (k : Nat) (c : Str) (ps : List Str) (sp : Sp) : Prop where
  mgx : mg c = some (.ref (He.ga K c))
  oex : OexG K (He.ga K c)
  iC : PySem.W.findIn K (.ref (He.ga K c)) "__init__" = some (some (.ref (He.ma K (He.ga K c) "__init__")))
  tI : PySem.W.typeIn K (.ref (He.ma K (He.ga K c) "__init__")) = some (.type "function")
  ok : ∃ fd, FnOk P w K mg base (L2.CX P w) k (He.ma K (He.ga K c) "__init__") fd ps sp ∧ Binds K fd ps []
theorem Bok.de {P : Program} {w : World} {K : PySem.W.Frag} {mg : Str → Option Value} {base : Heap} {k : Nat} {c q : Str} {ps : List Str} {sp : Sp} {st : Stmt} (b : Bok P w K mg base k q st ps sp) (F : AtE K mg c q st ps) : DfE P w K mg base k c ps sp := by
  obtain ⟨fd, dfl, kws, F1, F2⟩ := F.ex
  exact ⟨F.mgx, F.oex, F.iC, F.tI, fd, b F1, F2⟩
/-- a class that is caught, and its fields read -/
structure ClsX (K : PySem.W.Frag) (mg : Str → Option Value) (c : Str) (fl : List Str) : Prop where
  mgx : mg c = some (.ref (He.ga K c))
  xf : XfC K (He.ga K c)
  na : ∀ f ∈ fl, PySem.W.findIn K (.ref (He.ga K c)) f = some none
def tRaise (C : Addr) (sp : Sp) (W : WX) (t : TA) : TS := fun _ σ H => tMkO C sp [] t σ H fun cls d H' => W cls d σ H'
section
variable {X : Cx} {W : WX} {k : Nat} {c : Str} {ps : List Str} {sp : Sp} {e : Expr} {es : List Expr} {t : TA} {p pos pos' : Pos}
theorem ps_raiseE (G : DfE X.prog X.w X.K X.mg X.base k c ps sp) (hr : Room (k + 1) X.A) (hg : Gl X c) (ha : PA X (e :: es) t) (wk : Takes X W) (hc : X.calm = true := by rfl)
    (hdb : (c == ("__debug__" : Str)) = false := by decide) (he : starEach (e :: es) X.env = (false, eval e X.env) :: starEach es X.env := by rfl) (hpl : (backTo pos (starEach es X.env)).any (·.1) = false := by rfl) :
    PS X (.Raise (some (.Call (.Name c p) (e :: es) [] pos)) none pos') (tRaise (He.ga X.K c) sp W t) := by
  obtain ⟨fd, Fo, b⟩ := G.ok
  exact ps_raise hc wk (pmkG G.oex G.iC G.tI Fo hr b .nil passL hg G.mgx ha hdb he hpl)
theorem names_of {c : Str} {fl : List Str} (N : ClsX X.K X.mg c fl) (hg : Gl X c) (hd : (c == ("__debug__" : Str)) = false := by decide) : Names X c (.ref (He.ga X.K c)) := ⟨hg, hd, .inl N.mgx⟩
end
/-- try: tb, except c as e: ts -/
def tTryAs (K : PySem.W.Frag) (c : Value) (i : Nat) (tb : WX → TS) (ts : Addr → Value → Option Addr → TS) (Wout : WX) : TS := fun D σ H => tb (wAs K c i ts Wout D) D σ H
theorem sx_tryAs {K : PySem.W.Frag} {c : Value} {i : Nat} {tb : WX → TS} {ts : Addr → Value → Option Addr → TS} {Wout : WX} {D : Ends} {σ : L2.St} {H : Hp} (h : tb (wAs K c i ts Wout D) D σ H) : tTryAs K c i tb ts Wout D σ H := h
section
variable {C f : Addr} {m : Str} {n nk : Nat} {sp : Sp} {d : List V} {W : WX} {t tk : TA} {ta ti : TE} {σ : L2.St} {H : Hp} {Q : VK} {gV : List V → List V → List V} {E : Ends}
theorem sx_callW (h : t σ H fun vs H1 => sp (vs ++ d) H1 Q (WE W σ)) : tCallW sp d W t σ H Q := h
theorem sx_methW (h : ta σ H fun x H1 => ∃ (a dx : Addr) (fs : List (Str × V)), x = .ref a ∧ H1 a = some (.ins C dx fs) ∧ fs.lookup m = none ∧ t σ H1 fun vs H2 => sp (x :: (vs ++ d)) H2 Q (WE W σ)) : tMethW C m sp d W ta t σ H Q := h
theorem sx_methKW (h : ta σ H fun x H1 => ∃ (a dx : Addr) (fs : List (Str × V)), x = .ref a ∧ H1 a = some (.ins C dx fs) ∧ fs.lookup m = none ∧ t σ H1 fun vs H2 => tk σ H2 fun zs H3 => vs.length + 1 = n ∧ zs.length = nk ∧ sp (gV (x :: vs) zs) H3 Q (WE W σ)) : tMethKW C m n nk sp gV W ta t tk σ H Q := h
theorem sx_callNW (h : t σ H fun vs H1 => tk σ H1 fun zs H2 => vs.length = n ∧ zs.length = nk ∧ sp (gV vs zs) H2 Q (WE W σ)) : tCallNW n nk sp gV W t tk σ H Q := h
theorem sx_getOW (h : ta σ H fun x H1 => ti σ H1 fun y H2 => ∃ (a dx : Addr) (fs : List (Str × V)), x = .ref a ∧ H2 a = some (.ins C dx fs) ∧ sp [x, y] H2 Q (WE W σ)) : tGetOW C sp W ta ti σ H Q := h
theorem sx_raise (h : t σ H fun vs H1 => vs.length ≤ 1000 ∧ ∀ a, H1 a = none → sp (.ref a :: (vs ++ [])) (upd H1 a (exo a C none))
  (fun v H2 => v = .non ∧ ∃ (d : Addr) (fs : List (Str × V)), H2 a = some (exo a C (some d)) ∧ H2 d = some (exd d fs) ∧ H1 d = none ∧ W (.ref C) (some d) σ (upd (del H2 a) d (.xd fs))) (fun _ _ _ => False)) : tRaise C sp W t E σ H := h
end
end Nt

namespace Nt
open PySem PySem.Spec PyProof.Rows
open L2 hiding rLen
/-! ### == that serves dicts, too -/
def rEqK (K : PySem.W.Frag) : R2 := fun x y H Q => rEqU K x y H Q ∨ rEqDA x y H Q
theorem op_eqK {X : Cx} (hu : X.A.units + 64 < cLine) : OpR X (compareOp .Eq) (rEqK X.K) := (op_eqU hu).or (op_eq_dictA (by omega))
end Nt

namespace Nt
open PySem PySem.Spec PyProof.Rows
open L2 hiding rLen
/-- an own exception class: it is made, it is caught by its own name -/
structure ClsY (K : PySem.W.Frag) (c : Str) (fl : List Str) : Prop where
  oex : OexG K (He.ga K c)
  exm : PySem.W.exmOne K (.ref (He.ga K c)) (.ref (He.ga K c)) = some true
  na : ∀ f ∈ fl, PySem.W.findIn K (.ref (He.ga K c)) f = some none
/-- what the own `__init__` of an exception keeps: the fields are stored -/
def spXI (K : PySem.W.Frag) (c : Str) (n : Nat) (fo : List V → List (Str × V)) : Sp := fun vs H Q _ => ∃ (a : Addr) (us : List V), vs = .ref a :: us ∧ us.length = n ∧ H a = some (exo a (He.ga K c) none) ∧
  ∀ dx H', H dx = none → dx ≠ a → H' dx = some (exd dx (fo us)) → H' a = some (exo a (He.ga K c) (some dx)) → (∀ b, b ≠ dx → b ≠ a → H' b = H b) → Q .non H'
theorem raise_X {K : PySem.W.Frag} {c : Str} {n : Nat} {fo : List V → List (Str × V)} {W : WX} {σ : L2.St} {H1 : Hp} {vs : List V} {E : XK} (hl : vs.length = n) (hn : n ≤ 1000) (h : ∀ d, H1 d = none → W (.ref (He.ga K c)) (some d) σ (upd H1 d (.xd (fo vs)))) :
    vs.length ≤ 1000 ∧ ∀ a, H1 a = none → spXI K c n fo (.ref a :: (vs ++ [])) (upd H1 a (exo a (He.ga K c) none))
      (fun v H2 => v = .non ∧ ∃ (d : Addr) (fs : List (Str × V)), H2 a = some (exo a (He.ga K c) (some d)) ∧ H2 d = some (exd d fs) ∧ H1 d = none ∧ W (.ref (He.ga K c)) (some d) σ (upd (del H2 a) d (.xd fs))) E := by
  refine ⟨by omega, fun a ha => ⟨a, vs, by rw [List.append_nil], hl, by simp [upd], fun dx H2 hd ne h1 h2 h3 => ⟨rfl, dx, fo vs, h2, h1, ?_, ?_⟩⟩⟩
  · simpa [upd, ne] using hd
  · have hd1 : H1 dx = none := by simpa [upd, ne] using hd
    have e : upd (del H2 a) dx (.xd (fo vs)) = upd H1 dx (.xd (fo vs)) := by
      funext b
      by_cases e1 : b = dx
      · simp [upd, e1]
      · by_cases e2 : b = a
        · subst e2
          simp [upd, del, e1, ha]
        · have := h3 b e1 e2
          simp [upd, e2] at this
          simp [upd, del, e1, e2, this]
    rw [e]
    exact h dx hd1
/-- what an exception that is let out tells: its class, its fields -/
def Xc (K : PySem.W.Frag) (c : Str) (fl : List (Str × V)) (M : Addr → Prop) (I : Hp → Prop) (H : Hp) (E : XK) : Prop :=
  ∀ (d : Addr) (fs : List (Str × V)) (H' : Hp), H' d = some (.xd fs) → (∀ p ∈ fl, fs.lookup p.1 = some p.2) → Ex M H H' → I H' → E (.ref (He.ga K c)) (some d) H'
theorem Xc.ex {K : PySem.W.Frag} {c : Str} {fl : List (Str × V)} {M : Addr → Prop} {I : Hp → Prop} {H H1 : Hp} {E : XK} (h : Xc K c fl M I H E) (e : Ex M H H1) : Xc K c fl M I H1 E := fun d fs H' h1 h2 e2 i2 => h d fs H' h1 h2 (e.trans e2) i2
theorem raise_E {K : PySem.W.Frag} {c : Str} {n : Nat} {fo : List V → List (Str × V)} {fl : List (Str × V)} {M : Addr → Prop} {I : Hp → Prop} {W : WX} {σ : L2.St} {H1 : Hp} {vs : List V} {E E' : XK} (hw : Wf M I) (hI : I H1) (hl : vs.length = n) (hn : n ≤ 1000) (hf : ∀ p ∈ fl, (fo vs).lookup p.1 = some p.2) (h : Xc K c fl M I H1 E')
    (hW : ∀ cl d H', E' cl d H' → W cl d σ H') :
    vs.length ≤ 1000 ∧ ∀ a, H1 a = none → spXI K c n fo (.ref a :: (vs ++ [])) (upd H1 a (exo a (He.ga K c) none))
      (fun v H2 => v = .non ∧ ∃ (d : Addr) (fs : List (Str × V)), H2 a = some (exo a (He.ga K c) (some d)) ∧ H2 d = some (exd d fs) ∧ H1 d = none ∧ W (.ref (He.ga K c)) (some d) σ (upd (del H2 a) d (.xd fs))) E :=
  raise_X hl hn fun d hd => hW _ _ _ (h d _ _ (by simp [upd]) hf (Ex.of (same_upd hd)) (hw.same (same_upd hd) hI))
/-- the stores of the own `__init__` -/
theorem ost_first {K : PySem.W.Frag} {f : Str} {a C : Addr} {y : V} {D : Ends} {σ : L2.St} {H : Hp} (X : OexG K C) (na : PySem.W.findIn K (.ref C) f = some none) (e : H a = some (exo a C none)) (q : ∀ dx, H dx = none → dx ≠ a → D.nx σ (upd (upd H dx (exd dx [(f, y)])) a (exo a C (some dx)))) :
    ∃ b C' : Addr, V.ref a = .ref b ∧ OexG K C' ∧ PySem.W.findIn K (.ref C') f = some none ∧ ((H b = some (exo b C' none) ∧ ∀ dx, H dx = none → dx ≠ b → D.nx σ (upd (upd H dx (exd dx [(f, y)])) b (exo b C' (some dx)))) ∨
      ∃ (dx : Addr) (fs : List (Str × V)), H b = some (exo b C' (some dx)) ∧ H dx = some (exd dx fs) ∧ fs.length ≤ 900 ∧ D.nx σ (upd H dx (exd dx ((f, y) :: fs)))) :=
  ⟨a, C, rfl, X, na, .inl ⟨e, q⟩⟩
theorem ost_next {K : PySem.W.Frag} {f : Str} {a C dx : Addr} {y : V} {fs : List (Str × V)} {D : Ends} {σ : L2.St} {H : Hp} (X : OexG K C) (na : PySem.W.findIn K (.ref C) f = some none) (e : H a = some (exo a C (some dx))) (ed : H dx = some (exd dx fs)) (hl : fs.length ≤ 900) (q : D.nx σ (upd H dx (exd dx ((f, y) :: fs)))) :
    ∃ b C' : Addr, V.ref a = .ref b ∧ OexG K C' ∧ PySem.W.findIn K (.ref C') f = some none ∧ ((H b = some (exo b C' none) ∧ ∀ dx, H dx = none → dx ≠ b → D.nx σ (upd (upd H dx (exd dx [(f, y)])) b (exo b C' (some dx)))) ∨
      ∃ (dx : Addr) (fs : List (Str × V)), H b = some (exo b C' (some dx)) ∧ H dx = some (exd dx fs) ∧ fs.length ≤ 900 ∧ D.nx σ (upd H dx (exd dx ((f, y) :: fs)))) :=
  ⟨a, C, rfl, X, na, .inr ⟨dx, fs, e, ed, hl, q⟩⟩
end Nt

/-! several clauses `except C as e`, one behind another -/
namespace Nt
open PySem PySem.Spec PyProof.Rows
open L2 hiding rLen
/-- an error of the one class is none of the other -/
def exnB (c d : Str) : PySem.W.Frag → Bool := fun K => decide (PySem.W.exmOne K (.ref (He.ga K c)) (.ref (He.ga K d)) = some false)
structure ExN (K : PySem.W.Frag) (c d : Str) : Prop where
  no : PySem.W.exmOne K (.ref (He.ga K c)) (.ref (He.ga K d)) = some false
theorem exn_ok {K : PySem.W.Frag} {c d : Str} (h : (FaX.any (exnB c d)).ok K = true) : ExN K c d := ⟨of_decide_eq_true h⟩
/-- the default of a parameter is the empty tuple -/
def emT (c m : Str) : PySem.W.Frag → Bool := fun K => match K.lookup (He.dflAt (c, some m) 0 K) with
  | some ⟨.type t, _, .seq its _, _⟩ => decide (t = "tuple") && its.toList.isEmpty
  | _ => false
structure EmT (K : PySem.W.Frag) (c m : Str) : Prop where
  sq : ∀ H, SqT K H (He.dflAt (c, some m) 0 K) []
theorem emT_ok {K : PySem.W.Frag} {c m : Str} (h : (FaX.any (emT c m)).ok K = true) : EmT K c m := by
  have h : emT c m K = true := h
  unfold emT at h
  split at h
  · rename_i t od its n sl hl
    obtain ⟨h1, h2⟩ := He.ba h
    have e : its.toList = [] := by
      cases hi : its.toList with
      | nil => rfl
      | cons a l => rw [hi] at h2; cases h2
    refine ⟨fun H => .inr ⟨_, its, n, hl, congrArg Value.type (of_decide_eq_true h1), rfl, ?_, ?_⟩⟩
    · rw [← Array.length_toList, e]; decide
    · rw [e]; exact .nil
  · cases h
abbrev AsC := Value × Nat × (Addr → Value → Option Addr → TS)
def rMin2 : List V → Hp → VK → Prop := fun xs H Q => ∃ i j, xs = [.int i, .int j] ∧ Q (.int (if j < i then j else i)) H
theorem call_minU {X : Cx} (hc : X.calm = true) : CallR X (.builtin "min") rMin2 := call_min2 hc
/-- what the clauses wish, one behind another: none takes it, then it goes on outward -/
def wAsM (K : PySem.W.Frag) (Wout : WX) (D : Ends) : List AsC → WX
  | [] => Wout
  | p :: r => wAs K p.1 p.2.1 p.2.2 (wAsM K Wout D r) D
inductive AsOk (X : Cx) : List ExceptHandler → List AsC → Prop
  | nil : AsOk X [] []
  | cons {x n : Str} {c : Value} {i : Nat} {ts : Addr → Value → Option Addr → TS} {b₀ : Stmt} {suite : List Stmt} {np pos' : Pos} {hds : List ExceptHandler} {l : List AsC} (hi : X.N[i]? = some n) (hln : X.env.kindOf n = some .local) (hc : Names X x c)
      (hsu : ∀ (a : Addr) (oe : Obj) (cls : Value) (d : Option Addr) (pn : List (Addr × Obj)), Zc cls d oe → (∃ vs, oe.data = .fields vs) → PSs (X.suite a ((a, oe) :: pn)) (b₀ :: suite) (ts a cls d)) (r : AsOk X hds l) :
      AsOk X (.ExceptHandler (some (.Name x np)) (some n) (b₀ :: suite) pos' :: hds) ((c, i, ts) :: l)
/-- try: tb, the clauses l -/
def tTryM (K : PySem.W.Frag) (l : List AsC) (tb : WX → TS) (Wout : WX) : TS := fun D σ H => tb (wAsM K Wout D l) D σ H
theorem sx_tryM {K : PySem.W.Frag} {l : List AsC} {tb : WX → TS} {Wout : WX} {D : Ends} {σ : L2.St} {H : Hp} (h : tb (wAsM K Wout D l) D σ H) : tTryM K l tb Wout D σ H := h
theorem ps_tryM {X : Cx} {body : List Stmt} {h₀ : ExceptHandler} {hds : List ExceptHandler} {l : List AsC} {pos : Pos} {tb : WX → TS} {Wout : WX} (hs : X.stack = X.env :: X.outer) (hf : X.env.frame = some X.env.locals) (hN : X.N.Nodup) (tk : Takes X Wout)
    (hb : ∀ (W : WX) (pn : List (Addr × Obj)) (xe : Value → Shared → Prop), Takes (X.tr pn xe) W → PassesOwn (model X.prog X.w) X.A X.env xe → PSs (X.tr pn xe) body (tb W)) (hh : AsOk X (h₀ :: hds) l) : PS X (.Try body (h₀ :: hds) [] [] pos) (tTryM X.K l tb Wout) := by
  refine ⟨fun pins s σ H D I h => ?_⟩
  have ok := I.ok
  have hfr : X.A.frames = some (X.env :: X.outer) := by rw [ok.frames, hs]
  refine wpAny_Try_except ?_
  refine wpAny_mono ((hb (wAsM X.K Wout D l) (X.pn ++ pins) (fun e s₁ => wpAny (model X.prog X.w) X.A (noteFrame e X.env) (fun _ s₂ => wpAny (model X.prog X.w) X.A (setFlight e none) (fun _ s₃ =>
    wpAny (model X.prog X.w) X.A (handleBy e X.env (h₀ :: hds)) (SP X pins D) X.xe s₃) X.xe s₂) X.xe s₁) (fun u s' xx => ?_) PassesOwn.looking).run [] s σ H D (I.toTry _) h) (fun f s1 hsp => ?_) fun e s1 he => he
  · obtain ⟨a, B, sI, pins', σ', H', cls, d, rfl, J', nb, up, sky, na, os, ag, w⟩ := xx
    have J : Inv X pins σ' H' sI := J'.ofTry ok
    have sky' : Sky B (X.env :: X.outer) a (Zc cls d) X.env.locals s'.heap := by rw [← hs]; exact sky
    show wpAny (model X.prog X.w) X.A (noteFrame (.ref a) X.env) _ _ _
    refine Sky.land Zc.steady hfr hf sky' fun h3 fl3 up3 => ?_
    have J3 : Inv X pins σ' H' { s' with heap := h3 } := J.landed nb fl3.1 (up.trans up3) os ag
    obtain ⟨oe3, vs3, he3, hz3, hd3⟩ := fl3.there
    have off : a ∉ frs (X.env :: X.outer) := fun hm => by
      obtain ⟨_, o', e', hnf⟩ := fl3.2.2.1.mem hm
      rw [he3] at e'; cases e'
      exact hnf _ hd3
    have nL : a ≠ X.env.locals := fun z => off (List.mem_filterMap.mpr ⟨X.env, List.mem_cons_self, by rw [hf, z]⟩)
    have nF : a ∉ X.fs := fun hm => by
      obtain ⟨e, he, q⟩ := List.mem_filterMap.mp hm
      exact off (List.mem_filterMap.mpr ⟨e, List.mem_cons_of_mem _ he, q⟩)
    have S3 := J3.suite he3 hd3 na nL nF
    clear h
    have each : ∀ {hl : List ExceptHandler} {cl : List AsC}, AsOk X hl cl → wAsM X.K Wout D cl cls d σ' H' → wpAny (model X.prog X.w) X.A (handleBy (.ref a) X.env hl) (SP X pins D) X.xe { s' with heap := h3 } := by
      intro hl cl hk
      induction hk with
      | nil =>
        intro w
        refine wpAny_handleBy_nil ?_
        obtain ⟨k1, k2, k3, oe, vs, T, oT, ts', he, hz, hd, h1, hr⟩ := id fl3
        unfold PySem.passOn
        refine wpAny_bind (wpAny_field he hd h1 ?_)
        rw [if_neg (show ¬ ((Value.ref T == Value.none) = true) from by simp)]
        have fin : wpAny (model X.prog X.w) X.A (setFlight (.ref a) X.env.frame) (fun _ s4 => wpAny (model X.prog X.w) X.A (throw (.ref a) : Sem Flow) (SP X pins D) X.xe s4) X.xe { s' with heap := h3 } := by
          rw [hf]
          exact HandSPX.setFlight_upZ fl3 fun h4 hh4 up4 => wpAny_throw (tk _ _ ⟨a, B, sI, pins, σ', H', cls, d, rfl, J, nb, (up.trans up3).trans up4, .inr (.inr (by rw [hs]; exact hh4)), na, os, ag, w⟩)
        first
          | exact wpAny_bind (wpAny_pure (wpAny_bind fin))
          | exact wpAny_bind fin
      | @cons x n c i ts b₀ suite np pos' hds2 l2 hi hln hc hsu r ih =>
        rintro ⟨b, hb1, yes, no⟩
        refine wpAny_handleBy_cons (codeAny_handlers_test ?_) (by intro q; cases q)
        have LM := PySem.W.exm_one (M := model X.prog X.w) J3.kIn (fun A Q E s k q => wpAny_typeOf_ref (k _ _ he3) (by rw [hz3.1]; exact q)) hb1
        have test : ∀ {Q : Value → Shared → Prop} {E : Value → Shared → Prop}, Q c { s' with heap := h3 } → wpAny (model X.prog X.w) (X.A.mark (some (.ref a))) (eval (.Name x np) X.env) Q E { s' with heap := h3 } := fun {Q E} q => by
          obtain ⟨hg, hdbg, hm | ⟨hm, hv, hnn⟩⟩ := hc
          · exact ld_glob (X := X.suite a ((a, oe3) :: (X.pn ++ pins))) S3 hg hm q hdbg
          · exact ld_blt (X := X.suite a ((a, oe3) :: (X.pn ++ pins))) S3 hg hm hv q hnn hdbg
        refine test (LM.here ?_)
        cases b with
        | false =>
          show wpAny _ X.A (handleBy (.ref a) X.env hds2) _ _ _
          exact ih (no rfl)
        | true =>
          refine codeAny_handlers_suite_as ?_
          refine HandSPX.lands_againZ fl3 fun h4 fl4 up4 => ?_
          have J4 : Inv X pins σ' H' { s' with heap := h4 } := J.landed nb fl4.1 ((up.trans up3).trans up4) os ag
          obtain ⟨oe4, vs4, he4, hz4, hd4⟩ := fl4.there
          refine store_ok (X := X.suite a ((a, oe4) :: (X.pn ++ pins))) (v := .ref a) (J4.suite he4 hd4 na nL nF) hN hi (.inl hln) rfl (fun s5 S5 => ?_) (.inr hln)
          refine wpAny_mono ((hsu a oe4 cls d (X.pn ++ pins) hz4 ⟨_, hd4⟩).run [] s5 _ H' _ S5 (yes rfl a na)) (fun f s6 hsp => ?_) fun _ _ z => False.elim z
          have gone : ∀ {σ6 : L2.St} {H6 : Hp} {Q : Shared → Prop}, Inv (X.suite a ((a, oe4) :: (X.pn ++ pins))) [] σ6 H6 s6 → (∀ s7, Inv X pins (σ6.set i none) H6 s7 → Q s7) →
              wpAny (model X.prog X.w) X.A (do bindName X.env n .none; unbindBehindTheSuite X.env n pos') (fun _ s7 => Q s7) X.xe s6 := fun {σ6 H6 Q} S6 hq => gone_ok (S6.unsuite ok) hN hi hln hq
          cases f with
          | next => obtain ⟨σ6, H6, S6, q6⟩ := hsp; exact gone S6 fun s7 J7 => ⟨_, _, J7, q6⟩
          | brk => obtain ⟨σ6, H6, S6, q6⟩ := hsp; exact gone S6 fun s7 J7 => ⟨_, _, J7, q6⟩
          | cont => obtain ⟨σ6, H6, S6, q6⟩ := hsp; exact gone S6 fun s7 J7 => ⟨_, _, J7, q6⟩
          | ret u => obtain ⟨v6, σ6, H6, S6, r6, q6⟩ := hsp; exact gone S6 fun s7 J7 => ⟨_, _, _, J7, r6, q6⟩
    exact each hh w
  · cases f with
    | next => obtain ⟨σ', H', J', q⟩ := hsp; exact wpAny_execs_nil ⟨σ', H', J'.ofTry ok, q⟩
    | brk => obtain ⟨σ', H', J', q⟩ := hsp; exact ⟨σ', H', J'.ofTry ok, q⟩
    | cont => obtain ⟨σ', H', J', q⟩ := hsp; exact ⟨σ', H', J'.ofTry ok, q⟩
    | ret u => obtain ⟨v, σ', H', J', r, q⟩ := hsp; exact ⟨v, σ', H', J'.ofTry ok, r, q⟩
end Nt

/-! o[i] = v by an own `__setitem__` -/
namespace Nt
open PySem PySem.Spec PyProof.Rows
open L2 hiding rLen
/-- the class is no sequence of the language's own -/
def nsB (c : Str) : PySem.W.Frag → Bool := fun K => PySem.W.noSeq K (He.ga K c)
structure NsQ (K : PySem.W.Frag) (c : Str) : Prop where
  no : PySem.W.noSeq K (He.ga K c) = true
theorem nsq_ok {K : PySem.W.Frag} {c : Str} (h : (FaX.any (nsB c)).ok K = true) : NsQ K c := ⟨h⟩
structure DfT (P : Program) (w : World) (K : PySem.W.Frag) (mg : Str → Option Value) (base : Heap) (k : Nat) (c : Str) (ps : List Str) (sp : Sp) : Prop where
  meth : Meth K (He.ga K c) "__setitem__" (He.ma K (He.ga K c) "__setitem__")
  ns : NsQ K c
  ok : ∃ fd, FnOk P w K mg base (L2.CX P w) k (He.ma K (He.ga K c) "__setitem__") fd ps sp ∧ Binds K fd ps []
theorem Bok.dt {P : Program} {w : World} {K : PySem.W.Frag} {mg : Str → Option Value} {base : Heap} {k : Nat} {c q : Str} {ps : List Str} {sp : Sp} {st : Stmt} (b : Bok P w K mg base k q st ps sp) (F : AtM K c "__setitem__" q st ps []) (N : NsQ K c) : DfT P w K mg base k c ps sp := by
  obtain ⟨fd, dfl, kws, F1, ds, hd, F2⟩ := F.ex
  cases hd
  exact ⟨F.meth, N, fd, b F1, F2⟩
def gSetO (C : Addr) (sp : Sp) (W : WX) (to ti : TE) : TG := fun v σ H Q => to σ H fun o H1 => ti σ H1 fun i H2 => ∃ (a dx : Addr) (fs : List (Str × V)), o = .ref a ∧ H2 a = some (.ins C dx fs) ∧ sp [o, i, v] H2 (fun _ H3 => Q σ H3) (WE W σ)
theorem gs_setO {C : Addr} {sp : Sp} {W : WX} {to ti : TE} {v : V} {σ : L2.St} {H : Hp} {Q : L2.St → Hp → Prop} (h : to σ H fun o H1 => ti σ H1 fun i H2 => ∃ (a dx : Addr) (fs : List (Str × V)), o = .ref a ∧ H2 a = some (.ins C dx fs) ∧ sp [o, i, v] H2 (fun _ H3 => Q σ H3) (WE W σ)) : gSetO C sp W to ti v σ H Q := h
section
variable {X : Cx} {W : WX} {k : Nat} {c : Str} {ps : List Str} {sp : Sp} {o i : Expr} {to ti : TE} {pos : Pos}
theorem pg_setO (G : DfT X.prog X.w X.K X.mg X.base k c ps sp) (hr : Room k X.A) (ho : PE X o to) (hi : PE X i ti) (wk : Takes X W)
    (ha : ∀ v, assign (.Subscript o i pos) X.env v = (do
      let ov ← holding [v] (eval o X.env)
      let iv ← holding [v, ov] (eval i X.env)
      standAt pos
      holding [v, ov, iv] (setItem ov iv v)
      release [v, ov, iv] []) := by intro _; rfl) : PG X (.Subscript o i pos) (gSetO (He.ga X.K c) sp W to ti) := by
  obtain ⟨fd, Fo, hb⟩ := G.ok
  refine ⟨fun pins s σ H v u Q I r h => ?_⟩
  rw [ha]
  refine wpAny_bind (wpAny_holding (thn (ho.run pins s σ H _ I h) fun ov s1 ⟨x, H1, I1, r1, q1⟩ => ?_))
  refine wpAny_bind (wpAny_holding (thn (hi.run pins s1 σ H1 _ I1 q1) fun iv s2 ⟨y, H2, I2, r2, a, dx, fs, ex, e, q⟩ => ?_))
  subst ex
  obtain rfl : ov = Value.ref a := r1
  obtain ⟨ox, od, J⟩ := ins_at I2 e
  obtain ⟨m, hF⟩ := I2.fr
  have r3 : Vals [V.ref a, y, v] [Value.ref a, iv, u] := .cons rfl (.cons r2 (.cons r .nil))
  have hl : [Value.ref a, iv, u].length = ps.length := by
    have := r3.length
    rw [Fo.len _ _ _ _ q] at this
    exact this.symm
  have b := hb s2 [.ref a, iv, u] I2.kIn (by rw [List.append_nil]; exact hl)
  rw [List.append_nil] at b
  refine wpAny_bind (wpAny_standAt (wpAny_bind (wpAny_holding ?_)))
  refine PySem.W.ksp_setItem hF I2.ok.mod.kin J G.ns.no G.meth.at_ G.meth.fn ?_
  exact run_W (args := ⟨[.ref a, iv, u], []⟩) Fo hr I2.env0 wk I2 b r3 q fun v u H' s' I' rv z => wpAny_release ⟨σ, H', I', z⟩
end
end Nt

/-! xs.insert(i, y) -/
namespace Nt
open PySem PySem.Spec PyProof.Rows
open L2 hiding rLen
def rInsert : V → List V → Hp → VK → Prop := fun x vs H Q => ∃ (l : Addr) (xs : List V) (i : Int) (y : V), x = .ref l ∧ vs = [.int i, y] ∧ H l = some (.lst xs) ∧ xs.length < sizeLine ∧ 0 ≤ i ∧ i < 2 ^ 63 ∧
    Q .non (upd H l (.lst (xs.take i.toNat ++ [y] ++ xs.drop i.toNat)))
theorem mt_insertN {X : Cx} : MtR X "list.insert" rInsert := mt_insert
end Nt

/-! min(x, default=d) of whole numbers; x.strip(y); {x: c for x in numbers} -/
namespace Nt
open PySem PySem.Spec PyProof.Rows
open L2 hiding rLen
def rMinDf (K : PySem.W.Frag) : List V → List V → Hp → VK → Prop := fun vs zs H Q => ∃ (a : Addr) (ns : List Int) (d : V), vs = [V.ref a] ∧ zs = [d] ∧ SqL K H a (ns.map V.int) ∧ (ns = [] → Q d H) ∧ (∀ n r, ns = n :: r → Q (.int (r.foldl min n)) H)
theorem alike_ints (xs : List Int) : PySem.W.AlikeAll (xs.map PyData.int) := by
  refine ⟨fun x hx y hy => ?_, fun x hx => ?_⟩
  · obtain ⟨a, _, rfl⟩ := List.mem_map.mp hx
    obtain ⟨b, _, rfl⟩ := List.mem_map.mp hy
    rfl
  · obtain ⟨a, _, rfl⟩ := List.mem_map.mp hx
    nofun
theorem depth_ints : ∀ xs : List Int, PyData.depthAll (xs.map PyData.int) = 0
  | [] => rfl
  | x :: xs => by
    show max (PyData.depth (.int x)) (PyData.depthAll (xs.map PyData.int)) = 0
    rw [depth_ints xs]
    rfl
theorem cr_minDf {X : Cx} (hc : X.calm = true) (hu : X.A.units + 65 < cLine) : CallRK X (.builtin "min") ["default"] (rMinDf X.K) := by
  intro pins s σ H vs zs us ws Q I r rz h
  obtain ⟨a, ns, d, rfl, rfl, hs, h0, h1⟩ := h
  obtain ⟨its, rv, hl, _⟩ := I.list hs
  rw [Vals.ref1 r]
  obtain ⟨w, rfl, rw'⟩ := rz.one
  refine PySem.W.min_list_default (I.ok.hd hc) hl.isList (ints_readAll _ rv.ints) (alike_ints ns) (by rw [depth_ints]; omega) (fun e h' tk hk => ?_) (fun y ys i v h' tk bs e hv rd hk => ?_)
  · have e : ns = [] := List.map_eq_nil_iff.mp e
    exact ⟨d, H, I.kept hk, rw', h0 e⟩
  · cases ns with
    | nil => cases e
    | cons n r =>
      rw [List.map_cons] at e
      injection e with e1 e2
      subst e1 e2
      rw [PySem.W.minD_ints] at rd
      cases rd
      exact ⟨.int (r.foldl min n), H, I.kept hk, ⟨_, rfl⟩, h1 n r rfl⟩
def rStripC : V → List V → Hp → VK → Prop := fun x xs H Q => ∃ a b, x = .str a ∧ xs = [.str b] ∧ a.length ≤ sizeLine ∧ Q (.str (Txt.stripChars a b)) H
theorem mt_stripC {X : Cx} : MtR X "str.strip" rStripC := mt_stripChars
theorem pe_stripC {X : Cx} {o e : Expr} {to te : TE} {apos pos : Pos} (ho : PE X o to) (he : PE X e te) (hs : starEach [e] X.env = [(false, eval e X.env)] := by rfl) (hbase : attributeBase o "strip" X.env (eval o X.env) = eval o X.env := by rfl) (hline : (apos.endLine == pos.line) = true := by rfl) :
    PE X (.Call (.Attribute o "strip" apos) [e] [] pos) (tM1 rStripC to te) := pe_m1 F.slot_str_strip F.type_str_strip mt_stripC ho he hs hbase hline
theorem T_getD (l : List Nat) (k : Nat) : (T l).cps.getD k 0 = l.getD k 0 := by
  rw [← PyProof.Rows.getD_list, T_cps]
/-- what is left of a text whose ends are stripped: nothing, if all its signs are such -/
theorem strip_iff (l m : List Nat) : decide (Txt.stripChars (T l) (T m) = T []) = l.all fun c => decide (c ∈ m) := by
  have hg : ∀ c, (T m).cps.contains c = decide (c ∈ m) := fun c => by
    rw [Bool.eq_iff_iff, decide_eq_true_eq]
    simp [T]
  unfold Txt.stripChars
  rw [PyProof.Rows.stripBy_eq]
  obtain ⟨a1, a2, a3⟩ := PyProof.Rows.lo_facts ((T m).cps.contains) (T l)
  obtain ⟨b1, b2, b3, b4⟩ := PyProof.Rows.hi_facts ((T m).cps.contains) (T l) _ a1
  generalize stripLo ((T m).cps.contains) true (T l) = lo at *
  generalize stripHi ((T m).cps.contains) true (T l) lo = hi at *
  rw [T_len] at a1 a3 b2 b3
  have e : (PySem.Builtin.Str.strSub (T l) lo hi = T []) ↔ hi = lo := by
    constructor
    · intro h
      have h := congrArg (fun z : Str => z.cps.size) h
      simp only [PySem.Builtin.Str.strSub, T, Array.size_extract, List.size_toArray, List.length_nil] at h
      omega
    · intro h
      subst h
      simp [PySem.Builtin.Str.strSub, T]
  rw [Bool.eq_iff_iff, decide_eq_true_eq, e, List.all_eq_true]
  constructor
  · intro h c hc
    obtain ⟨k, hk, rfl⟩ := List.mem_iff_getElem.mp hc
    have hkk : (T l).cps.getD k 0 = l[k] := by rw [T_getD]; simp [List.getD_eq_getElem?_getD, hk]
    rw [← hg, ← hkk]
    by_cases h1 : k < lo
    · exact a2 k h1
    · exact b3 k (by omega) hk
  · intro h
    have all : ∀ k, k < l.length → (T m).cps.contains ((T l).cps.getD k 0) = true := fun k hk => by
      rw [T_getD, hg]
      refine h _ ?_
      rw [List.getD_eq_getElem?_getD, List.getElem?_eq_getElem hk]
      exact List.getElem_mem _
    rcases a3 with a3 | a3
    · omega
    · by_cases hlo : lo < l.length
      · rw [all lo hlo] at a3
        cases a3
      · omega
section
variable {K : PySem.W.Frag} {M : Addr → Prop} {I : Hp → Prop} {H1 : Hp} {Q : VK} {σ : L2.St} {vs : List Nat} {i : Nat}
/-- {x: c for x in numbers}, the numbers distinct -/
theorem dc_nat {x : V} {d : D} {F : List Nat} {c : V} (hw : Wf M I) (hI : I H1) (hx : Rep K M H1 x d) (hd : d.elems = some (F.map fun l : Nat => D.int (l : Int))) (hn : F.Nodup) (hlen : F.length ≤ 100000) (hwp : ∀ v, wipe ((wipe σ vs).set i (some v)) vs = wipe σ vs) (hi : ∀ v, ((wipe σ vs).set i (some v))[i]? = some (some v))
    (hq : ∀ D H', H1 D = none → ¬ M D → H' D = some (.dK (F.map fun l : Nat => ((.inl (l : Int) : Key), c))) → Ex M H1 H' → I H' → Q (.ref D) H') : srcR K (DcR (gName i) tYes (tVar i) (tC c) vs σ Q) x H1 := by
  obtain ⟨S, xs, rfl, r, hS⟩ := src_of hx hd
  have hxs : xs = F.map fun l : Nat => V.int (l : Int) := Reps.scal_inv (f := fun l : Nat => V.int (l : Int)) (g := fun l : Nat => D.int (l : Int)) (fun a v h => rep_int h) r
  have key : ∀ {J : It} {G : Hp → Prop} {Y : Nat → Hp → V → Hp → Prop}, L2.Walk J F.length G Y → (∀ H', Ex M H1 H' → G H') → (∀ k H x H', Y k H x H' → H' = H ∧ xs[k]? = some x) → DcR (gName i) tYes (tVar i) (tC c) vs σ Q J H1 := fun {J G Y} w hG hY => by
    intro D hD
    have nM : ¬ M D := hw.fresh hI hD
    let St : Nat → Hp → Prop := fun k H => H D = some (.dK ((F.take k).map fun l : Nat => ((.inl (l : Int) : Key), c))) ∧ Ex (Mq M D) H1 H ∧ I H
    have hG2 : ∀ {k : Nat} {H : Hp}, St k H → G H := fun {k H} h => hG _ (h.2.1.shut hD)
    refine ⟨fun k m H => m = F.length - k ∧ k ≤ F.length ∧ St k H, ⟨F.length, by simp, Nat.zero_le _, upd_same, Ex.of (same_upd hD), hw.same (same_upd hD) hI⟩, ?_⟩
    rintro k m H ⟨rfl, hk, h⟩
    by_cases hlt : k < F.length
    · refine .inr ⟨w.goes k H hlt (hG2 h), St (k + 1), fun H' h' => ⟨F.length - (k + 1), by omega, rfl, hlt, h'⟩, fun y H' hy => ?_⟩
      obtain ⟨e, ey⟩ := hY k H y H' (w.yields k H y H' hlt (hG2 h) hy)
      subst e
      have ha : F[k]? = some F[k] := by simp [hlt]
      have ey2 : y = V.int ((F[k] : Nat) : Int) := by
        rw [hxs, List.getElem?_map, ha] at ey
        cases ey
        rfl
      subst ey2
      refine ⟨hwp _, sx_yes ?_⟩
      refine ifT ?_
      refine sx_var (hi _) ?_
      refine sx_c ?_
      have hni : F[k] ∉ F.take k := fun hm => by
        have e2 : F = F.take k ++ F[k] :: F.drop (k + 1) := by rw [List.getElem_cons_drop, List.take_append_drop]
        rw [e2] at hn
        exact (List.nodup_append.mp hn).2.2 _ hm _ List.mem_cons_self rfl
      have hp : putK ((F.take k).map fun l : Nat => ((.inl (l : Int) : Key), c)) (.inl ((F[k] : Nat) : Int)) c = (F.take (k + 1)).map fun l : Nat => ((.inl (l : Int) : Key), c) := by
        have h2 : (((F.take k).map fun l : Nat => ((.inl (l : Int) : Key), c)).any fun kv => decide (kv.1 = (Sum.inl ((F[k] : Nat) : Int) : Key))) = false := by
          rw [List.any_eq_false]
          intro kv hkv
          obtain ⟨a, ha, rfl⟩ := List.mem_map.mp hkv
          simp only [decide_eq_true_eq, Sum.inl.injEq]
          intro e
          exact hni ((show a = F[k] by omega) ▸ ha)
        unfold putK
        rw [if_neg (by rw [h2]; exact Bool.false_ne_true), take_snoc ha, List.map_append]
        rfl
      refine ⟨_, .inl ((F[k] : Nat) : Int), rfl, h.1, Nat.lt_of_lt_of_le (show _ < 100001 by rw [List.length_map, List.length_take]; omega) (by decide), ?_⟩
      rw [hp]
      refine ⟨upd_same, h.2.1.trans (fun a o n z => by rw [upd_ne fun e => n (.inr e)]; exact z), ?_⟩
      exact (hw.put (o := .dK ((F.take k).map fun l : Nat => ((.inl (l : Int) : Key), c))) nM ⟨h.2.2, h.1⟩).1.1
    · have e : k = F.length := by omega
      subst e
      refine .inl ⟨w.stops H (hG2 h), ?_⟩
      obtain ⟨h1, h2, h3⟩ := h
      rw [List.take_length] at h1
      exact hq D H hD nM h1 (h2.shut hD) h3
  have hl : xs.length = F.length := by rw [hxs]; simp
  cases S with
  | lst a =>
    refine .inl ⟨a, rfl, ⟨xs, hS H1 (Ex.refl _)⟩, ?_⟩
    have w := walk_list (K := K) (a := a) (xs := xs)
    rw [hl] at w
    exact key w hS fun k H x H' y => y
  | tup a =>
    refine .inr (.inl ⟨a, rfl, ⟨xs, hS H1 (Ex.refl _)⟩, ?_⟩)
    have w := walk_tup (K := K) (a := a) (xs := xs)
    rw [hl] at w
    exact key w hS fun k H x H' y => y
  | txt z =>
    refine .inr (.inr ⟨z, rfl, ?_⟩)
    have hxs2 : xs = signs z := hS H1 (Ex.refl _)
    have w := walk_str (z := z)
    have hz : z.cps.size = F.length := by rw [← hl, hxs2]; simp [signs]
    rw [hz] at w
    refine key w (fun _ _ => trivial) fun k H x H' y => ⟨y.1, ?_⟩
    obtain ⟨_, c, e1, e2⟩ := y
    rw [hxs2, e2]
    simp [signs, e1]
end
end Nt

/-! dicts walked by keys and items (locked), get, pop; sorted pairs of a text and a number; ranges downward -/
namespace Nt
open PySem PySem.Spec PyProof.Rows
open L2 hiding rLen
section
variable {K : PySem.W.Frag} {M : Addr → Prop} {I : Hp → Prop} {J : It} {G : Hp → Prop} {Y : Nat → Hp → V → Hp → Prop} {α : Type} {as : List α} {g : TG} {tt : TT} {te : TE} {vs : List Nat} {σ : L2.St} {H1 : Hp}
theorem lc_anyD {Q : VK} (w : L2.Walk J as.length G Y) (hw : Wf M I) (hI : I H1) (p : α → Bool) (P : α → D → Prop) (asg : Nat → α → L2.St) (hG : ∀ H', Ex M H1 H' → I H' → G H') (hlen : as.length ≤ sizeLine)
    (hb : ∀ k a, as[k]? = some a → ∀ H x H' (Qc : L2.St → Hp → Prop), Ex M H1 H → Y k H x H' → (∀ H2, L2.Same H H2 → Qc (asg k a) H2) → g x (wipe σ vs) H' Qc) (hwp : ∀ k a, wipe (asg k a) vs = wipe σ vs)
    (ht : ∀ L acc k a H, H1 L = none → ¬ M L → as[k]? = some a → Wf (Mq M L) (Iq I L (.lst acc)) → Iq I L (.lst acc) H → Ex (Mq M L) H1 H →
      ∀ Qt : Bool → Hp → Prop, (∀ H3, Iq I L (.lst acc) H3 → Ex (Mq M L) H H3 → Qt (p a) H3) → tt (asg k a) H Qt)
    (he : ∀ L acc k a H, H1 L = none → ¬ M L → as[k]? = some a → p a = true → Wf (Mq M L) (Iq I L (.lst acc)) → Iq I L (.lst acc) H → Ex (Mq M L) H1 H →
      ∀ Qe : VK, (∀ y d H4, P a d → Rep K (Mq M L) H4 y d → Iq I L (.lst acc) H4 → Ex (Mq M L) H H4 → Qe y H4) → te (asg k a) H Qe)
    (hd : ∀ L ds H', H1 L = none → A2 P (as.filter p) ds → Rep K M H' (.ref L) (.lst ds) → Ex M H1 H' → I H' → Q (.ref L) H') :
    ∀ L, H1 L = none → ∃ W : Nat → Nat → Hp → Prop, (∃ m, W 0 m (upd H1 L (.lst []))) ∧ ∀ i m H, W i m H →
      (J.stop i H ∧ Q (.ref L) H) ∨ (J.go i H ∧ ∃ Nx : Hp → Prop, (∀ H', Nx H' → ∃ m', m' < m ∧ W (i + 1) m' H') ∧ ∀ x H', J.yld i H x H' → g x (wipe σ vs) H' fun σ2 H2 => wipe σ2 vs = wipe σ vs ∧ tt σ2 H2 fun b H3 =>
        if b = true then te σ2 H3 fun y H4 => ∃ acc, H4 L = some (.lst acc) ∧ acc.length < sizeLine ∧ Nx (upd H4 L (.lst (acc ++ [y]))) else Nx H3) := by
  intro L hL
  have nM : ¬ M L := hw.fresh hI hL
  have exL : ∀ {H' : Hp}, Ex (Mq M L) H1 H' → Ex M H1 H' := fun e p o n h => e p o (fun m => m.elim n fun z => by rw [z, hL] at h; cases h) h
  refine lc_it w (fun k H => ∃ acc ds, Iq I L (.lst acc) H ∧ A2 P ((as.take k).filter p) ds ∧ Reps K (Mq M L) H acc ds ∧ Ex (Mq M L) H1 H) ?_ (fun k H _ h => ?_) ?_ ?_
  · refine ⟨[], [], ⟨hw.same (same_upd hL) hI, upd_same⟩, .nil, .nil, Ex.of (same_upd hL)⟩
  · obtain ⟨acc, ds, i, _, _, e⟩ := h
    exact hG H (exL e) i.1
  · rintro k x H H' hk ⟨acc, ds, i1, a2, rs, e⟩ y
    have ha : as[k]? = some as[k] := by simp [hk]
    have wf' := hw.add L (.lst acc)
    have hlen2 : acc.length < sizeLine := by
      have l1 := rs.length
      have l2 := a2.length
      have l3 : ((as.take k).filter p).length ≤ (as.take k).length := List.length_filter_le _ _
      have l4 : (as.take k).length ≤ k := by simp; omega
      omega
    refine hb k _ ha H x H' _ (exL e) y fun H2 sm => ⟨hwp k _, ?_⟩
    have i2 := wf'.same sm i1
    have e2 : Ex (Mq M L) H1 H2 := e.trans (Ex.of sm)
    have rs2 := rs.same sm
    refine ht L acc k _ H2 hL nM ha wf' i2 e2 _ fun H3 i3 e3 => ?_
    cases hp : p as[k] with
    | false =>
      simp only [Bool.false_eq_true, if_false]
      refine ⟨acc, ds, i3, ?_, rs2.ex e3, e2.trans e3⟩
      rw [take_snoc ha, List.filter_append]
      simpa [hp] using a2
    | true =>
      simp only [if_true]
      refine he L acc k _ H3 hL nM ha hp wf' i3 (e2.trans e3) _ fun y d H4 py ry i4 e4 => ⟨acc, i4.2, hlen2, ?_⟩
      obtain ⟨i5, e5⟩ := hw.put (o' := .lst (acc ++ [y])) nM i4
      refine ⟨acc ++ [y], ds ++ [d], i5, ?_, ?_, ((e2.trans e3).trans e4).trans e5⟩
      · rw [take_snoc ha, List.filter_append]
        refine a2.append ?_
        simp [hp]
        exact .cons py .nil
      · exact (((rs2.ex e3).ex e4).append (.cons ry .nil)).ex e5
  · rintro H ⟨acc, ds, i1, a2, rs, e⟩
    refine hd L ds H hL ?_ (.lst i1.2 nM (rs.le fun p m => .inl m)) (exL e) i1.1
    simpa using a2
end
section
variable {K : PySem.W.Frag} {M : Addr → Prop} {I : Hp → Prop} {te : TE} {vs : List Nat} {σ : L2.St} {H : Hp} {Q : VK}
/-- the dict is locked while it is walked -/
theorem sx_lock {d : Addr} {kvs : List (Key × V)} {t : TE} (hw : Wf M I) (np : ¬ M d) (hI : Iq I d (.dK kvs) H)
    (h : ∀ od H1, Iq I d (.frz od (.dK kvs)) H1 → Ex (Mq M d) H H1 → ∀ Q' : VK, (∀ v H', Iq I d (.frz od (.dK kvs)) H' → (∀ H2, Iq I d (.dK kvs) H2 → Ex (Mq M d) H' H2 → Q v H2) → Q' v H') → t σ H1 Q') : tLockE t σ H Q := by
  obtain ⟨i1, e1⟩ := hw.put (o' := .frz (default : Obj) (.dK kvs)) np hI
  refine ⟨d, _, hI.2, True.intro, fun od => ?_⟩
  obtain ⟨i1, e1⟩ := hw.put (o' := .frz od (.dK kvs)) np hI
  refine h od _ i1 e1 _ fun v H' i2 q => ?_
  obtain ⟨i3, e3⟩ := hw.put (o' := .dK kvs) np i2
  exact ⟨i2.2, q _ i3 e3⟩
/-- [e for k, v in d.items()], d locked -/
theorem lc_items {i j : Nat} {d : Addr} {od : Obj} {kvs : List (Key × V)} (f : Key × V → D) (hw : Wf M I) (hI : I H) (hd : ∀ H', I H' → H' d = some (.frz od (.dK kvs))) (hlen : kvs.length ≤ sizeLine) (hwp : ∀ v w, wipe (((wipe σ vs).set i (some v)).set j (some w)) vs = wipe σ vs)
    (he : ∀ (L : Addr) (acc : List V) (a : Key × V) (H1 : Hp), H L = none → a ∈ kvs → Wf (Mq M L) (Iq I L (.lst acc)) → Iq I L (.lst acc) H1 → Ex (Mq M L) H H1 →
      ∀ Qe : VK, (∀ y H4, Rep K (Mq M L) H4 y (f a) → Iq I L (.lst acc) H4 → Ex (Mq M L) H1 H4 → Qe y H4) → te (((wipe σ vs).set i (some (kV a.1))).set j (some a.2)) H1 Qe)
    (hq : ∀ y H', Rep K M H' y (.lst (kvs.map f)) → Ex M H H' → I H' → Q y H') : LcR (gTup K 2 (gCons (gName i) (gCons (gName j) gNil))) tYes te vs σ Q (Iti d od kvs) H := by
  refine lc_anyD (K := K) (as := kvs) (walk_items (kvs := kvs)) hw hI (fun _ => true) (fun a e => e = f a) (fun _ a => ((wipe σ vs).set i (some (kV a.1))).set j (some a.2)) (fun H' _ i => hd H' i) hlen (fun k a ha => ?_) (fun _ _ => hwp _ _) (fun L acc k a H1 hL _ _ _ hi _ Qt q => q H1 hi (Ex.refl _)) (fun L acc k a H1 hL _ ha _ wf hi ex Qe q => ?_) fun L ds H' hL a2 rp ex hi => ?_
  · intro H1 x H2 Qc _ y q
    obtain ⟨T, u, v, e1, hT, e3, e4, e5⟩ := y
    dsimp only at e4 e5
    rw [ha] at e4 e5
    cases e4
    cases e5
    subst e1 e3
    exact ⟨T, _, rfl, SqT.of upd_same, rfl, _, _, rfl, _, _, rfl, rfl, q _ (same_upd hT)⟩
  · exact he L acc a H1 hL (List.mem_of_getElem? ha) wf hi ex Qe fun y H4 r i e => q y _ H4 rfl r i e
  · rw [a2.eq, List.filter_eq_self.mpr fun _ _ => rfl] at rp
    exact hq _ H' rp ex hi
/-- [e for k in d], d locked -/
theorem lc_keys {i : Nat} {d : Addr} {od : Obj} {kvs : List (Key × V)} (f : Key × V → D) (hw : Wf M I) (hI : I H) (hd : ∀ H', I H' → H' d = some (.frz od (.dK kvs))) (hlen : kvs.length ≤ sizeLine) (hwp : ∀ v, wipe ((wipe σ vs).set i (some v)) vs = wipe σ vs)
    (he : ∀ (L : Addr) (acc : List V) (a : Key × V) (H1 : Hp), H L = none → a ∈ kvs → Wf (Mq M L) (Iq I L (.lst acc)) → Iq I L (.lst acc) H1 → Ex (Mq M L) H H1 →
      ∀ Qe : VK, (∀ y H4, Rep K (Mq M L) H4 y (f a) → Iq I L (.lst acc) H4 → Ex (Mq M L) H1 H4 → Qe y H4) → te ((wipe σ vs).set i (some (kV a.1))) H1 Qe)
    (hq : ∀ y H', Rep K M H' y (.lst (kvs.map f)) → Ex M H H' → I H' → Q y H') : LcR (gName i) tYes te vs σ Q (Itk d od kvs) H := by
  refine lc_anyD (K := K) (as := kvs) (walk_keys (kvs := kvs)) hw hI (fun _ => true) (fun a e => e = f a) (fun _ a => (wipe σ vs).set i (some (kV a.1))) (fun H' _ i => hd H' i) hlen (fun k a ha => ?_) (fun _ _ => hwp _) (fun L acc k a H1 hL _ _ _ hi _ Qt q => q H1 hi (Ex.refl _)) (fun L acc k a H1 hL _ ha _ wf hi ex Qe q => ?_) fun L ds H' hL a2 rp ex hi => ?_
  · intro H1 x H2 Qc _ y q
    obtain ⟨rfl, k2, v2, e1, rfl⟩ := y
    rw [ha] at e1
    cases e1
    exact q _ (L2.Same.refl _)
  · exact he L acc a H1 hL (List.mem_of_getElem? ha) wf hi ex Qe fun y H4 r i e => q y _ H4 rfl r i e
  · rw [a2.eq, List.filter_eq_self.mpr fun _ _ => rfl] at rp
    exact hq _ H' rp ex hi
theorem sx_items {td : TE} {R : It → Hp → Prop} (h : td σ H fun x H1 => ∃ d o kvs, x = .ref d ∧ H1 d = some (.frz o (.dK kvs)) ∧ R (Iti d o kvs) H1) : iItems td σ H R := h
theorem sx_keys {td : TE} {R : It → Hp → Prop} (h : td σ H fun x H1 => ∃ d o kvs, x = .ref d ∧ H1 d = some (.frz o (.dK kvs)) ∧ R (Itk d o kvs) H1) (mono : ∀ {A B : VK}, (∀ v H', A v H' → B v H') → td σ H A → td σ H B) : iKeys td σ H R := mono (fun v H' hh => by obtain ⟨d, o, kvs, e, h1, h2⟩ := hh; exact ⟨d, o, e, .inl ⟨kvs, h1, h2⟩⟩) h
theorem sx_keysV {n : Nat} {d : Addr} {od : Obj} {kvs : List (Key × V)} {R : It → Hp → Prop} (hv : σ[n]? = some (some (.ref d))) (h1 : H d = some (.frz od (.dK kvs))) (h : R (Itk d od kvs) H) : iKeys (tVar n) σ H R := ⟨_, hv, d, od, rfl, .inl ⟨kvs, h1, h⟩⟩
theorem sx_itemsV {n : Nat} {d : Addr} {od : Obj} {kvs : List (Key × V)} {R : It → Hp → Prop} (hv : σ[n]? = some (some (.ref d))) (h1 : H d = some (.frz od (.dK kvs))) (h : R (Iti d od kvs) H) : iItems (tVar n) σ H R := ⟨_, hv, d, od, kvs, rfl, h1, h⟩
theorem for_rngC {i : Nat} {lo c : Int} {n : Nat} {tb : TS} {E : Ends} (Pv : Nat → L2.St → Hp → Prop) (h0 : Pv 0 σ H)
    (hs : ∀ k σ H, k < n → Pv k σ H → tb { E with nx := Pv (k + 1), ct := Pv (k + 1), bk := E.nx } (σ.set i (some (.int (lo + (k : Nat) * c)))) H) (hq : ∀ σ H, Pv n σ H → E.nx σ H) : ForR (gName i) tb E σ (Itc lo c n) H := by
  refine for_it walk_rangeC Pv h0 (fun _ _ _ _ _ => trivial) (fun k x σ H H' hk h y => ?_) hq
  obtain ⟨rfl, rfl⟩ := y
  exact hs k σ _ hk h
theorem sx_dget2 {td ty tx : TE} (h : td σ H fun x H1 => ∃ a, x = .ref a ∧ IsD H1 a ∧ ty σ H1 fun y H2 => tx σ H2 fun z H3 => ∃ o, DGet H3 a y o ∧ Q (o.getD z) H3) : tDGet2 td ty tx σ H Q := h
theorem sx_dpop1 {td ty : TE} (h : td σ H fun x H1 => ∃ a, x = .ref a ∧ IsD H1 a ∧ ty σ H1 fun y H2 => ∃ kvs k v, H2 a = some (.dK kvs) ∧ y = kV k ∧ valV kvs k = some v ∧ Q v (upd H2 a (.dK (dropK kvs k)))) : tDPop1 td ty σ H Q := h
end
section
variable {K : PySem.W.Frag} {M : Addr → Prop} {I : Hp → Prop} {H1 : Hp} {Q : VK} {σ : L2.St} {vs : List Nat} {i : Nat}
/-- {x: c x for x in texts}, the texts distinct -/
theorem dc_txt {x : V} {d : D} {F : List (List Nat)} {c : List Nat → V} {tv : TE} (hw : Wf M I) (hI : I H1) (hx : Rep K M H1 x d) (hd : d.elems = some (F.map fun l => .str (T l))) (hn : F.Nodup) (hlen : F.length ≤ 100000) (hwp : ∀ v, wipe ((wipe σ vs).set i (some v)) vs = wipe σ vs) (hi : ∀ v, ((wipe σ vs).set i (some v))[i]? = some (some v))
    (hv : ∀ (D : Addr) (l : List Nat) (H' : Hp) (Z : VK), H1 D = none → l ∈ F → Ex (Mq M D) H1 H' → I H' → Z (c l) H' → tv ((wipe σ vs).set i (some (.str (T l)))) H' Z)
    (hq : ∀ D H', H1 D = none → ¬ M D → H' D = some (.dK (F.map fun l : List Nat => ((.inr (T l) : Key), c l))) → Ex M H1 H' → I H' → Q (.ref D) H') : srcR K (DcR (gName i) tYes (tVar i) tv vs σ Q) x H1 := by
  obtain ⟨S, xs, rfl, r, hS⟩ := src_of hx hd
  have hxs : xs = F.map fun l => V.str (T l) := Reps.scal_inv (f := fun l => V.str (T l)) (g := fun l => D.str (T l)) (fun a v h => rep_str h) r
  have key : ∀ {J : It} {G : Hp → Prop} {Y : Nat → Hp → V → Hp → Prop}, L2.Walk J F.length G Y → (∀ H', Ex M H1 H' → G H') → (∀ k H x H', Y k H x H' → H' = H ∧ xs[k]? = some x) → DcR (gName i) tYes (tVar i) tv vs σ Q J H1 := fun {J G Y} w hG hY => by
    intro D hD
    have nM : ¬ M D := hw.fresh hI hD
    let St : Nat → Hp → Prop := fun k H => H D = some (.dK ((F.take k).map fun l : List Nat => ((.inr (T l) : Key), c l))) ∧ Ex (Mq M D) H1 H ∧ I H
    have hG2 : ∀ {k : Nat} {H : Hp}, St k H → G H := fun {k H} h => hG _ (h.2.1.shut hD)
    refine ⟨fun k m H => m = F.length - k ∧ k ≤ F.length ∧ St k H, ⟨F.length, by simp, Nat.zero_le _, upd_same, Ex.of (same_upd hD), hw.same (same_upd hD) hI⟩, ?_⟩
    rintro k m H ⟨rfl, hk, h⟩
    by_cases hlt : k < F.length
    · refine .inr ⟨w.goes k H hlt (hG2 h), St (k + 1), fun H' h' => ⟨F.length - (k + 1), by omega, rfl, hlt, h'⟩, fun y H' hy => ?_⟩
      obtain ⟨e, ey⟩ := hY k H y H' (w.yields k H y H' hlt (hG2 h) hy)
      subst e
      have ha : F[k]? = some F[k] := by simp [hlt]
      have ey2 : y = V.str (T F[k]) := by
        rw [hxs, List.getElem?_map, ha] at ey
        cases ey
        rfl
      subst ey2
      refine ⟨hwp _, sx_yes ?_⟩
      refine ifT ?_
      refine sx_var (hi _) ?_
      refine hv D F[k] _ _ hD (List.getElem_mem _) h.2.1 h.2.2 ?_
      have hni : T F[k] ∉ (F.take k).map T := fun hm => by
        obtain ⟨l, hl, e⟩ := List.mem_map.mp hm
        have e := T_inj e
        subst e
        have e2 : F = F.take k ++ F[k] :: F.drop (k + 1) := by rw [List.getElem_cons_drop, List.take_append_drop]
        rw [e2] at hn
        exact (List.nodup_append.mp hn).2.2 _ hl _ List.mem_cons_self rfl
      have hp : putK ((F.take k).map fun l : List Nat => ((.inr (T l) : Key), c l)) (.inr (T F[k])) (c F[k]) = (F.take (k + 1)).map fun l : List Nat => ((.inr (T l) : Key), c l) := by
        have h2 : (((F.take k).map fun l : List Nat => ((.inr (T l) : Key), c l)).any fun kv => decide (kv.1 = (Sum.inr (T F[k]) : Key))) = false := by
          rw [List.any_eq_false]
          intro kv hkv
          obtain ⟨a, ha, rfl⟩ := List.mem_map.mp hkv
          simp only [decide_eq_true_eq, Sum.inr.injEq]
          intro e
          exact hni (List.mem_map.mpr ⟨a, ha, e⟩)
        unfold putK
        rw [if_neg (by rw [h2]; exact Bool.false_ne_true), take_snoc ha, List.map_append]
        rfl
      refine ⟨_, .inr (T F[k]), rfl, h.1, Nat.lt_of_lt_of_le (show _ < 100001 by rw [List.length_map, List.length_take]; omega) (by decide), ?_⟩
      rw [hp]
      refine ⟨upd_same, h.2.1.trans (fun a o n z => by rw [upd_ne fun e => n (.inr e)]; exact z), ?_⟩
      exact (hw.put (o := .dK ((F.take k).map fun l : List Nat => ((.inr (T l) : Key), c l))) nM ⟨h.2.2, h.1⟩).1.1
    · have e : k = F.length := by omega
      subst e
      refine .inl ⟨w.stops H (hG2 h), ?_⟩
      obtain ⟨h1, h2, h3⟩ := h
      rw [List.take_length] at h1
      exact hq D H hD nM h1 (h2.shut hD) h3
  have hl : xs.length = F.length := by rw [hxs]; simp
  cases S with
  | lst a =>
    refine .inl ⟨a, rfl, ⟨xs, hS H1 (Ex.refl _)⟩, ?_⟩
    have w := walk_list (K := K) (a := a) (xs := xs)
    rw [hl] at w
    exact key w hS fun k H x H' y => y
  | tup a =>
    refine .inr (.inl ⟨a, rfl, ⟨xs, hS H1 (Ex.refl _)⟩, ?_⟩)
    have w := walk_tup (K := K) (a := a) (xs := xs)
    rw [hl] at w
    exact key w hS fun k H x H' y => y
  | txt z =>
    refine .inr (.inr ⟨z, rfl, ?_⟩)
    have hxs2 : xs = signs z := hS H1 (Ex.refl _)
    have w := walk_str (z := z)
    have hz : z.cps.size = F.length := by rw [← hl, hxs2]; simp [signs]
    rw [hz] at w
    refine key w (fun _ _ => trivial) fun k H x H' y => ⟨y.1, ?_⟩
    obtain ⟨_, c, e1, e2⟩ := y
    rw [hxs2, e2]
    simp [signs, e1]
end
/-! ### sorted(pairs of a text and a number) -/
section
open PySem.W
abbrev eT (g : List Nat → Int) (l : List Nat) : D := .tup [.str (T l), .int (g l)]
def leT (g : List Nat → Int) : List Nat → List Nat → Bool := PySem.W.dataLe false fun l => PyData.tuple [.str (T l), .int (g l)]
def rSortTP (K : PySem.W.Frag) : List V → Hp → VK → Prop := fun vs H Q => ∃ (M : Addr → Prop) (I : Hp → Prop) (x : V) (L : List (List Nat)) (g : List Nat → Int), Wf M I ∧ I H ∧ vs = [x] ∧ Rep K M H x (.lst (L.map (eT g))) ∧ L.length ≤ 1000 ∧ (∀ l ∈ L, ∀ c ∈ l, c < 128) ∧
  ∀ y H', Ex M H H' → I H' → Rep K M H' y (.lst ((L.mergeSort (leT g)).map (eT g))) → Q y H'
theorem cr_sortTP {X : Cx} (hu : X.A.units + 65 < cLine) : CallR X (.builtin "sorted") (rSortTP X.K) := by
  intro pins s σ H vs us Q I r h
  obtain ⟨M, J, x, L, g, hw, hJ, rfl, hx, few, hc, q⟩ := h
  cases hx with
  | @lst a xs _ ha na rs =>
    obtain ⟨its, rv, hl, _⟩ := I.list (SqL.of ha)
    rw [Vals.ref1 r]
    let R : Value → List Nat → Prop := fun v l => (∃ x : V, RelV x v ∧ Rep X.K M H x (eT g l)) ∧ l ∈ L
    have each : EachIs R its L ∧ EachIs (fun v l => ∃ as, Reads s.heap v (PyData.tuple [.str (T l), .int (g l)]) as) its L := by
      have key : ∀ {L0 : List (List Nat)} {xs : List V} {its : List Value}, (∀ l ∈ L0, l ∈ L) → Vals xs its → Reps X.K M H xs (L0.map (eT g)) → EachIs R its L0 ∧ EachIs (fun v l => ∃ as, Reads s.heap v (PyData.tuple [.str (T l), .int (g l)]) as) its L0 := by
        intro L0
        induction L0 with
        | nil =>
          intro xs its _ rv rs
          cases rs
          cases rv
          exact ⟨.nil, .nil⟩
        | cons l L0 ih =>
          intro xs its hin rv rs
          cases rs with
          | cons r1 r2 =>
            cases rv with
            | cons v1 v2 =>
              obtain ⟨i1, i2⟩ := ih (fun l hl => hin l (List.mem_cons_of_mem _ hl)) v2 r2
              have hl := hin l List.mem_cons_self
              have ok : eqOk 1 (eT g l) = true := by simp only [eqOk, eqAll, ok_T (hc l hl), Bool.and_self]
              obtain ⟨as, ra⟩ := Dp.reads I _ _ _ (dp_D r1 ok).1 v1
              exact ⟨.cons ⟨⟨_, v1, r1⟩, hl⟩ i1, .cons ⟨as, ra⟩ i2⟩
      exact key (fun _ h => h) rv rs
    refine sorted_data (enc := fun l => PyData.tuple [.str (T l), .int (g l)]) hl.isList each.1 each.2 (AllAlike.of fun _ _ => by simp [alike, alikeAll]) (Sortable.tuples fun _ => ⟨_, _, rfl⟩) (by rw [sizeLine_eq]; omega) (fun l _ => ?_) fun out ho eo => ?_
    · have e : (PyData.tuple [.str (T l), .int (g l)]).depth = 1 := by simp [PyData.depth, PyData.depthAll]
      omega
    · have back : ∃ ys, Vals ys out ∧ Reps X.K M H ys ((L.mergeSort (leT g)).map (eT g)) := by
        have key : ∀ {Z : List (List Nat)} {out : List Value}, EachIs R out Z → ∃ ys, Vals ys out ∧ Reps X.K M H ys (Z.map (eT g)) := by
          intro Z out h
          induction h with
          | nil => exact ⟨[], .nil, .nil⟩
          | cons h _ ih =>
            obtain ⟨ys, h1, h2⟩ := ih
            obtain ⟨⟨y, h3, h4⟩, _⟩ := h
            exact ⟨y :: ys, .cons h3 h1, .cons h4 h2⟩
        exact key eo
      obtain ⟨ys, v1, r1⟩ := back
      have hlen : ys.length ≤ sizeLine := by rw [r1.length, List.length_map, List.length_mergeSort, sizeLine_eq]; omega
      obtain ⟨ep, he'⟩ := PyProof.Rows.sortedAll_at s.heap its (List.toArray out)
      have hp : H (s.heap.objs.size + 1) = none := I.hok.fresh (Nat.le_succ _)
      have sm := same_upd (o := .lst ys) hp
      exact ⟨.ref _, upd H (s.heap.objs.size + 1) (.lst ys), I.laid (t' := s.toks) (fun _ _ => PyProof.Rows.sortedAll_old) (Nat.le_succ _) ⟨hlen, out, ep, v1, he'⟩, rfl, q _ _ (Ex.of sm) (hw.same sm hJ) (.lst upd_same (hw.fresh hJ hp) (r1.same sm))⟩
end
end Nt

set_option maxHeartbeats 2000000
namespace G31
open PySem PySem.Spec PyProof.Rows Nt
open L2 hiding rLen

theorem units1 {k : Nat} {A : Around} (r : Room k A) : A.units + 1 < cLine := by have := r.un; omega

def top (i : Nat) : Stmt := PySem.Challenge.pw_newesttells_k31_standing_counts_of_windo.main.body.getD i (.Pass ⟨0, 0, 0, 0⟩)

structure Bl (mg : Str → Option Value) : Prop where
  f_abs : mg "abs" = none
  f_all : mg "all" = none
  f_bool : mg "bool" = none
  f_dict : mg "dict" = none
  f_enumerate : mg "enumerate" = none
  f_int : mg "int" = none
  f_isinstance : mg "isinstance" = none
  f_len : mg "len" = none
  f_list : mg "list" = none
  f_range : mg "range" = none
  f_set : mg "set" = none
  f_sorted : mg "sorted" = none
  f_str : mg "str" = none
  f_sum : mg "sum" = none
  f_tuple : mg "tuple" = none
  f_zip : mg "zip" = none
  c_LETTERS : ∃ t, mg "LETTERS" = some (.str (T [97, 98, 99, 100, 101, 102, 103, 104, 105, 106, 107, 108, 109, 110, 111, 112, 113, 114, 115, 116, 117, 118, 119, 120, 121, 122]) t)
  c_MOST_ROWS : ∃ t, mg "MOST_ROWS" = some (.int 800 t)
  c_MOST_SEEDS : ∃ t, mg "MOST_SEEDS" = some (.int 30 t)
  c_MOST_CELLS : ∃ t, mg "MOST_CELLS" = some (.int 12 t)
  c_MOST_VALUES : ∃ t, mg "MOST_VALUES" = some (.int 4 t)
  c_MOST_MOMENTS : ∃ t, mg "MOST_MOMENTS" = some (.int 400 t)

abbrev fl_Band : List Str := ["cell_list", "seed_list", "row_list", "known_rows", "lot_list"]

abbrev fl_Stream : List Str := ["band", "row_list"]

abbrev s_is_name : Stmt := top 15
abbrev n_is_name : List Str := ["value", "sign"]
theorem sc_is_name : FnScope n_is_name ["value"] (defScope s_is_name) := ⟨rfl, rfl, rfl, by decide +kernel, rfl, by decide +kernel, by decide +kernel⟩

abbrev s_is_number : Stmt := top 16
abbrev n_is_number : List Str := ["value", "least", "most"]
theorem sc_is_number : FnScope n_is_number ["value", "least", "most"] (defScope s_is_number) := ⟨rfl, rfl, rfl, by decide +kernel, rfl, by decide +kernel, by decide +kernel⟩

abbrev s_check_cells : Stmt := top 22
abbrev n_check_cells : List Str := ["cells", "names", "at", "cell", "name", "many"]
theorem sc_check_cells : FnScope n_check_cells ["cells"] (defScope s_check_cells) := ⟨rfl, rfl, rfl, by decide +kernel, rfl, by decide +kernel, by decide +kernel⟩

abbrev s_is_row : Stmt := top 23
abbrev n_is_row : List Str := ["cells", "value", "sign", "cell"]
theorem sc_is_row : FnScope n_is_row ["cells", "value"] (defScope s_is_row) := ⟨rfl, rfl, rfl, by decide +kernel, rfl, by decide +kernel, by decide +kernel⟩

abbrev s_over : Stmt := top 24
abbrev n_over : List Str := ["newer", "older", "sign", "below"]
theorem sc_over : FnScope n_over ["newer", "older"] (defScope s_over) := ⟨rfl, rfl, rfl, by decide +kernel, rfl, by decide +kernel, by decide +kernel⟩

abbrev s_lot_of : Stmt := top 25
abbrev n_lot_of : List Str := ["row", "sign"]
theorem sc_lot_of : FnScope n_lot_of ["row"] (defScope s_lot_of) := ⟨rfl, rfl, rfl, by decide +kernel, rfl, by decide +kernel, by decide +kernel⟩

abbrev s_blank : Stmt := top 26
abbrev n_blank : List Str := ["many"]
theorem sc_blank : FnScope n_blank ["many"] (defScope s_blank) := ⟨rfl, rfl, rfl, by decide +kernel, rfl, by decide +kernel, by decide +kernel⟩

abbrev s_within : Stmt := top 27
abbrev n_within : List Str := ["one", "other", "sign", "outer"]
theorem sc_within : FnScope n_within ["one", "other"] (defScope s_within) := ⟨rfl, rfl, rfl, by decide +kernel, rfl, by decide +kernel, by decide +kernel⟩

abbrev s_union : Stmt := top 28
abbrev n_union : List Str := ["one", "other", "sign", "second"]
theorem sc_union : FnScope n_union ["one", "other"] (defScope s_union) := ⟨rfl, rfl, rfl, by decide +kernel, rfl, by decide +kernel, by decide +kernel⟩

abbrev s_lot_size : Stmt := top 29
abbrev n_lot_size : List Str := ["lot"]
theorem sc_lot_size : FnScope n_lot_size ["lot"] (defScope s_lot_size) := ⟨rfl, rfl, rfl, by decide +kernel, rfl, by decide +kernel, by decide +kernel⟩

abbrev s_ordered_lots : Stmt := top 30
abbrev n_ordered_lots : List Str := ["lots"]
theorem sc_ordered_lots : FnScope n_ordered_lots ["lots"] (defScope s_ordered_lots) := ⟨rfl, rfl, rfl, by decide +kernel, rfl, by decide +kernel, by decide +kernel⟩

abbrev s_newest_tellers : Stmt := top 32
abbrev n_newest_tellers : List Str := ["pairs", "told", "tellers", "moment", "row", "lot"]
theorem sc_newest_tellers : FnScope n_newest_tellers ["pairs", "told"] (defScope s_newest_tellers) := ⟨rfl, rfl, rfl, by decide +kernel, rfl, by decide +kernel, by decide +kernel⟩

abbrev s_window_standings : Stmt := top 34
abbrev n_window_standings : List Str := ["nothing", "tellers", "end", "pairs", "standing", "latest", "moment", "row"]
theorem sc_window_standings : FnScope n_window_standings ["nothing", "tellers", "end"] (defScope s_window_standings) := ⟨rfl, rfl, rfl, by decide +kernel, rfl, by decide +kernel, by decide +kernel⟩

abbrev s_standing_counts : Stmt := top 35
abbrev n_standing_counts : List Str := ["stream", "nothing", "counts", "tellers", "at", "row", "end", "standing", "many"]
theorem sc_standing_counts : FnScope n_standing_counts ["stream"] (defScope s_standing_counts) := ⟨rfl, rfl, rfl, by decide +kernel, rfl, by decide +kernel, by decide +kernel⟩

abbrev s_check_seeds : Stmt := top 51
abbrev n_check_seeds : List Str := ["cells", "seeds", "at", "seed", "cell"]
theorem sc_check_seeds : FnScope n_check_seeds ["cells", "seeds"] (defScope s_check_seeds) := ⟨rfl, rfl, rfl, by decide +kernel, rfl, by decide +kernel, by decide +kernel⟩

abbrev s_grown_rows : Stmt := top 52
abbrev n_grown_rows : List Str := ["seeds", "first", "most", "rows", "known", "at", "seed", "row"]
theorem sc_grown_rows : FnScope n_grown_rows ["seeds", "first", "most"] (defScope s_grown_rows) := ⟨rfl, rfl, rfl, by decide +kernel, rfl, by decide +kernel, by decide +kernel⟩

abbrev s_Band___init__ : Stmt := mem (top 53) 0
abbrev n_Band___init__ : List Str := ["self", "cells", "seeds", "most", "rows", "row"]
theorem sc_Band___init__ : FnScope n_Band___init__ ["self", "cells", "seeds", "most"] (defScope s_Band___init__) := ⟨rfl, rfl, rfl, by decide +kernel, rfl, by decide +kernel, by decide +kernel⟩

abbrev s_Band_blank_row : Stmt := mem (top 53) 8
abbrev n_Band_blank_row : List Str := ["self"]
theorem sc_Band_blank_row : FnScope n_Band_blank_row ["self"] (defScope s_Band_blank_row) := ⟨rfl, rfl, rfl, by decide +kernel, rfl, by decide +kernel, by decide +kernel⟩

abbrev s_Band_check_row : Stmt := mem (top 53) 11
abbrev n_Band_check_row : List Str := ["self", "row"]
theorem sc_Band_check_row : FnScope n_Band_check_row ["self", "row"] (defScope s_Band_check_row) := ⟨rfl, rfl, rfl, by decide +kernel, rfl, by decide +kernel, by decide +kernel⟩

abbrev s_Stream___init__ : Stmt := mem (top 56) 0
abbrev n_Stream___init__ : List Str := ["self", "band", "rows", "row"]
theorem sc_Stream___init__ : FnScope n_Stream___init__ ["self", "band", "rows"] (defScope s_Stream___init__) := ⟨rfl, rfl, rfl, by decide +kernel, rfl, by decide +kernel, by decide +kernel⟩

abbrev s_Stream_rows : Stmt := mem (top 56) 3
abbrev n_Stream_rows : List Str := ["self"]
theorem sc_Stream_rows : FnScope n_Stream_rows ["self"] (defScope s_Stream_rows) := ⟨rfl, rfl, rfl, by decide +kernel, rfl, by decide +kernel, by decide +kernel⟩

abbrev s_Stream_tell : Stmt := mem (top 56) 8
abbrev n_Stream_tell : List Str := ["self", "rows", "row"]
theorem sc_Stream_tell : FnScope n_Stream_tell ["self", "rows"] (defScope s_Stream_tell) := ⟨rfl, rfl, rfl, by decide +kernel, rfl, by decide +kernel, by decide +kernel⟩

abbrev s_Stream_check_moment : Stmt := mem (top 56) 25
abbrev n_Stream_check_moment : List Str := ["self", "moment"]
theorem sc_Stream_check_moment : FnScope n_Stream_check_moment ["self", "moment"] (defScope s_Stream_check_moment) := ⟨rfl, rfl, rfl, by decide +kernel, rfl, by decide +kernel, by decide +kernel⟩

abbrev s_Stream_last_moment : Stmt := mem (top 56) 26
abbrev n_Stream_last_moment : List Str := ["self", "start", "end"]
theorem sc_Stream_last_moment : FnScope n_Stream_last_moment ["self", "start", "end"] (defScope s_Stream_last_moment) := ⟨rfl, rfl, rfl, by decide +kernel, rfl, by decide +kernel, by decide +kernel⟩

abbrev s_Stream_window_row : Stmt := mem (top 56) 27
abbrev n_Stream_window_row : List Str := ["self", "start", "end", "standing", "row"]
theorem sc_Stream_window_row : FnScope n_Stream_window_row ["self", "start", "end"] (defScope s_Stream_window_row) := ⟨rfl, rfl, rfl, by decide +kernel, rfl, by decide +kernel, by decide +kernel⟩

abbrev s_Stream_standing : Stmt := mem (top 56) 1
abbrev n_Stream_standing : List Str := ["self"]
theorem sc_Stream_standing : FnScope n_Stream_standing ["self"] (defScope s_Stream_standing) := ⟨rfl, rfl, rfl, by decide +kernel, rfl, by decide +kernel, by decide +kernel⟩

abbrev s_Stream_take : Stmt := mem (top 56) 10
abbrev n_Stream_take : List Str := ["self", "moment", "row"]
theorem sc_Stream_take : FnScope n_Stream_take ["self", "moment"] (defScope s_Stream_take) := ⟨rfl, rfl, rfl, by decide +kernel, rfl, by decide +kernel, by decide +kernel⟩

abbrev s__law_bag : Stmt := top 58
abbrev n__law_bag : List Str := ["_law_script", "_law_mixed", "_law_cell"]
theorem sc__law_bag : FnScope n__law_bag ["_law_script"] (defScope s__law_bag) := ⟨rfl, rfl, rfl, by decide +kernel, rfl, by decide +kernel, by decide +kernel⟩

abbrev s__law_draw : Stmt := top 59
abbrev n__law_draw : List Str := ["_law_bag_here", "_law_top", "_law_cell", "_law_digit", "_law_grain"]
theorem sc__law_draw : FnScope n__law_draw ["_law_bag_here", "_law_top"] (defScope s__law_draw) := ⟨rfl, rfl, rfl, by decide +kernel, rfl, by decide +kernel, by decide +kernel⟩

abbrev s__law_of : Stmt := top 60
abbrev n__law_of : List Str := ["_law_bag_here", "_law_some"]
theorem sc__law_of : FnScope n__law_of ["_law_bag_here", "_law_some"] (defScope s__law_of) := ⟨rfl, rfl, rfl, by decide +kernel, rfl, by decide +kernel, by decide +kernel⟩

abbrev s__law_same : Stmt := top 61
abbrev n__law_same : List Str := ["_law_found", "_law_due", "_law_p", "_law_q"]
theorem sc__law_same : FnScope n__law_same ["_law_found", "_law_due"] (defScope s__law_same) := ⟨rfl, rfl, rfl, by decide +kernel, rfl, by decide +kernel, by decide +kernel⟩

abbrev s__law_word : Stmt := top 62
abbrev n__law_word : List Str := ["_law_bag_here", "_law_size", "_law_number", "_law_found", "_law_k"]
theorem sc__law_word : FnScope n__law_word ["_law_bag_here"] (defScope s__law_word) := ⟨rfl, rfl, rfl, by decide +kernel, rfl, by decide +kernel, by decide +kernel⟩

abbrev s__law_frame : Stmt := top 63
abbrev n__law_frame : List Str := ["_law_bag_here", "_law_count", "_law_found", "_law_k", "_law_word_here", "_law_taken", "_law_pair", "_law_c"]
theorem sc__law_frame : FnScope n__law_frame ["_law_bag_here", "_law_count"] (defScope s__law_frame) := ⟨rfl, rfl, rfl, by decide +kernel, rfl, by decide +kernel, by decide +kernel⟩

abbrev s__law_seed : Stmt := top 64
abbrev n__law_seed : List Str := ["_law_bag_here", "_law_frame_here", "_law_share", "_law_full", "_law_spot", "_law_found", "_law_k", "_law_sign", "_law_hidden"]
theorem sc__law_seed : FnScope n__law_seed ["_law_bag_here", "_law_frame_here", "_law_share"] (defScope s__law_seed) := ⟨rfl, rfl, rfl, by decide +kernel, rfl, by decide +kernel, by decide +kernel⟩

abbrev s__law_mended : Stmt := top 65
abbrev n__law_mended : List Str := ["_law_frame_here", "_law_sown", "_law_last", "_law_k", "_law_line_here"]
theorem sc__law_mended : FnScope n__law_mended ["_law_frame_here", "_law_sown"] (defScope s__law_mended) := ⟨rfl, rfl, rfl, by decide +kernel, rfl, by decide +kernel, by decide +kernel⟩

abbrev s__law_over : Stmt := top 66
abbrev n__law_over : List Str := ["_law_one", "_law_two", "_law_k"]
theorem sc__law_over : FnScope n__law_over ["_law_one", "_law_two"] (defScope s__law_over) := ⟨rfl, rfl, rfl, by decide +kernel, rfl, by decide +kernel, by decide +kernel⟩

abbrev s__law_closed : Stmt := top 67
abbrev n__law_closed : List Str := ["_law_sown", "_law_cap", "_law_found", "_law_k", "_law_line_here", "_law_laid"]
theorem sc__law_closed : FnScope n__law_closed ["_law_sown", "_law_cap"] (defScope s__law_closed) := ⟨rfl, rfl, rfl, by decide +kernel, rfl, by decide +kernel, by decide +kernel⟩

abbrev s__law_home : Stmt := top 68
abbrev n__law_home : List Str := ["_law_bag_here", "_law_frame_here", "_law_share", "_law_drawn", "_law_kept", "_law_k", "_law_line_here", "_law_sown", "_law_count", "_law_turn"]
theorem sc__law_home : FnScope n__law_home ["_law_bag_here"] (defScope s__law_home) := ⟨rfl, rfl, rfl, by decide +kernel, rfl, by decide +kernel, by decide +kernel⟩

abbrev s__law_line : Stmt := top 69
abbrev n__law_line : List Str := ["_law_bag_here", "_law_sown", "_law_kept", "_law_way"]
theorem sc__law_line : FnScope n__law_line ["_law_bag_here", "_law_sown", "_law_kept"] (defScope s__law_line) := ⟨rfl, rfl, rfl, by decide +kernel, rfl, by decide +kernel, by decide +kernel⟩

abbrev s__law_past : Stmt := top 70
abbrev n__law_past : List Str := ["_law_bag_here", "_law_sown", "_law_kept", "_law_count", "_law_found", "_law_k", "_law_line_here"]
theorem sc__law_past : FnScope n__law_past ["_law_bag_here", "_law_sown", "_law_kept", "_law_count"] (defScope s__law_past) := ⟨rfl, rfl, rfl, by decide +kernel, rfl, by decide +kernel, by decide +kernel⟩

abbrev s__law_standing : Stmt := top 71
abbrev n__law_standing : List Str := ["_law_wide", "_law_part", "_law_found", "_law_k", "_law_signs", "_law_line_here"]
theorem sc__law_standing : FnScope n__law_standing ["_law_wide", "_law_part"] (defScope s__law_standing) := ⟨rfl, rfl, rfl, by decide +kernel, rfl, by decide +kernel, by decide +kernel⟩

abbrev s__law_counted : Stmt := top 72
abbrev n__law_counted : List Str := ["_law_wide", "_law_past_here", "_law_found", "_law_high", "_law_signs", "_law_low", "_law_word_here", "_law_k"]
theorem sc__law_counted : FnScope n__law_counted ["_law_wide", "_law_past_here"] (defScope s__law_counted) := ⟨rfl, rfl, rfl, by decide +kernel, rfl, by decide +kernel, by decide +kernel⟩

abbrev s__law_right : Stmt := top 73
abbrev n__law_right : List Str := ["_law_flow", "_law_wide", "_law_past_here", "_law_named", "_law_told", "_law_due", "_law_pairs", "_law_again", "_law_p", "_law_q", "_law_pair"]
theorem sc__law_right : FnScope n__law_right ["_law_flow", "_law_wide", "_law_past_here", "_law_named"] (defScope s__law_right) := ⟨rfl, rfl, rfl, by decide +kernel, rfl, by decide +kernel, by decide +kernel⟩

abbrev s_law : Stmt := top 74
abbrev n_law : List Str := ["_law_script", "_law_bag_here", "_law_frame_here", "_law_sown", "_law_kept", "_law_wide", "_law_past_here", "_law_flow", "_law_turn", "_law_line_here", "_law_spot"]
theorem sc_law : FnScope n_law ["_law_script"] (defScope s_law) := ⟨rfl, rfl, rfl, by decide +kernel, rfl, by decide +kernel, by decide +kernel⟩

section
variable {P : Program} {w : World} {K : PySem.W.Frag} {mg : Str → Option Value} {base : Heap}

def t_is_name (K : PySem.W.Frag) : TS := (tSeq (tIfS (tOr (tNot (tB (tCB (rIsi K) (tCons (tVar 0) (tCons (tC (.ty "str")) tNil))))) (tNot (tTest (tChain rLeU rLeU (tC (.int 1)) (tCB (rLen K) (tCons (tVar 0) tNil)) (tC (.int 6)))))) (tRet (tC (.bl false))) tNext)
    (tRet (tCB (rAll K) (tCons (tLc (iSrc K (tVar 0)) (gName 1) tYes (tOp (rInU K) (tVar 1) (tC (.str (T [97, 98, 99, 100, 101, 102, 103, 104, 105, 106, 107, 108, 109, 110, 111, 112, 113, 114, 115, 116, 117, 118, 119, 120, 121, 122])))) [1]) tNil))))

theorem w_is_name (B : Bl mg)     {f : Addr} {cdv : Value} {A : Around} {outer : List Env} {s : Shared} {H : Hp} {E : XK} (hr : Room 0 (A.deeper (envOfC "is_name" (defScope s_is_name) s.heap.objs.size f cdv))) :
    PSs (cxOf (L2.CX P w) P w K mg base n_is_name "is_name" (defScope s_is_name) f cdv A outer s H E).nox (defBody s_is_name) (t_is_name K ) := by
  have nd := sc_is_name.nd
  have hu := hr.units
  have hv := units5 hr
  have h1 := units1 hr
  exact (pss_cons (ps_if (PW.pt (pw_or (pt_not (pt_val (pe_callB call_isi (by rfl) B.f_isinstance (by decide +kernel) (pa_cons (pv 0) (pa_cons (pe_bltn (by rfl) B.f_str (by decide +kernel) rfl) pa_nil))))) (pw_or1 (pt_not (pt_chain op_leU op_leU pe_int (pe_callB call_lenU (by rfl) B.f_len (by decide +kernel) (pa_cons (pv 0) pa_nil)) pe_int))))) (pss_one (ps_ret pe_bl)) pss_nil)
    (pss_one (ps_ret (pe_callB (cr_all rfl) (by rfl) B.f_all (by decide +kernel) (pa_cons (pe_lc (own := [("sign", 1)]) rfl nd (pi_src (pv 0)) (blkOk_by (own := [("sign", 1)]) (N := n_is_name) (sc := defScope s_is_name) (by decide +kernel)) (fun _ _ _ _ _ => (pg_name (i := 1) nd rfl (Or.inl rfl))) (fun _ _ _ _ _ => pts_nil) (fun _ _ _ _ _ => (pe_cmpR (op_inU hv) (pv 1) (pe_globS rfl B.c_LETTERS) (by rfl)))) pa_nil)))))

def t_is_number (K : PySem.W.Frag) : TS := (tRet (tAndV (tCB (rIsi K) (tCons (tVar 0) (tCons (tC (.ty "int")) tNil))) (tAndV (tNotV (tCB (rIsi K) (tCons (tVar 0) (tCons (tC (.ty "bool")) tNil)))) (tChain rLeU rLeU (tVar 1) (tVar 0) (tVar 2)))))

theorem w_is_number (B : Bl mg)     {f : Addr} {cdv : Value} {A : Around} {outer : List Env} {s : Shared} {H : Hp} {E : XK} (hr : Room 0 (A.deeper (envOfC "is_number" (defScope s_is_number) s.heap.objs.size f cdv))) :
    PSs (cxOf (L2.CX P w) P w K mg base n_is_number "is_number" (defScope s_is_number) f cdv A outer s H E).nox (defBody s_is_number) (t_is_number K ) := by
  have nd := sc_is_number.nd
  have hu := hr.units
  have hv := units5 hr
  have h1 := units1 hr
  exact (pss_one (ps_ret (pe_and (pe_callB call_isi (by rfl) B.f_isinstance (by decide +kernel) (pa_cons (pv 0) (pa_cons (pe_bltn (by rfl) B.f_int (by decide +kernel) rfl) pa_nil))) (pe_and (pe_not (pe_callB call_isi (by rfl) B.f_isinstance (by decide +kernel) (pa_cons (pv 0) (pa_cons (pe_bltn (by rfl) B.f_bool (by decide +kernel) rfl) pa_nil)))) (pe_one (pe_chain op_leU op_leU (pv 1) (pv 0) (pv 2)))))))

def t_check_cells (K : PySem.W.Frag) (sp_is_name sp_is_number : Sp) : TS := (tSeq (tIfS (tOr (tNot (tB (tCB (rIsiT K) (tCons (tVar 0) (tCons (tTup (tCons (tC (.ty "list")) (tCons (tC (.ty "tuple")) tNil))) tNil))))) (tNot (tTest (tChain rLeU rLeU (tC (.int 1)) (tCB (rLen K) (tCons (tVar 0) tNil)) (tC (.int 12)))))) tNever tNext)
    (tSeq (tAsg (tLst tNil) (gName 1))
    (tFor (iEnumS K (tCons (tVar 0) tNil)) (gTup K 2 (gCons (gName 2) (gCons (gName 3) gNil)))
    (tSeq (tIfS (tOr (tNot (tB (tCB (rIsi K) (tCons (tVar 3) (tCons (tC (.ty "tuple")) tNil))))) (tTest (tOp (rNeU K) (tCB (rLen K) (tCons (tVar 3) tNil)) (tC (.int 2))))) tNever tNext)
    (tSeq (tAsg (tVar 3) (gTup K 2 (gCons (gName 4) (gCons (gName 5) gNil))))
    (tSeq (tIfS (tOr (tNot (tB (tCall sp_is_name (([] : List V).drop 0) E0 (tCons (tVar 4) tNil)))) (tOr (tNot (tB (tCall sp_is_number (([] : List V).drop 0) E0 (tCons (tVar 5) (tCons (tC (.int 1)) (tCons (tC (.int 4)) tNil)))))) (tTest (tOp (rInU K) (tVar 4) (tVar 1))))) tNever tNext)
    (tDrop (tBM K "list" rAppend (tVar 1) (tCons (tVar 4) tNil)))))))))

theorem w_check_cells (B : Bl mg)    {sp_is_name : Sp} (G_is_name : Df P w K mg base 1 "is_name" ["value"] [] sp_is_name) {sp_is_number : Sp} (G_is_number : Df P w K mg base 1 "is_number" ["value", "least", "most"] [] sp_is_number) {f : Addr} {cdv : Value} {A : Around} {outer : List Env} {s : Shared} {H : Hp} {E : XK} (hr : Room 1 (A.deeper (envOfC "check_cells" (defScope s_check_cells) s.heap.objs.size f cdv))) :
    PSs (cxOf (L2.CX P w) P w K mg base n_check_cells "check_cells" (defScope s_check_cells) f cdv A outer s H E).nox (defBody s_check_cells) (t_check_cells K sp_is_name sp_is_number) := by
  have nd := sc_check_cells.nd
  have hu := hr.units
  have hv := units5 hr
  have h1 := units1 hr
  exact (pss_cons (ps_if (PW.pt (pw_or (pt_not (pt_val (pe_callB call_isiT (by rfl) B.f_isinstance (by decide +kernel) (pa_cons (pv 0) (pa_cons (pe_tup (pa_cons (pe_bltn (by rfl) B.f_list (by decide +kernel) rfl) (pa_cons (pe_bltn (by rfl) B.f_tuple (by decide +kernel) rfl) pa_nil))) pa_nil))))) (pw_or1 (pt_not (pt_chain op_leU op_leU pe_int (pe_callB call_lenU (by rfl) B.f_len (by decide +kernel) (pa_cons (pv 0) pa_nil)) (pe_globI rfl B.c_MOST_CELLS)))))) (pss_one ps_never) pss_nil)
    (pss_cons (ps_set (i := 1) nd rfl (Or.inl rfl) (pe_lst pa_nil))
    (pss_one (ps_for PassesOwn.never rfl (pi_enumS (by rfl) B.f_enumerate (pa_cons (pv 0) pa_nil)) (pg_tup (by rfl) (pgs_cons (pg_name (i := 2) nd rfl (Or.inl rfl)) (pgs_cons (pg_name (i := 3) nd rfl (Or.inl rfl)) pgs_nil)))
    (pss_cons (ps_if (PW.pt (pw_or (pt_not (pt_val (pe_callB call_isi (by rfl) B.f_isinstance (by decide +kernel) (pa_cons (pv 3) (pa_cons (pe_bltn (by rfl) B.f_tuple (by decide +kernel) rfl) pa_nil))))) (pw_or1 (pt_cmpR (op_neU hu) (pe_callB call_lenU (by rfl) B.f_len (by decide +kernel) (pa_cons (pv 3) pa_nil)) pe_int (nomark _))))) (pss_one ps_never) pss_nil)
    (pss_cons (ps_asg (pv 3) (pg_tup (by rfl) (pgs_cons (pg_name (i := 4) nd rfl (Or.inl rfl)) (pgs_cons (pg_name (i := 5) nd rfl (Or.inl rfl)) pgs_nil))))
    (pss_cons (ps_if (PW.pt (pw_or (pt_not (pt_val (pe_df 0 G_is_name (hr.mono (by decide)) (by rfl) (pa_cons (pv 4) pa_nil)))) (pw_or (pt_not (pt_val (pe_df 0 G_is_number (hr.mono (by decide)) (by rfl) (pa_cons (pv 5) (pa_cons pe_int (pa_cons (pe_globI rfl B.c_MOST_VALUES) pa_nil)))))) (pw_or1 (pt_cmpR (op_inU hv) (pv 4) (pv 1) (by rfl)))))) (pss_one ps_never) pss_nil)
    (pss_one (ps_expr (pe_bm PySem.F.plainAttrs_list PySem.F.slot_list_append PySem.F.type_list_append mt_append (pv 1) (pa_cons (pv 4) pa_nil)))))))))))

def t_is_row (K : PySem.W.Frag) : TS := (tSeq (tIfS (tOr (tNot (tB (tCB (rIsi K) (tCons (tVar 1) (tCons (tC (.ty "str")) tNil))))) (tTest (tOp (rNeU K) (tCB (rLen K) (tCons (tVar 1) tNil)) (tCB (rLen K) (tCons (tVar 0) tNil))))) (tRet (tC (.bl false))) tNext)
    (tRet (tCB (rAll K) (tCons (tLc (iZipS K (tCons (tVar 1) (tCons (tVar 0) tNil))) (gTup K 2 (gCons (gName 2) (gCons (gName 3) gNil))) tYes (tOp (rInU K) (tVar 2) (tSl (rSlU K) (tC (.str (T [46, 48, 49, 50, 51]))) tNoPart (tPart (tOp (rAddU K) (tOp (rIx K) (tVar 3) (tC (.int 1))) (tC (.int 1)))))) [2, 3]) tNil))))

theorem w_is_row (B : Bl mg)     {f : Addr} {cdv : Value} {A : Around} {outer : List Env} {s : Shared} {H : Hp} {E : XK} (hr : Room 0 (A.deeper (envOfC "is_row" (defScope s_is_row) s.heap.objs.size f cdv))) :
    PSs (cxOf (L2.CX P w) P w K mg base n_is_row "is_row" (defScope s_is_row) f cdv A outer s H E).nox (defBody s_is_row) (t_is_row K ) := by
  have nd := sc_is_row.nd
  have hu := hr.units
  have hv := units5 hr
  have h1 := units1 hr
  exact (pss_cons (ps_if (PW.pt (pw_or (pt_not (pt_val (pe_callB call_isi (by rfl) B.f_isinstance (by decide +kernel) (pa_cons (pv 1) (pa_cons (pe_bltn (by rfl) B.f_str (by decide +kernel) rfl) pa_nil))))) (pw_or1 (pt_cmpR (op_neU hu) (pe_callB call_lenU (by rfl) B.f_len (by decide +kernel) (pa_cons (pv 1) pa_nil)) (pe_callB call_lenU (by rfl) B.f_len (by decide +kernel) (pa_cons (pv 0) pa_nil)) (nomark _))))) (pss_one (ps_ret pe_bl)) pss_nil)
    (pss_one (ps_ret (pe_callB (cr_all rfl) (by rfl) B.f_all (by decide +kernel) (pa_cons (pe_lc (own := [("sign", 2), ("cell", 3)]) rfl nd (pi_zipS (by rfl) B.f_zip (pa_cons (pv 1) (pa_cons (pv 0) pa_nil))) (blkOk_by (own := [("sign", 2), ("cell", 3)]) (N := n_is_row) (sc := defScope s_is_row) (by decide +kernel)) (fun _ _ _ _ _ => (pg_tup (by rfl) (pgs_cons (pg_name (i := 2) nd rfl (Or.inl rfl)) (pgs_cons (pg_name (i := 3) nd rfl (Or.inl rfl)) pgs_nil)))) (fun _ _ _ _ _ => pts_nil) (fun _ _ _ _ _ => (pe_cmpR (op_inU hv) (pv 2) (pe_slice sl_U (pe_strT (by decide +kernel)) po_none (po_some (pe_op op_addU (pe_ix ix_seq (pv 3) pe_int (fun _ _ => rfl)) pe_int))) (by rfl)))) pa_nil)))))

def t_over (K : PySem.W.Frag) : TS := (tRet (tM1 (rJoin K) (tC (.str (T []))) (tLc (iZipS K (tCons (tVar 0) (tCons (tVar 1) tNil))) (gTup K 2 (gCons (gName 2) (gCons (gName 3) gNil))) tYes (tIf (tTest (tOp (rEqU K) (tVar 2) (tC (.str (T [46]))))) (tVar 3) (tVar 2)) [2, 3])))

theorem w_over (B : Bl mg)     {f : Addr} {cdv : Value} {A : Around} {outer : List Env} {s : Shared} {H : Hp} {E : XK} (hr : Room 0 (A.deeper (envOfC "over" (defScope s_over) s.heap.objs.size f cdv))) :
    PSs (cxOf (L2.CX P w) P w K mg base n_over "over" (defScope s_over) f cdv A outer s H E).nox (defBody s_over) (t_over K ) := by
  have nd := sc_over.nd
  have hu := hr.units
  have hv := units5 hr
  have h1 := units1 hr
  exact (pss_one (ps_ret (pe_joinU (pe_strT (by decide +kernel)) (pe_lc (own := [("sign", 2), ("below", 3)]) rfl nd (pi_zipS (by rfl) B.f_zip (pa_cons (pv 0) (pa_cons (pv 1) pa_nil))) (blkOk_by (own := [("sign", 2), ("below", 3)]) (N := n_over) (sc := defScope s_over) (by decide +kernel)) (fun _ _ _ _ _ => (pg_tup (by rfl) (pgs_cons (pg_name (i := 2) nd rfl (Or.inl rfl)) (pgs_cons (pg_name (i := 3) nd rfl (Or.inl rfl)) pgs_nil)))) (fun _ _ _ _ _ => pts_nil) (fun _ _ _ _ _ => (pe_ifExp (pt_cmpR (op_eqU hu) (pv 2) (pe_strT (by decide +kernel)) (nomark _)) (pv 3) (pv 2)))))))

def t_lot_of (K : PySem.W.Frag) : TS := (tRet (tM1 (rJoin K) (tC (.str (T []))) (tLc (iSrc K (tVar 0)) (gName 1) tYes (tIf (tTest (tOp (rEqU K) (tVar 1) (tC (.str (T [46]))))) (tC (.str (T [46]))) (tC (.str (T [43])))) [1])))

theorem w_lot_of (B : Bl mg)     {f : Addr} {cdv : Value} {A : Around} {outer : List Env} {s : Shared} {H : Hp} {E : XK} (hr : Room 0 (A.deeper (envOfC "lot_of" (defScope s_lot_of) s.heap.objs.size f cdv))) :
    PSs (cxOf (L2.CX P w) P w K mg base n_lot_of "lot_of" (defScope s_lot_of) f cdv A outer s H E).nox (defBody s_lot_of) (t_lot_of K ) := by
  have nd := sc_lot_of.nd
  have hu := hr.units
  have hv := units5 hr
  have h1 := units1 hr
  exact (pss_one (ps_ret (pe_joinU (pe_strT (by decide +kernel)) (pe_lc (own := [("sign", 1)]) rfl nd (pi_src (pv 0)) (blkOk_by (own := [("sign", 1)]) (N := n_lot_of) (sc := defScope s_lot_of) (by decide +kernel)) (fun _ _ _ _ _ => (pg_name (i := 1) nd rfl (Or.inl rfl))) (fun _ _ _ _ _ => pts_nil) (fun _ _ _ _ _ => (pe_ifExp (pt_cmpR (op_eqU hu) (pv 1) (pe_strT (by decide +kernel)) (nomark _)) (pe_strT (by decide +kernel)) (pe_strT (by decide +kernel))))))))

def t_blank (K : PySem.W.Frag) : TS := (tRet (tOp rMulU (tC (.str (T [46]))) (tVar 0)))

theorem w_blank (B : Bl mg)     {f : Addr} {cdv : Value} {A : Around} {outer : List Env} {s : Shared} {H : Hp} {E : XK} (hr : Room 0 (A.deeper (envOfC "blank" (defScope s_blank) s.heap.objs.size f cdv))) :
    PSs (cxOf (L2.CX P w) P w K mg base n_blank "blank" (defScope s_blank) f cdv A outer s H E).nox (defBody s_blank) (t_blank K ) := by
  have nd := sc_blank.nd
  have hu := hr.units
  have hv := units5 hr
  have h1 := units1 hr
  exact (pss_one (ps_ret (pe_op op_mulU (pe_strT (by decide +kernel)) (pv 0))))

def t_within (K : PySem.W.Frag) : TS := (tRet (tCB (rAll K) (tCons (tLc (iZipS K (tCons (tVar 0) (tCons (tVar 1) tNil))) (gTup K 2 (gCons (gName 2) (gCons (gName 3) gNil))) tYes (tOrV (tOp (rEqU K) (tVar 2) (tC (.str (T [46])))) (tOp (rEqU K) (tVar 3) (tC (.str (T [43]))))) [2, 3]) tNil)))

theorem w_within (B : Bl mg)     {f : Addr} {cdv : Value} {A : Around} {outer : List Env} {s : Shared} {H : Hp} {E : XK} (hr : Room 0 (A.deeper (envOfC "within" (defScope s_within) s.heap.objs.size f cdv))) :
    PSs (cxOf (L2.CX P w) P w K mg base n_within "within" (defScope s_within) f cdv A outer s H E).nox (defBody s_within) (t_within K ) := by
  have nd := sc_within.nd
  have hu := hr.units
  have hv := units5 hr
  have h1 := units1 hr
  exact (pss_one (ps_ret (pe_callB (cr_all rfl) (by rfl) B.f_all (by decide +kernel) (pa_cons (pe_lc (own := [("sign", 2), ("outer", 3)]) rfl nd (pi_zipS (by rfl) B.f_zip (pa_cons (pv 0) (pa_cons (pv 1) pa_nil))) (blkOk_by (own := [("sign", 2), ("outer", 3)]) (N := n_within) (sc := defScope s_within) (by decide +kernel)) (fun _ _ _ _ _ => (pg_tup (by rfl) (pgs_cons (pg_name (i := 2) nd rfl (Or.inl rfl)) (pgs_cons (pg_name (i := 3) nd rfl (Or.inl rfl)) pgs_nil)))) (fun _ _ _ _ _ => pts_nil) (fun _ _ _ _ _ => (pe_or (pe_cmpR (op_eqU hu) (pv 2) (pe_strT (by decide +kernel)) (nomark _)) (pe_one (pe_cmpR (op_eqU hu) (pv 3) (pe_strT (by decide +kernel)) (nomark _)))))) pa_nil))))

def t_union (K : PySem.W.Frag) : TS := (tRet (tM1 (rJoin K) (tC (.str (T []))) (tLc (iZipS K (tCons (tVar 0) (tCons (tVar 1) tNil))) (gTup K 2 (gCons (gName 2) (gCons (gName 3) gNil))) tYes (tIf (tTest (tOp (rInU K) (tC (.str (T [43]))) (tTup (tCons (tVar 2) (tCons (tVar 3) tNil))))) (tC (.str (T [43]))) (tC (.str (T [46])))) [2, 3])))

theorem w_union (B : Bl mg)     {f : Addr} {cdv : Value} {A : Around} {outer : List Env} {s : Shared} {H : Hp} {E : XK} (hr : Room 0 (A.deeper (envOfC "union" (defScope s_union) s.heap.objs.size f cdv))) :
    PSs (cxOf (L2.CX P w) P w K mg base n_union "union" (defScope s_union) f cdv A outer s H E).nox (defBody s_union) (t_union K ) := by
  have nd := sc_union.nd
  have hu := hr.units
  have hv := units5 hr
  have h1 := units1 hr
  exact (pss_one (ps_ret (pe_joinU (pe_strT (by decide +kernel)) (pe_lc (own := [("sign", 2), ("second", 3)]) rfl nd (pi_zipS (by rfl) B.f_zip (pa_cons (pv 0) (pa_cons (pv 1) pa_nil))) (blkOk_by (own := [("sign", 2), ("second", 3)]) (N := n_union) (sc := defScope s_union) (by decide +kernel)) (fun _ _ _ _ _ => (pg_tup (by rfl) (pgs_cons (pg_name (i := 2) nd rfl (Or.inl rfl)) (pgs_cons (pg_name (i := 3) nd rfl (Or.inl rfl)) pgs_nil)))) (fun _ _ _ _ _ => pts_nil) (fun _ _ _ _ _ => (pe_ifExp (pt_cmpR (op_inU hv) (pe_strT (by decide +kernel)) (pe_tup (pa_cons (pv 2) (pa_cons (pv 3) pa_nil))) (by rfl)) (pe_strT (by decide +kernel)) (pe_strT (by decide +kernel))))))))

def t_lot_size (K : PySem.W.Frag) : TS := (tRet (tM1 rCount (tVar 0) (tC (.str (T [43])))))

theorem w_lot_size (B : Bl mg)     {f : Addr} {cdv : Value} {A : Around} {outer : List Env} {s : Shared} {H : Hp} {E : XK} (hr : Room 0 (A.deeper (envOfC "lot_size" (defScope s_lot_size) s.heap.objs.size f cdv))) :
    PSs (cxOf (L2.CX P w) P w K mg base n_lot_size "lot_size" (defScope s_lot_size) f cdv A outer s H E).nox (defBody s_lot_size) (t_lot_size K ) := by
  have nd := sc_lot_size.nd
  have hu := hr.units
  have hv := units5 hr
  have h1 := units1 hr
  exact (pss_one (ps_ret (pe_countU (pv 0) (pe_strT (by decide +kernel)))))

def t_newest_tellers (K : PySem.W.Frag) (sp_lot_of sp_union sp_within : Sp) : TS := (tSeq (tAsg (tLst tNil) (gName 2))
    (tSeq (tFor (iSrc K (tVar 0)) (gTup K 2 (gCons (gName 3) (gCons (gName 4) gNil)))
    (tSeq (tIfS (tTest (tOp (rNiU K) (tC (.str (T [46]))) (tVar 1))) tBreak tNext)
    (tSeq (tAsg (tCall sp_lot_of (([] : List V).drop 0) E0 (tCons (tVar 4) tNil)) (gName 5))
    (tIfS (tNot (tB (tCall sp_within (([] : List V).drop 0) E0 (tCons (tVar 5) (tCons (tVar 1) tNil))))) (tSeq (tDrop (tBM K "list" rAppend (tVar 2) (tCons (tTup (tCons (tVar 3) (tCons (tVar 4) tNil))) tNil)))
    (tAsg (tCall sp_union (([] : List V).drop 0) E0 (tCons (tVar 1) (tCons (tVar 5) tNil))) (gName 1))) tNext))))
    (tRet (tVar 2))))

theorem w_newest_tellers (B : Bl mg)    {sp_lot_of : Sp} (G_lot_of : Df P w K mg base 1 "lot_of" ["row"] [] sp_lot_of) {sp_union : Sp} (G_union : Df P w K mg base 1 "union" ["one", "other"] [] sp_union) {sp_within : Sp} (G_within : Df P w K mg base 1 "within" ["one", "other"] [] sp_within) {f : Addr} {cdv : Value} {A : Around} {outer : List Env} {s : Shared} {H : Hp} {E : XK} (hr : Room 1 (A.deeper (envOfC "newest_tellers" (defScope s_newest_tellers) s.heap.objs.size f cdv))) :
    PSs (cxOf (L2.CX P w) P w K mg base n_newest_tellers "newest_tellers" (defScope s_newest_tellers) f cdv A outer s H E).nox (defBody s_newest_tellers) (t_newest_tellers K sp_lot_of sp_union sp_within) := by
  have nd := sc_newest_tellers.nd
  have hu := hr.units
  have hv := units5 hr
  have h1 := units1 hr
  exact (pss_cons (ps_set (i := 2) nd rfl (Or.inl rfl) (pe_lst pa_nil))
    (pss_cons (ps_for PassesOwn.never rfl (pi_src (pv 0)) (pg_tup (by rfl) (pgs_cons (pg_name (i := 3) nd rfl (Or.inl rfl)) (pgs_cons (pg_name (i := 4) nd rfl (Or.inl rfl)) pgs_nil)))
    (pss_cons (ps_if (pt_cmpR (op_niU hv) (pe_strT (by decide +kernel)) (pv 1) (by rfl)) (pss_one ps_break) pss_nil)
    (pss_cons (ps_set (i := 5) nd rfl (Or.inl rfl) (pe_df 0 G_lot_of (hr.mono (by decide)) (by rfl) (pa_cons (pv 4) pa_nil)))
    (pss_one (ps_if (pt_not (pt_val (pe_df 0 G_within (hr.mono (by decide)) (by rfl) (pa_cons (pv 5) (pa_cons (pv 1) pa_nil))))) (pss_cons (ps_expr (pe_bm PySem.F.plainAttrs_list PySem.F.slot_list_append PySem.F.type_list_append mt_append (pv 2) (pa_cons (pe_tup (pa_cons (pv 3) (pa_cons (pv 4) pa_nil))) pa_nil)))
    (pss_one (ps_set (i := 1) nd rfl (Or.inl rfl) (pe_df 0 G_union (hr.mono (by decide)) (by rfl) (pa_cons (pv 1) (pa_cons (pv 5) pa_nil)))))) pss_nil)))))
    (pss_one (ps_ret (pv 2)))))

def t_window_standings (K : PySem.W.Frag) (sp_over : Sp) : TS := (tSeq (tAsg (tLst tNil) (gName 3))
    (tSeq (tAsg (tVar 0) (gName 4))
    (tSeq (tAsg (tVar 2) (gName 5))
    (tSeq (tFor (iSrc K (tVar 1)) (gTup K 2 (gCons (gName 6) (gCons (gName 7) gNil)))
    (tSeq (tIfS (tTest (tOp rLtU (tVar 6) (tVar 5))) (tDrop (tBM K "list" rAppend (tVar 3) (tCons (tTup (tCons (tVar 4) (tCons (tOp rSubU (tVar 5) (tVar 6)) tNil))) tNil))) tNext)
    (tSeq (tAsg (tCall sp_over (([] : List V).drop 0) E0 (tCons (tVar 4) (tCons (tVar 7) tNil))) (gName 4))
    (tAsg (tVar 6) (gName 5)))))
    (tSeq (tDrop (tBM K "list" rAppend (tVar 3) (tCons (tTup (tCons (tVar 4) (tCons (tVar 5) tNil))) tNil)))
    (tRet (tVar 3)))))))

theorem w_window_standings (B : Bl mg)    {sp_over : Sp} (G_over : Df P w K mg base 1 "over" ["newer", "older"] [] sp_over) {f : Addr} {cdv : Value} {A : Around} {outer : List Env} {s : Shared} {H : Hp} {E : XK} (hr : Room 1 (A.deeper (envOfC "window_standings" (defScope s_window_standings) s.heap.objs.size f cdv))) :
    PSs (cxOf (L2.CX P w) P w K mg base n_window_standings "window_standings" (defScope s_window_standings) f cdv A outer s H E).nox (defBody s_window_standings) (t_window_standings K sp_over) := by
  have nd := sc_window_standings.nd
  have hu := hr.units
  have hv := units5 hr
  have h1 := units1 hr
  exact (pss_cons (ps_set (i := 3) nd rfl (Or.inl rfl) (pe_lst pa_nil))
    (pss_cons (ps_set (i := 4) nd rfl (Or.inl rfl) (pv 0))
    (pss_cons (ps_set (i := 5) nd rfl (Or.inl rfl) (pv 2))
    (pss_cons (ps_for PassesOwn.never rfl (pi_src (pv 1)) (pg_tup (by rfl) (pgs_cons (pg_name (i := 6) nd rfl (Or.inl rfl)) (pgs_cons (pg_name (i := 7) nd rfl (Or.inl rfl)) pgs_nil)))
    (pss_cons (ps_if (pt_cmpR op_ltU (pv 6) (pv 5) (nomark _)) (pss_one (ps_expr (pe_bm PySem.F.plainAttrs_list PySem.F.slot_list_append PySem.F.type_list_append mt_append (pv 3) (pa_cons (pe_tup (pa_cons (pv 4) (pa_cons (pe_op op_subU (pv 5) (pv 6)) pa_nil))) pa_nil)))) pss_nil)
    (pss_cons (ps_set (i := 4) nd rfl (Or.inl rfl) (pe_df 0 G_over (hr.mono (by decide)) (by rfl) (pa_cons (pv 4) (pa_cons (pv 7) pa_nil))))
    (pss_one (ps_set (i := 5) nd rfl (Or.inl rfl) (pv 6))))))
    (pss_cons (ps_expr (pe_bm PySem.F.plainAttrs_list PySem.F.slot_list_append PySem.F.type_list_append mt_append (pv 3) (pa_cons (pe_tup (pa_cons (pv 4) (pa_cons (pv 5) pa_nil))) pa_nil)))
    (pss_one (ps_ret (pv 3))))))))

def t_standing_counts (K : PySem.W.Frag) (sp_Band_blank_row sp_Stream_rows sp_lot_of sp_newest_tellers sp_window_standings : Sp) : TS := (tSeq (tAsg (tMeth (He.ga K "Band") "blank_row" sp_Band_blank_row ([] : List V) E0 (tFld K (tVar 0) "band") tNil) (gName 1))
    (tSeq (tAsg tDNewK (gName 2))
    (tSeq (tAsg (tLst tNil) (gName 3))
    (tSeq (tFor (iEnumS K (tCons (tMeth (He.ga K "Stream") "rows" sp_Stream_rows ([] : List V) E0 (tVar 0) tNil) tNil)) (gTup K 2 (gCons (gName 4) (gCons (gName 5) gNil)))
    (tSeq (tAsg (tOp (rAddU K) (tVar 4) (tC (.int 1))) (gName 6))
    (tSeq (tAsg (tCall sp_newest_tellers (([] : List V).drop 0) E0 (tCons (tOp (rAddU K) (tLst (tCons (tTup (tCons (tVar 6) (tCons (tVar 5) tNil))) tNil)) (tVar 3)) (tCons (tCall sp_lot_of (([] : List V).drop 0) E0 (tCons (tVar 1) tNil)) tNil))) (gName 3))
    (tFor (iSrc K (tCall sp_window_standings (([] : List V).drop 0) E0 (tCons (tVar 1) (tCons (tVar 3) (tCons (tVar 6) tNil))))) (gTup K 2 (gCons (gName 7) (gCons (gName 8) gNil)))
    (sDPut (tVar 2) (tVar 7) (tOp (rAddU K) (tDGet2 (tVar 2) (tVar 7) (tC (.int 0))) (tVar 8)))))))
    (tRet (tDc (iSrc K (tCB ((rSortedS K)) (tCons (tCB rListD (tCons (tVar 2) tNil)) tNil))) (gName 7) tYes (tVar 7) (tDGet (tVar 2) (tVar 7)) [7]))))))

theorem w_standing_counts (B : Bl mg) (C_Band : ClsF K "Band" fl_Band) (C_Stream : ClsF K "Stream" fl_Stream)   {sp_Band_blank_row : Sp} (G_Band_blank_row : DfM P w K mg base 2 "Band" "blank_row" ["self"] ([] : List V) sp_Band_blank_row) {sp_Stream_rows : Sp} (G_Stream_rows : DfM P w K mg base 1 "Stream" "rows" ["self"] ([] : List V) sp_Stream_rows) {sp_lot_of : Sp} (G_lot_of : Df P w K mg base 1 "lot_of" ["row"] [] sp_lot_of) {sp_newest_tellers : Sp} (G_newest_tellers : Df P w K mg base 2 "newest_tellers" ["pairs", "told"] [] sp_newest_tellers) {sp_window_standings : Sp} (G_window_standings : Df P w K mg base 2 "window_standings" ["nothing", "tellers", "end"] [] sp_window_standings) {f : Addr} {cdv : Value} {A : Around} {outer : List Env} {s : Shared} {H : Hp} {E : XK} (hr : Room 2 (A.deeper (envOfC "standing_counts" (defScope s_standing_counts) s.heap.objs.size f cdv))) :
    PSs (cxOf (L2.CX P w) P w K mg base n_standing_counts "standing_counts" (defScope s_standing_counts) f cdv A outer s H E).nox (defBody s_standing_counts) (t_standing_counts K sp_Band_blank_row sp_Stream_rows sp_lot_of sp_newest_tellers sp_window_standings) := by
  have nd := sc_standing_counts.nd
  have hu := hr.units
  have hv := units5 hr
  have h1 := units1 hr
  exact (pss_cons (ps_set (i := 1) nd rfl (Or.inl rfl) (pe_dm0 G_Band_blank_row C_Band (hr.mono (by decide)) (pe_fld (pv 0) (by rfl))))
    (pss_cons (ps_set (i := 2) nd rfl (Or.inr rfl) pe_dnewK)
    (pss_cons (ps_set (i := 3) nd rfl (Or.inl rfl) (pe_lst pa_nil))
    (pss_cons (ps_for PassesOwn.never rfl (pi_enumS (by rfl) B.f_enumerate (pa_cons (pe_dm0 G_Stream_rows C_Stream (hr.mono (by decide)) (pv 0)) pa_nil)) (pg_tup (by rfl) (pgs_cons (pg_name (i := 4) nd rfl (Or.inl rfl)) (pgs_cons (pg_name (i := 5) nd rfl (Or.inl rfl)) pgs_nil)))
    (pss_cons (ps_set (i := 6) nd rfl (Or.inl rfl) (pe_op op_addU (pv 4) pe_int))
    (pss_cons (ps_set (i := 3) nd rfl (Or.inl rfl) (pe_df 0 G_newest_tellers (hr.mono (by decide)) (by rfl) (pa_cons (pe_op op_addU (pe_lst (pa_cons (pe_tup (pa_cons (pv 6) (pa_cons (pv 5) pa_nil))) pa_nil)) (pv 3)) (pa_cons (pe_df 0 G_lot_of (hr.mono (by decide)) (by rfl) (pa_cons (pv 1) pa_nil)) pa_nil))))
    (pss_one (ps_for PassesOwn.never rfl (pi_src (pe_df 0 G_window_standings (hr.mono (by decide)) (by rfl) (pa_cons (pv 1) (pa_cons (pv 3) (pa_cons (pv 6) pa_nil))))) (pg_tup (by rfl) (pgs_cons (pg_name (i := 7) nd rfl (Or.inl rfl)) (pgs_cons (pg_name (i := 8) nd rfl (Or.inl rfl)) pgs_nil)))
    (pss_one (ps_dput h1 (pv 2) (pv 7) (pe_op op_addU (pe_dget2 h1 (pv 2) (pv 7) pe_int ⟨by rfl, by rfl, by rfl, by rfl⟩) (pv 8)) rfl)))))))
    (pss_one (ps_ret (pe_dc (own := [("standing", 7)]) rfl nd (pi_src (pe_callB cr_sortedS (by rfl) B.f_sorted (by decide +kernel) (pa_cons (pe_callTy (call_list_dK rfl) (by rfl) B.f_list (by decide +kernel) (pa_cons (pv 2) pa_nil)) pa_nil))) (blkOk_by (own := [("standing", 7)]) (N := n_standing_counts) (sc := defScope s_standing_counts) (by decide +kernel)) (fun _ _ _ _ _ => (pg_name (i := 7) nd rfl (Or.inl rfl))) (fun _ _ _ _ _ => pts_nil) (fun _ _ _ _ _ => (pv 7)) (fun _ _ _ _ _ => (pe_dget h1 (pv 2) (pv 7) (fun _ _ => rfl))))))))))

def t_check_seeds (K : PySem.W.Frag) (sp_blank sp_is_row : Sp) : TS := (tSeq (tIfS (tNot (tB (tCB (rIsiT K) (tCons (tVar 1) (tCons (tTup (tCons (tC (.ty "list")) (tCons (tC (.ty "tuple")) tNil))) tNil))))) tNever tNext)
    (tSeq (tIfS (tTest (tOp rGtU (tCB (rLen K) (tCons (tVar 1) tNil)) (tC (.int 30)))) tNever tNext)
    (tSeq (tFor (iEnumS K (tCons (tVar 1) tNil)) (gTup K 2 (gCons (gName 2) (gCons (gName 3) gNil)))
    (tIfS (tOr (tNot (tB (tCall sp_is_row (([] : List V).drop 0) E0 (tCons (tVar 0) (tCons (tVar 3) tNil))))) (tOr (tTest (tOp (rEqU K) (tVar 3) (tCall sp_blank (([] : List V).drop 0) E0 (tCons (tCB (rLen K) (tCons (tVar 0) tNil)) tNil)))) (tTest (tOp (rInU K) (tVar 3) (tSl (rSlU K) (tVar 1) tNoPart (tPart (tVar 2))))))) tNever tNext))
    (tFor (iEnumS K (tCons (tVar 0) tNil)) (gTup K 2 (gCons (gName 2) (gCons (gName 4) gNil)))
    (tIfS (tB (tCB (rAll K) (tCons (tLc (iSrc K (tVar 1)) (gName 3) tYes (tOp (rEqU K) (tOp (rIx K) (tVar 3) (tVar 2)) (tC (.str (T [46])))) [3]) tNil))) tNever tNext)))))

theorem w_check_seeds (B : Bl mg)    {sp_blank : Sp} (G_blank : Df P w K mg base 1 "blank" ["many"] [] sp_blank) {sp_is_row : Sp} (G_is_row : Df P w K mg base 1 "is_row" ["cells", "value"] [] sp_is_row) {f : Addr} {cdv : Value} {A : Around} {outer : List Env} {s : Shared} {H : Hp} {E : XK} (hr : Room 1 (A.deeper (envOfC "check_seeds" (defScope s_check_seeds) s.heap.objs.size f cdv))) :
    PSs (cxOf (L2.CX P w) P w K mg base n_check_seeds "check_seeds" (defScope s_check_seeds) f cdv A outer s H E).nox (defBody s_check_seeds) (t_check_seeds K sp_blank sp_is_row) := by
  have nd := sc_check_seeds.nd
  have hu := hr.units
  have hv := units5 hr
  have h1 := units1 hr
  exact (pss_cons (ps_if (pt_not (pt_val (pe_callB call_isiT (by rfl) B.f_isinstance (by decide +kernel) (pa_cons (pv 1) (pa_cons (pe_tup (pa_cons (pe_bltn (by rfl) B.f_list (by decide +kernel) rfl) (pa_cons (pe_bltn (by rfl) B.f_tuple (by decide +kernel) rfl) pa_nil))) pa_nil))))) (pss_one ps_never) pss_nil)
    (pss_cons (ps_if (pt_cmpR op_gtU (pe_callB call_lenU (by rfl) B.f_len (by decide +kernel) (pa_cons (pv 1) pa_nil)) (pe_globI rfl B.c_MOST_SEEDS) (nomark _)) (pss_one ps_never) pss_nil)
    (pss_cons (ps_for PassesOwn.never rfl (pi_enumS (by rfl) B.f_enumerate (pa_cons (pv 1) pa_nil)) (pg_tup (by rfl) (pgs_cons (pg_name (i := 2) nd rfl (Or.inr rfl)) (pgs_cons (pg_name (i := 3) nd rfl (Or.inl rfl)) pgs_nil)))
    (pss_one (ps_if (PW.pt (pw_or (pt_not (pt_val (pe_df 0 G_is_row (hr.mono (by decide)) (by rfl) (pa_cons (pv 0) (pa_cons (pv 3) pa_nil))))) (pw_or (pt_cmpR (op_eqU hu) (pv 3) (pe_df 0 G_blank (hr.mono (by decide)) (by rfl) (pa_cons (pe_callB call_lenU (by rfl) B.f_len (by decide +kernel) (pa_cons (pv 0) pa_nil)) pa_nil)) (nomark _)) (pw_or1 (pt_cmpR (op_inU hv) (pv 3) (pe_slice sl_U (pv 1) po_none (po_some (pv 2))) (by rfl)))))) (pss_one ps_never) pss_nil)))
    (pss_one (ps_for PassesOwn.never rfl (pi_enumS (by rfl) B.f_enumerate (pa_cons (pv 0) pa_nil)) (pg_tup (by rfl) (pgs_cons (pg_name (i := 2) nd rfl (Or.inr rfl)) (pgs_cons (pg_name (i := 4) nd rfl (Or.inl rfl)) pgs_nil)))
    (pss_one (ps_if (pt_val (pe_callB (cr_all rfl) (by rfl) B.f_all (by decide +kernel) (pa_cons (pe_lc (own := [("seed", 3)]) rfl nd (pi_src (pv 1)) (blkOk_by (own := [("seed", 3)]) (N := n_check_seeds) (sc := defScope s_check_seeds) (by decide +kernel)) (fun _ _ _ _ _ => (pg_name (i := 3) nd rfl (Or.inl rfl))) (fun _ _ _ _ _ => pts_nil) (fun _ _ _ _ _ => (pe_cmpR (op_eqU hu) (pe_ix ix_seq (pv 3) (pv 2) (fun _ _ => rfl)) (pe_strT (by decide +kernel)) (nomark _)))) pa_nil))) (pss_one ps_never) pss_nil)))))))

def t_grown_rows (K : PySem.W.Frag) (sp_over : Sp) : TS := (tSeq (tAsg (tLst (tCons (tVar 1) tNil)) (gName 3))
    (tSeq (tAsg (tDisp [((tVar 1), (tC (.bl true)))]) (gName 4))
    (tSeq (tAsg (tC (.int 0)) (gName 5))
    (tSeq (tWhile (tAnd (tTest (tOp rLtU (tVar 5) (tCB (rLen K) (tCons (tVar 3) tNil)))) (tTest (tOp rLeU (tCB (rLen K) (tCons (tVar 3) tNil)) (tVar 2)))) (tSeq (tFor (iSrc K (tVar 0)) (gName 6)
    (tSeq (tAsg (tCall sp_over (([] : List V).drop 0) E0 (tCons (tVar 6) (tCons (tOp (rIx K) (tVar 3) (tVar 5)) tNil))) (gName 7))
    (tIfS (tB (tDNotIn (tVar 7) (tVar 4))) (tSeq (sDPut (tVar 4) (tVar 7) (tC (.bl true)))
    (tDrop (tBM K "list" rAppend (tVar 3) (tCons (tVar 7) tNil)))) tNext)))
    (tAsg (tOp (rAddU K) (tVar 5) (tC (.int 1))) (gName 5))))
    (tRet (tVar 3))))))

theorem w_grown_rows (B : Bl mg)    {sp_over : Sp} (G_over : Df P w K mg base 1 "over" ["newer", "older"] [] sp_over) {f : Addr} {cdv : Value} {A : Around} {outer : List Env} {s : Shared} {H : Hp} {E : XK} (hr : Room 1 (A.deeper (envOfC "grown_rows" (defScope s_grown_rows) s.heap.objs.size f cdv))) :
    PSs (cxOf (L2.CX P w) P w K mg base n_grown_rows "grown_rows" (defScope s_grown_rows) f cdv A outer s H E).nox (defBody s_grown_rows) (t_grown_rows K sp_over) := by
  have nd := sc_grown_rows.nd
  have hu := hr.units
  have hv := units5 hr
  have h1 := units1 hr
  exact (pss_cons (ps_set (i := 3) nd rfl (Or.inl rfl) (pe_lst (pa_cons (pv 1) pa_nil)))
    (pss_cons (ps_set (i := 4) nd rfl (Or.inl rfl) (pe_disp (pps_cons (pv 1) pe_bl pps_nil) (by rfl) (by rfl) nofun (by decide)))
    (pss_cons (ps_set (i := 5) nd rfl (Or.inl rfl) pe_int)
    (pss_cons (ps_while PassesOwn.never (PW.pt (pw_and (pt_cmpR op_ltU (pv 5) (pe_callB call_lenU (by rfl) B.f_len (by decide +kernel) (pa_cons (pv 3) pa_nil)) (nomark _)) (pw_and1 (pt_cmpR op_leU (pe_callB call_lenU (by rfl) B.f_len (by decide +kernel) (pa_cons (pv 3) pa_nil)) (pv 2) (nomark _))))) (pss_cons (ps_for PassesOwn.never rfl (pi_src (pv 0)) (pg_name (i := 6) nd rfl (Or.inl rfl))
    (pss_cons (ps_set (i := 7) nd rfl (Or.inl rfl) (pe_df 0 G_over (hr.mono (by decide)) (by rfl) (pa_cons (pv 6) (pa_cons (pe_ix ix_seq (pv 3) (pv 5) (fun _ _ => rfl)) pa_nil))))
    (pss_one (ps_if (pt_cmp (pc_dnotin h1 (pv 7) (pv 4)) (by rfl)) (pss_cons (ps_dput h1 (pv 4) (pv 7) pe_bl rfl)
    (pss_one (ps_expr (pe_bm PySem.F.plainAttrs_list PySem.F.slot_list_append PySem.F.type_list_append mt_append (pv 3) (pa_cons (pv 7) pa_nil))))) pss_nil))))
    (pss_one (ps_set (i := 5) nd rfl (Or.inl rfl) (pe_op op_addU (pv 5) pe_int)))))
    (pss_one (ps_ret (pv 3)))))))

def t_Band___init__ (K : PySem.W.Frag) (sp_blank sp_check_cells sp_check_seeds sp_grown_rows sp_is_number sp_lot_of sp_ordered_lots : Sp) : TS := (tSeq (tDrop (tCall sp_check_cells (([] : List V).drop 0) E0 (tCons (tVar 1) tNil)))
    (tSeq (tDrop (tCall sp_check_seeds (([] : List V).drop 0) E0 (tCons (tVar 1) (tCons (tVar 2) tNil))))
    (tSeq (tIfS (tNot (tB (tCall sp_is_number (([] : List V).drop 0) E0 (tCons (tVar 3) (tCons (tC (.int 1)) (tCons (tC (.int 800)) tNil)))))) tNever tNext)
    (tSeq (tAsg (tCall sp_grown_rows (([] : List V).drop 0) E0 (tCons (tVar 2) (tCons (tCall sp_blank (([] : List V).drop 0) E0 (tCons (tCB (rLen K) (tCons (tVar 1) tNil)) tNil)) (tCons (tVar 3) tNil)))) (gName 4))
    (tSeq (tIfS (tTest (tOp rGtU (tCB (rLen K) (tCons (tVar 4) tNil)) (tVar 3))) tNever tNext)
    (tSeq (sFld K (tVar 0) (tCB (rList1 K) (tCons (tVar 1) tNil)) "cell_list")
    (tSeq (sFld K (tVar 0) (tCB (rList1 K) (tCons (tVar 2) tNil)) "seed_list")
    (tSeq (sFld K (tVar 0) (tCB ((rSortedS K)) (tCons (tVar 4) tNil)) "row_list")
    (tSeq (sFld K (tVar 0) (tDc (iSrc K (tVar 4)) (gName 5) tYes (tVar 5) (tC (.bl true)) [5]) "known_rows")
    (sFld K (tVar 0) (tCall sp_ordered_lots (([] : List V).drop 0) E0 (tCons (tLc (iSrc K (tVar 4)) (gName 5) tYes (tCall sp_lot_of (([] : List V).drop 0) E0 (tCons (tVar 5) tNil)) [5]) tNil)) "lot_list"))))))))))

theorem w_Band___init__ (B : Bl mg) (C_Band : ClsF K "Band" fl_Band)   {sp_blank : Sp} (G_blank : Df P w K mg base 1 "blank" ["many"] [] sp_blank) {sp_check_cells : Sp} (G_check_cells : Df P w K mg base 2 "check_cells" ["cells"] [] sp_check_cells) {sp_check_seeds : Sp} (G_check_seeds : Df P w K mg base 2 "check_seeds" ["cells", "seeds"] [] sp_check_seeds) {sp_grown_rows : Sp} (G_grown_rows : Df P w K mg base 2 "grown_rows" ["seeds", "first", "most"] [] sp_grown_rows) {sp_is_number : Sp} (G_is_number : Df P w K mg base 1 "is_number" ["value", "least", "most"] [] sp_is_number) {sp_lot_of : Sp} (G_lot_of : Df P w K mg base 1 "lot_of" ["row"] [] sp_lot_of) {sp_ordered_lots : Sp} (G_ordered_lots : Df P w K mg base 4 "ordered_lots" ["lots"] [] sp_ordered_lots) {f : Addr} {cdv : Value} {A : Around} {outer : List Env} {s : Shared} {H : Hp} {E : XK} (hr : Room 4 (A.deeper (envOfC "Band.__init__" (defScope s_Band___init__) s.heap.objs.size f cdv))) :
    PSs (cxOf (L2.CX P w) P w K mg base n_Band___init__ "Band.__init__" (defScope s_Band___init__) f cdv A outer s H E).nox (defBody s_Band___init__) (t_Band___init__ K sp_blank sp_check_cells sp_check_seeds sp_grown_rows sp_is_number sp_lot_of sp_ordered_lots) := by
  have nd := sc_Band___init__.nd
  have hu := hr.units
  have hv := units5 hr
  have h1 := units1 hr
  exact (pss_cons (ps_expr (pe_df 0 G_check_cells (hr.mono (by decide)) (by rfl) (pa_cons (pv 1) pa_nil)))
    (pss_cons (ps_expr (pe_df 0 G_check_seeds (hr.mono (by decide)) (by rfl) (pa_cons (pv 1) (pa_cons (pv 2) pa_nil))))
    (pss_cons (ps_if (pt_not (pt_val (pe_df 0 G_is_number (hr.mono (by decide)) (by rfl) (pa_cons (pv 3) (pa_cons pe_int (pa_cons (pe_globI rfl B.c_MOST_ROWS) pa_nil)))))) (pss_one ps_never) pss_nil)
    (pss_cons (ps_set (i := 4) nd rfl (Or.inl rfl) (pe_df 0 G_grown_rows (hr.mono (by decide)) (by rfl) (pa_cons (pv 2) (pa_cons (pe_df 0 G_blank (hr.mono (by decide)) (by rfl) (pa_cons (pe_callB call_lenU (by rfl) B.f_len (by decide +kernel) (pa_cons (pv 1) pa_nil)) pa_nil)) (pa_cons (pv 3) pa_nil)))))
    (pss_cons (ps_if (pt_cmpR op_gtU (pe_callB call_lenU (by rfl) B.f_len (by decide +kernel) (pa_cons (pv 4) pa_nil)) (pv 3) (nomark _)) (pss_one ps_never) pss_nil)
    (pss_cons (ps_fld (pv 0) (pe_callTy (call_listU rfl) (by rfl) B.f_list (by decide +kernel) (pa_cons (pv 1) pa_nil)) (by rfl))
    (pss_cons (ps_fld (pv 0) (pe_callTy (call_listU rfl) (by rfl) B.f_list (by decide +kernel) (pa_cons (pv 2) pa_nil)) (by rfl))
    (pss_cons (ps_fld (pv 0) (pe_callB cr_sortedS (by rfl) B.f_sorted (by decide +kernel) (pa_cons (pv 4) pa_nil)) (by rfl))
    (pss_cons (ps_fld (pv 0) (pe_dc (own := [("row", 5)]) rfl nd (pi_src (pv 4)) (blkOk_by (own := [("row", 5)]) (N := n_Band___init__) (sc := defScope s_Band___init__) (by decide +kernel)) (fun _ _ _ _ _ => (pg_name (i := 5) nd rfl (Or.inl rfl))) (fun _ _ _ _ _ => pts_nil) (fun _ _ _ _ _ => (pv 5)) (fun _ _ _ _ _ => pe_bl)) (by rfl))
    (pss_one (ps_fld (pv 0) (pe_df 0 G_ordered_lots (hr.mono (by decide)) (by rfl) (pa_cons (pe_lc (own := [("row", 5)]) rfl nd (pi_src (pv 4)) (blkOk_by (own := [("row", 5)]) (N := n_Band___init__) (sc := defScope s_Band___init__) (by decide +kernel)) (fun _ _ _ _ _ => (pg_name (i := 5) nd rfl (Or.inl rfl))) (fun _ _ _ _ _ => pts_nil) (fun _ _ _ _ _ => (pe_df 0 G_lot_of (hr.mono (by decide)) (by rfl) (pa_cons (pv 5) pa_nil)))) pa_nil)) (by rfl))))))))))))

def t_Band_blank_row (K : PySem.W.Frag) (sp_blank : Sp) : TS := (tRet (tCall sp_blank (([] : List V).drop 0) E0 (tCons (tCB (rLen K) (tCons (tFld K (tVar 0) "cell_list") tNil)) tNil)))

theorem w_Band_blank_row (B : Bl mg) (C_Band : ClsF K "Band" fl_Band)   {sp_blank : Sp} (G_blank : Df P w K mg base 1 "blank" ["many"] [] sp_blank) {f : Addr} {cdv : Value} {A : Around} {outer : List Env} {s : Shared} {H : Hp} {E : XK} (hr : Room 1 (A.deeper (envOfC "Band.blank_row" (defScope s_Band_blank_row) s.heap.objs.size f cdv))) :
    PSs (cxOf (L2.CX P w) P w K mg base n_Band_blank_row "Band.blank_row" (defScope s_Band_blank_row) f cdv A outer s H E).nox (defBody s_Band_blank_row) (t_Band_blank_row K sp_blank) := by
  have nd := sc_Band_blank_row.nd
  have hu := hr.units
  have hv := units5 hr
  have h1 := units1 hr
  exact (pss_one (ps_ret (pe_df 0 G_blank (hr.mono (by decide)) (by rfl) (pa_cons (pe_callB call_lenU (by rfl) B.f_len (by decide +kernel) (pa_cons (pe_fld (pv 0) (by rfl)) pa_nil)) pa_nil))))

def t_Band_check_row (K : PySem.W.Frag) (sp_is_row : Sp) : TS := (tSeq (tIfS (tNot (tB (tCall sp_is_row (([] : List V).drop 0) E0 (tCons (tFld K (tVar 0) "cell_list") (tCons (tVar 1) tNil))))) tNever tNext)
    (tIfS (tB (tDNotIn (tVar 1) (tFld K (tVar 0) "known_rows"))) tNever tNext))

theorem w_Band_check_row (B : Bl mg) (C_Band : ClsF K "Band" fl_Band)   {sp_is_row : Sp} (G_is_row : Df P w K mg base 1 "is_row" ["cells", "value"] [] sp_is_row) {f : Addr} {cdv : Value} {A : Around} {outer : List Env} {s : Shared} {H : Hp} {E : XK} (hr : Room 1 (A.deeper (envOfC "Band.check_row" (defScope s_Band_check_row) s.heap.objs.size f cdv))) :
    PSs (cxOf (L2.CX P w) P w K mg base n_Band_check_row "Band.check_row" (defScope s_Band_check_row) f cdv A outer s H E).nox (defBody s_Band_check_row) (t_Band_check_row K sp_is_row) := by
  have nd := sc_Band_check_row.nd
  have hu := hr.units
  have hv := units5 hr
  have h1 := units1 hr
  exact (pss_cons (ps_if (pt_not (pt_val (pe_df 0 G_is_row (hr.mono (by decide)) (by rfl) (pa_cons (pe_fld (pv 0) (by rfl)) (pa_cons (pv 1) pa_nil))))) (pss_one ps_never) pss_nil)
    (pss_one (ps_if (pt_cmp (pc_dnotin h1 (pv 1) (pe_fld (pv 0) (by rfl))) (by rfl)) (pss_one ps_never) pss_nil)))

def t_Stream___init__ (K : PySem.W.Frag) (sp_Band_check_row : Sp) : TS := (tSeq (tIfS (tTest (tOp rGtU (tCB (rLen K) (tCons (tVar 2) tNil)) (tC (.int 400)))) tNever tNext)
    (tSeq (tFor (iSrc K (tVar 2)) (gName 3)
    (tDrop (tMeth (He.ga K "Band") "check_row" sp_Band_check_row ([] : List V) E0 (tVar 1) (tCons (tVar 3) tNil))))
    (tSeq (sFld K (tVar 0) (tVar 1) "band")
    (sFld K (tVar 0) (tCB (rList1 K) (tCons (tVar 2) tNil)) "row_list"))))

theorem w_Stream___init__ (B : Bl mg) (C_Band : ClsF K "Band" fl_Band) (C_Stream : ClsF K "Stream" fl_Stream)   {sp_Band_check_row : Sp} (G_Band_check_row : DfM P w K mg base 2 "Band" "check_row" ["self", "row"] ([] : List V) sp_Band_check_row) {f : Addr} {cdv : Value} {A : Around} {outer : List Env} {s : Shared} {H : Hp} {E : XK} (hr : Room 2 (A.deeper (envOfC "Stream.__init__" (defScope s_Stream___init__) s.heap.objs.size f cdv))) :
    PSs (cxOf (L2.CX P w) P w K mg base n_Stream___init__ "Stream.__init__" (defScope s_Stream___init__) f cdv A outer s H E).nox (defBody s_Stream___init__) (t_Stream___init__ K sp_Band_check_row) := by
  have nd := sc_Stream___init__.nd
  have hu := hr.units
  have hv := units5 hr
  have h1 := units1 hr
  exact (pss_cons (ps_if (pt_cmpR op_gtU (pe_callB call_lenU (by rfl) B.f_len (by decide +kernel) (pa_cons (pv 2) pa_nil)) (pe_globI rfl B.c_MOST_MOMENTS) (nomark _)) (pss_one ps_never) pss_nil)
    (pss_cons (ps_for PassesOwn.never rfl (pi_src (pv 2)) (pg_name (i := 3) nd rfl (Or.inl rfl))
    (pss_one (ps_expr (pe_dm G_Band_check_row C_Band (hr.mono (by decide)) (pv 1) (pa_cons (pv 3) pa_nil)))))
    (pss_cons (ps_fld (pv 0) (pv 1) (by rfl))
    (pss_one (ps_fld (pv 0) (pe_callTy (call_listU rfl) (by rfl) B.f_list (by decide +kernel) (pa_cons (pv 2) pa_nil)) (by rfl))))))

def t_Stream_rows (K : PySem.W.Frag) : TS := (tRet (tCB (rList1 K) (tCons (tFld K (tVar 0) "row_list") tNil)))

theorem w_Stream_rows (B : Bl mg) (C_Stream : ClsF K "Stream" fl_Stream)    {f : Addr} {cdv : Value} {A : Around} {outer : List Env} {s : Shared} {H : Hp} {E : XK} (hr : Room 0 (A.deeper (envOfC "Stream.rows" (defScope s_Stream_rows) s.heap.objs.size f cdv))) :
    PSs (cxOf (L2.CX P w) P w K mg base n_Stream_rows "Stream.rows" (defScope s_Stream_rows) f cdv A outer s H E).nox (defBody s_Stream_rows) (t_Stream_rows K ) := by
  have nd := sc_Stream_rows.nd
  have hu := hr.units
  have hv := units5 hr
  have h1 := units1 hr
  exact (pss_one (ps_ret (pe_callTy (call_listU rfl) (by rfl) B.f_list (by decide +kernel) (pa_cons (pe_fld (pv 0) (by rfl)) pa_nil))))

def t_Stream_tell (K : PySem.W.Frag) (sp_Band_check_row : Sp) : TS := (tSeq (tIfS (tTest (tOp rGtU (tOp (rAddU K) (tCB (rLen K) (tCons (tFld K (tVar 0) "row_list") tNil)) (tCB (rLen K) (tCons (tVar 1) tNil))) (tC (.int 400)))) tNever tNext)
    (tSeq (tFor (iSrc K (tVar 1)) (gName 2)
    (tDrop (tMeth (He.ga K "Band") "check_row" sp_Band_check_row ([] : List V) E0 (tFld K (tVar 0) "band") (tCons (tVar 2) tNil))))
    (tSeq (sFld K (tVar 0) (tOp (rAddU K) (tFld K (tVar 0) "row_list") (tCB (rList1 K) (tCons (tVar 1) tNil))) "row_list")
    (tRet (tCB (rLen K) (tCons (tFld K (tVar 0) "row_list") tNil))))))

theorem w_Stream_tell (B : Bl mg) (C_Band : ClsF K "Band" fl_Band) (C_Stream : ClsF K "Stream" fl_Stream)   {sp_Band_check_row : Sp} (G_Band_check_row : DfM P w K mg base 2 "Band" "check_row" ["self", "row"] ([] : List V) sp_Band_check_row) {f : Addr} {cdv : Value} {A : Around} {outer : List Env} {s : Shared} {H : Hp} {E : XK} (hr : Room 2 (A.deeper (envOfC "Stream.tell" (defScope s_Stream_tell) s.heap.objs.size f cdv))) :
    PSs (cxOf (L2.CX P w) P w K mg base n_Stream_tell "Stream.tell" (defScope s_Stream_tell) f cdv A outer s H E).nox (defBody s_Stream_tell) (t_Stream_tell K sp_Band_check_row) := by
  have nd := sc_Stream_tell.nd
  have hu := hr.units
  have hv := units5 hr
  have h1 := units1 hr
  exact (pss_cons (ps_if (pt_cmpR op_gtU (pe_op op_addU (pe_callB call_lenU (by rfl) B.f_len (by decide +kernel) (pa_cons (pe_fld (pv 0) (by rfl)) pa_nil)) (pe_callB call_lenU (by rfl) B.f_len (by decide +kernel) (pa_cons (pv 1) pa_nil))) (pe_globI rfl B.c_MOST_MOMENTS) (nomark _)) (pss_one ps_never) pss_nil)
    (pss_cons (ps_for PassesOwn.never rfl (pi_src (pv 1)) (pg_name (i := 2) nd rfl (Or.inl rfl))
    (pss_one (ps_expr (pe_dm G_Band_check_row C_Band (hr.mono (by decide)) (pe_fld (pv 0) (by rfl)) (pa_cons (pv 2) pa_nil)))))
    (pss_cons (ps_fld (pv 0) (pe_op op_addU (pe_fld (pv 0) (by rfl)) (pe_callTy (call_listU rfl) (by rfl) B.f_list (by decide +kernel) (pa_cons (pv 1) pa_nil))) (by rfl))
    (pss_one (ps_ret (pe_callB call_lenU (by rfl) B.f_len (by decide +kernel) (pa_cons (pe_fld (pv 0) (by rfl)) pa_nil)))))))

def t_Stream_check_moment (K : PySem.W.Frag) (sp_is_number : Sp) : TS := (tIfS (tNot (tB (tCall sp_is_number (([] : List V).drop 0) E0 (tCons (tVar 1) (tCons (tC (.int 1)) (tCons (tCB (rLen K) (tCons (tFld K (tVar 0) "row_list") tNil)) tNil)))))) tNever tNext)

theorem w_Stream_check_moment (B : Bl mg) (C_Stream : ClsF K "Stream" fl_Stream)   {sp_is_number : Sp} (G_is_number : Df P w K mg base 1 "is_number" ["value", "least", "most"] [] sp_is_number) {f : Addr} {cdv : Value} {A : Around} {outer : List Env} {s : Shared} {H : Hp} {E : XK} (hr : Room 1 (A.deeper (envOfC "Stream.check_moment" (defScope s_Stream_check_moment) s.heap.objs.size f cdv))) :
    PSs (cxOf (L2.CX P w) P w K mg base n_Stream_check_moment "Stream.check_moment" (defScope s_Stream_check_moment) f cdv A outer s H E).nox (defBody s_Stream_check_moment) (t_Stream_check_moment K sp_is_number) := by
  have nd := sc_Stream_check_moment.nd
  have hu := hr.units
  have hv := units5 hr
  have h1 := units1 hr
  exact (pss_one (ps_if (pt_not (pt_val (pe_df 0 G_is_number (hr.mono (by decide)) (by rfl) (pa_cons (pv 1) (pa_cons pe_int (pa_cons (pe_callB call_lenU (by rfl) B.f_len (by decide +kernel) (pa_cons (pe_fld (pv 0) (by rfl)) pa_nil)) pa_nil)))))) (pss_one ps_never) pss_nil))

def t_Stream_last_moment (K : PySem.W.Frag) (sp_Stream_check_moment sp_is_number : Sp) : TS := (tSeq (tDrop (tMeth (He.ga K "Stream") "check_moment" sp_Stream_check_moment ([] : List V) E0 (tVar 0) (tCons (tVar 1) tNil)))
    (tSeq (tIfS (tTest (tOp rIsN (tVar 2) (tC .non))) (tRet (tCB (rLen K) (tCons (tFld K (tVar 0) "row_list") tNil))) tNext)
    (tSeq (tIfS (tNot (tB (tCall sp_is_number (([] : List V).drop 0) E0 (tCons (tVar 2) (tCons (tVar 1) (tCons (tCB (rLen K) (tCons (tFld K (tVar 0) "row_list") tNil)) tNil)))))) tNever tNext)
    (tRet (tVar 2)))))

theorem w_Stream_last_moment (B : Bl mg) (C_Stream : ClsF K "Stream" fl_Stream)   {sp_Stream_check_moment : Sp} (G_Stream_check_moment : DfM P w K mg base 2 "Stream" "check_moment" ["self", "moment"] ([] : List V) sp_Stream_check_moment) {sp_is_number : Sp} (G_is_number : Df P w K mg base 1 "is_number" ["value", "least", "most"] [] sp_is_number) {f : Addr} {cdv : Value} {A : Around} {outer : List Env} {s : Shared} {H : Hp} {E : XK} (hr : Room 2 (A.deeper (envOfC "Stream.last_moment" (defScope s_Stream_last_moment) s.heap.objs.size f cdv))) :
    PSs (cxOf (L2.CX P w) P w K mg base n_Stream_last_moment "Stream.last_moment" (defScope s_Stream_last_moment) f cdv A outer s H E).nox (defBody s_Stream_last_moment) (t_Stream_last_moment K sp_Stream_check_moment sp_is_number) := by
  have nd := sc_Stream_last_moment.nd
  have hu := hr.units
  have hv := units5 hr
  have h1 := units1 hr
  exact (pss_cons (ps_expr (pe_dm G_Stream_check_moment C_Stream (hr.mono (by decide)) (pv 0) (pa_cons (pv 1) pa_nil)))
    (pss_cons (ps_if (pt_cmpR op_isN1 (pv 2) pe_non (nomark _)) (pss_one (ps_ret (pe_callB call_lenU (by rfl) B.f_len (by decide +kernel) (pa_cons (pe_fld (pv 0) (by rfl)) pa_nil)))) pss_nil)
    (pss_cons (ps_if (pt_not (pt_val (pe_df 0 G_is_number (hr.mono (by decide)) (by rfl) (pa_cons (pv 2) (pa_cons (pv 1) (pa_cons (pe_callB call_lenU (by rfl) B.f_len (by decide +kernel) (pa_cons (pe_fld (pv 0) (by rfl)) pa_nil)) pa_nil)))))) (pss_one ps_never) pss_nil)
    (pss_one (ps_ret (pv 2))))))

def t_Stream_window_row (K : PySem.W.Frag) (sp_Band_blank_row sp_over : Sp) : TS := (tSeq (tAsg (tMeth (He.ga K "Band") "blank_row" sp_Band_blank_row ([] : List V) E0 (tFld K (tVar 0) "band") tNil) (gName 3))
    (tSeq (tFor (iSrc K (tRevL K (tSl (rSlU K) (tFld K (tVar 0) "row_list") (tPart (tOp rSubU (tVar 1) (tC (.int 1)))) (tPart (tVar 2))))) (gName 4)
    (tSeq (tIfS (tTest (tOp (rNiU K) (tC (.str (T [46]))) (tVar 3))) tBreak tNext)
    (tAsg (tCall sp_over (([] : List V).drop 0) E0 (tCons (tVar 3) (tCons (tVar 4) tNil))) (gName 3))))
    (tRet (tVar 3))))

theorem w_Stream_window_row (B : Bl mg) (C_Band : ClsF K "Band" fl_Band) (C_Stream : ClsF K "Stream" fl_Stream)   {sp_Band_blank_row : Sp} (G_Band_blank_row : DfM P w K mg base 2 "Band" "blank_row" ["self"] ([] : List V) sp_Band_blank_row) {sp_over : Sp} (G_over : Df P w K mg base 1 "over" ["newer", "older"] [] sp_over) {f : Addr} {cdv : Value} {A : Around} {outer : List Env} {s : Shared} {H : Hp} {E : XK} (hr : Room 2 (A.deeper (envOfC "Stream.window_row" (defScope s_Stream_window_row) s.heap.objs.size f cdv))) :
    PSs (cxOf (L2.CX P w) P w K mg base n_Stream_window_row "Stream.window_row" (defScope s_Stream_window_row) f cdv A outer s H E).nox (defBody s_Stream_window_row) (t_Stream_window_row K sp_Band_blank_row sp_over) := by
  have nd := sc_Stream_window_row.nd
  have hu := hr.units
  have hv := units5 hr
  have h1 := units1 hr
  exact (pss_cons (ps_set (i := 3) nd rfl (Or.inl rfl) (pe_dm0 G_Band_blank_row C_Band (hr.mono (by decide)) (pe_fld (pv 0) (by rfl))))
    (pss_cons (ps_for PassesOwn.never rfl (pi_src (pe_revL (pe_slice sl_U (pe_fld (pv 0) (by rfl)) (po_some (pe_op op_subU (pv 1) pe_int)) (po_some (pv 2))))) (pg_name (i := 4) nd rfl (Or.inl rfl))
    (pss_cons (ps_if (pt_cmpR (op_niU hv) (pe_strT (by decide +kernel)) (pv 3) (by rfl)) (pss_one ps_break) pss_nil)
    (pss_one (ps_set (i := 3) nd rfl (Or.inl rfl) (pe_df 0 G_over (hr.mono (by decide)) (by rfl) (pa_cons (pv 3) (pa_cons (pv 4) pa_nil)))))))
    (pss_one (ps_ret (pv 3)))))

def t_Stream_standing (K : PySem.W.Frag) (sp_Stream_window_row : Sp) : TS := (tRet (tMeth (He.ga K "Stream") "window_row" sp_Stream_window_row ([] : List V) E0 (tVar 0) (tCons (tC (.int 1)) (tCons (tCB (rLen K) (tCons (tFld K (tVar 0) "row_list") tNil)) tNil))))

theorem w_Stream_standing (B : Bl mg) (C_Stream : ClsF K "Stream" fl_Stream)   {sp_Stream_window_row : Sp} (G_Stream_window_row : DfM P w K mg base 3 "Stream" "window_row" ["self", "start", "end"] ([] : List V) sp_Stream_window_row) {f : Addr} {cdv : Value} {A : Around} {outer : List Env} {s : Shared} {H : Hp} {E : XK} (hr : Room 3 (A.deeper (envOfC "Stream.standing" (defScope s_Stream_standing) s.heap.objs.size f cdv))) :
    PSs (cxOf (L2.CX P w) P w K mg base n_Stream_standing "Stream.standing" (defScope s_Stream_standing) f cdv A outer s H E).nox (defBody s_Stream_standing) (t_Stream_standing K sp_Stream_window_row) := by
  have nd := sc_Stream_standing.nd
  have hu := hr.units
  have hv := units5 hr
  have h1 := units1 hr
  exact (pss_one (ps_ret (pe_dm G_Stream_window_row C_Stream (hr.mono (by decide)) (pv 0) (pa_cons pe_int (pa_cons (pe_callB call_lenU (by rfl) B.f_len (by decide +kernel) (pa_cons (pe_fld (pv 0) (by rfl)) pa_nil)) pa_nil)))))

def t_Stream_take (K : PySem.W.Frag) (sp_Stream_check_moment : Sp) : TS := (tSeq (tDrop (tMeth (He.ga K "Stream") "check_moment" sp_Stream_check_moment ([] : List V) E0 (tVar 0) (tCons (tVar 1) tNil)))
    (tSeq (tAsg (tOp (rIx K) (tFld K (tVar 0) "row_list") (tOp rSubU (tVar 1) (tC (.int 1)))) (gName 2))
    (tSeq (sFld K (tVar 0) (tOp (rAddU K) (tSl (rSlU K) (tFld K (tVar 0) "row_list") tNoPart (tPart (tOp rSubU (tVar 1) (tC (.int 1))))) (tSl (rSlU K) (tFld K (tVar 0) "row_list") (tPart (tVar 1)) tNoPart)) "row_list")
    (tRet (tVar 2)))))

theorem w_Stream_take (B : Bl mg) (C_Stream : ClsF K "Stream" fl_Stream)   {sp_Stream_check_moment : Sp} (G_Stream_check_moment : DfM P w K mg base 2 "Stream" "check_moment" ["self", "moment"] ([] : List V) sp_Stream_check_moment) {f : Addr} {cdv : Value} {A : Around} {outer : List Env} {s : Shared} {H : Hp} {E : XK} (hr : Room 2 (A.deeper (envOfC "Stream.take" (defScope s_Stream_take) s.heap.objs.size f cdv))) :
    PSs (cxOf (L2.CX P w) P w K mg base n_Stream_take "Stream.take" (defScope s_Stream_take) f cdv A outer s H E).nox (defBody s_Stream_take) (t_Stream_take K sp_Stream_check_moment) := by
  have nd := sc_Stream_take.nd
  have hu := hr.units
  have hv := units5 hr
  have h1 := units1 hr
  exact (pss_cons (ps_expr (pe_dm G_Stream_check_moment C_Stream (hr.mono (by decide)) (pv 0) (pa_cons (pv 1) pa_nil)))
    (pss_cons (ps_set (i := 2) nd rfl (Or.inl rfl) (pe_ix ix_seq (pe_fld (pv 0) (by rfl)) (pe_op op_subU (pv 1) pe_int) (fun _ _ => rfl)))
    (pss_cons (ps_fld (pv 0) (pe_op op_addU (pe_slice sl_U (pe_fld (pv 0) (by rfl)) po_none (po_some (pe_op op_subU (pv 1) pe_int))) (pe_slice sl_U (pe_fld (pv 0) (by rfl)) (po_some (pv 1)) po_none)) (by rfl))
    (pss_one (ps_ret (pv 2))))))

def t__law_bag (K : PySem.W.Frag) : TS := (tSeq (tAsg (tC (.int 42042)) (gName 1))
    (tSeq (tFor (iSrc K (tSl (rSlU K) (tVar 0) tNoPart (tPart (tC (.int 63))))) (gName 2)
    (tAsg (tOp rModU (tCB (rInt1) (tCons (tOp (rAddU K) (tOp (rAddU K) (tOp rMulU (tVar 1) (tC (.int 50077))) (tOp rMulU (tOp rModU (tCB (rInt1) (tCons (tVar 2) tNil)) (tC (.int 1000453))) (tC (.int 787)))) (tC (.int 41))) tNil)) (tC (.int 2147483563))) (gName 1)))
    (tRet (tLst (tCons (tCB (rList1 K) (tCons (tSl (rSlU K) (tVar 0) tNoPart (tPart (tC (.int 63)))) tNil)) (tCons (tC (.int 0)) (tCons (tC (.int 0)) (tCons (tVar 1) (tCons (tC (.int 0)) tNil)))))))))

theorem w__law_bag (B : Bl mg)     {f : Addr} {cdv : Value} {A : Around} {outer : List Env} {s : Shared} {H : Hp} {E : XK} (hr : Room 0 (A.deeper (envOfC "_law_bag" (defScope s__law_bag) s.heap.objs.size f cdv))) :
    PSs (cxOf (L2.CX P w) P w K mg base n__law_bag "_law_bag" (defScope s__law_bag) f cdv A outer s H E).nox (defBody s__law_bag) (t__law_bag K ) := by
  have nd := sc__law_bag.nd
  have hu := hr.units
  have hv := units5 hr
  have h1 := units1 hr
  exact (pss_cons (ps_set (i := 1) nd rfl (Or.inl rfl) pe_int)
    (pss_cons (ps_for PassesOwn.never rfl (pi_src (pe_slice sl_U (pv 0) po_none (po_some pe_int))) (pg_name (i := 2) nd rfl (Or.inl rfl))
    (pss_one (ps_set (i := 1) nd rfl (Or.inl rfl) (pe_op op_modU (pe_callTy call_intU (by rfl) B.f_int (by decide +kernel) (pa_cons (pe_op op_addU (pe_op op_addU (pe_op op_mulU (pv 1) pe_int) (pe_op op_mulU (pe_op op_modU (pe_callTy call_intU (by rfl) B.f_int (by decide +kernel) (pa_cons (pv 2) pa_nil)) pe_int) pe_int)) pe_int) pa_nil)) pe_int))))
    (pss_one (ps_ret (pe_lst (pa_cons (pe_callTy (call_listU rfl) (by rfl) B.f_list (by decide +kernel) (pa_cons (pe_slice sl_U (pv 0) po_none (po_some pe_int)) pa_nil)) (pa_cons pe_int (pa_cons pe_int (pa_cons (pv 1) (pa_cons pe_int pa_nil))))))))))

def t__law_draw (K : PySem.W.Frag) : TS := (tSeq (tAsg (tOp (rAddU K) (tOp (rIx K) (tVar 0) (tC (.int 4))) (tC (.int 1))) (gSub (tVar 0) (tC (.int 4)) rSetL))
    (tSeq (tIfS (tAnd (tTest (tOp (rEqU K) (tOp (rIx K) (tVar 0) (tC (.int 2))) (tC (.int 0)))) (tTest (tOp rLtU (tOp (rIx K) (tVar 0) (tC (.int 1))) (tCB (rLen K) (tCons (tOp (rIx K) (tVar 0) (tC (.int 0))) tNil))))) (tSeq (tAsg (tCB (rInt1) (tCons (tOp (rIx K) (tOp (rIx K) (tVar 0) (tC (.int 0))) (tOp (rIx K) (tVar 0) (tC (.int 1)))) tNil)) (gName 2))
    (tSeq (tAsg (tOp (rAddU K) (tOp (rIx K) (tVar 0) (tC (.int 1))) (tC (.int 1))) (gSub (tVar 0) (tC (.int 1)) rSetL))
    (tIfS (tTest (tOp rGeU (tCB (rAbs) (tCons (tVar 2) tNil)) (tOp rPowU (tC (.int 10)) (tC (.int 18))))) (tAsg (tCB (rAbs) (tCons (tVar 2) tNil)) (gSub (tVar 0) (tC (.int 2)) rSetL)) (tAsg (tOp rModU (tCB (rInt1) (tCons (tOp (rAddU K) (tOp (rAddU K) (tOp rMulU (tOp (rIx K) (tVar 0) (tC (.int 3))) (tC (.int 45131))) (tOp rMulU (tOp rModU (tCB (rInt1) (tCons (tVar 2) tNil)) (tC (.int 1000453))) (tC (.int 761)))) (tC (.int 31))) tNil)) (tC (.int 2147483587))) (gSub (tVar 0) (tC (.int 3)) rSetL))))) tNext)
    (tSeq (tIfS (tTest (tOp rGtU (tOp (rIx K) (tVar 0) (tC (.int 2))) (tC (.int 0)))) (tSeq (tAsg (tOp rModU (tCB (rInt1) (tCons (tOp (rIx K) (tVar 0) (tC (.int 2))) tNil)) (tVar 1)) (gName 3))
    (tSeq (tAsg (tOp rDivU (tOp (rIx K) (tVar 0) (tC (.int 2))) (tVar 1)) (gSub (tVar 0) (tC (.int 2)) rSetL))
    (tRet (tVar 3)))) tNext)
    (tSeq (tAsg (tCB (rInt1) (tCons (tOp (rIx K) (tVar 0) (tC (.int 3))) tNil)) (gName 4))
    (tSeq (tAsg (tOp rModU (tCB (rInt1) (tCons (tOp (rAddU K) (tOp (rAddU K) (tOp (rAddU K) (tOp rPowU (tVar 4) (tC (.int 3))) (tOp rMulU (tVar 4) (tC (.int 46687)))) (tOp rMulU (tOp (rIx K) (tVar 0) (tC (.int 4))) (tC (.int 110977)))) (tC (.int 60101))) tNil)) (tC (.int 2147483549))) (gSub (tVar 0) (tC (.int 3)) rSetL))
    (tRet (tOp rModU (tCB (rInt1) (tCons (tOp (rAddU K) (tOp rDivU (tOp (rIx K) (tVar 0) (tC (.int 3))) (tC (.int 73))) (tOp rMulU (tOp rModU (tCB (rInt1) (tCons (tOp (rIx K) (tVar 0) (tC (.int 3))) tNil)) (tC (.int 8011))) (tC (.int 61)))) tNil)) (tVar 1))))))))

theorem w__law_draw (B : Bl mg)     {f : Addr} {cdv : Value} {A : Around} {outer : List Env} {s : Shared} {H : Hp} {E : XK} (hr : Room 0 (A.deeper (envOfC "_law_draw" (defScope s__law_draw) s.heap.objs.size f cdv))) :
    PSs (cxOf (L2.CX P w) P w K mg base n__law_draw "_law_draw" (defScope s__law_draw) f cdv A outer s H E).nox (defBody s__law_draw) (t__law_draw K ) := by
  have nd := sc__law_draw.nd
  have hu := hr.units
  have hv := units5 hr
  have h1 := units1 hr
  exact (pss_cons (ps_asg (pe_op op_addU (pe_ix ix_seq (pv 0) pe_int (fun _ _ => rfl)) pe_int) (pg_sub (pv 0) pe_int set_list))
    (pss_cons (ps_if (PW.pt (pw_and (pt_cmpR (op_eqU hu) (pe_ix ix_seq (pv 0) pe_int (fun _ _ => rfl)) pe_int (nomark _)) (pw_and1 (pt_cmpR op_ltU (pe_ix ix_seq (pv 0) pe_int (fun _ _ => rfl)) (pe_callB call_lenU (by rfl) B.f_len (by decide +kernel) (pa_cons (pe_ix ix_seq (pv 0) pe_int (fun _ _ => rfl)) pa_nil)) (nomark _))))) (pss_cons (ps_set (i := 2) nd rfl (Or.inl rfl) (pe_callTy call_intU (by rfl) B.f_int (by decide +kernel) (pa_cons (pe_ix ix_seq (pe_ix ix_seq (pv 0) pe_int (fun _ _ => rfl)) (pe_ix ix_seq (pv 0) pe_int (fun _ _ => rfl)) (fun _ _ => rfl)) pa_nil)))
    (pss_cons (ps_asg (pe_op op_addU (pe_ix ix_seq (pv 0) pe_int (fun _ _ => rfl)) pe_int) (pg_sub (pv 0) pe_int set_list))
    (pss_one (ps_if (pt_cmpR op_geU (pe_callB call_absU (by rfl) B.f_abs (by decide +kernel) (pa_cons (pv 2) pa_nil)) (pe_op op_powU pe_int pe_int) (nomark _)) (pss_one (ps_asg (pe_callB call_absU (by rfl) B.f_abs (by decide +kernel) (pa_cons (pv 2) pa_nil)) (pg_sub (pv 0) pe_int set_list))) (pss_one (ps_asg (pe_op op_modU (pe_callTy call_intU (by rfl) B.f_int (by decide +kernel) (pa_cons (pe_op op_addU (pe_op op_addU (pe_op op_mulU (pe_ix ix_seq (pv 0) pe_int (fun _ _ => rfl)) pe_int) (pe_op op_mulU (pe_op op_modU (pe_callTy call_intU (by rfl) B.f_int (by decide +kernel) (pa_cons (pv 2) pa_nil)) pe_int) pe_int)) pe_int) pa_nil)) pe_int) (pg_sub (pv 0) pe_int set_list))))))) pss_nil)
    (pss_cons (ps_if (pt_cmpR op_gtU (pe_ix ix_seq (pv 0) pe_int (fun _ _ => rfl)) pe_int (nomark _)) (pss_cons (ps_set (i := 3) nd rfl (Or.inl rfl) (pe_op op_modU (pe_callTy call_intU (by rfl) B.f_int (by decide +kernel) (pa_cons (pe_ix ix_seq (pv 0) pe_int (fun _ _ => rfl)) pa_nil)) (pv 1)))
    (pss_cons (ps_asg (pe_op op_divU (pe_ix ix_seq (pv 0) pe_int (fun _ _ => rfl)) (pv 1)) (pg_sub (pv 0) pe_int set_list))
    (pss_one (ps_ret (pv 3))))) pss_nil)
    (pss_cons (ps_set (i := 4) nd rfl (Or.inl rfl) (pe_callTy call_intU (by rfl) B.f_int (by decide +kernel) (pa_cons (pe_ix ix_seq (pv 0) pe_int (fun _ _ => rfl)) pa_nil)))
    (pss_cons (ps_asg (pe_op op_modU (pe_callTy call_intU (by rfl) B.f_int (by decide +kernel) (pa_cons (pe_op op_addU (pe_op op_addU (pe_op op_addU (pe_op op_powU (pv 4) pe_int) (pe_op op_mulU (pv 4) pe_int)) (pe_op op_mulU (pe_ix ix_seq (pv 0) pe_int (fun _ _ => rfl)) pe_int)) pe_int) pa_nil)) pe_int) (pg_sub (pv 0) pe_int set_list))
    (pss_one (ps_ret (pe_op op_modU (pe_callTy call_intU (by rfl) B.f_int (by decide +kernel) (pa_cons (pe_op op_addU (pe_op op_divU (pe_ix ix_seq (pv 0) pe_int (fun _ _ => rfl)) pe_int) (pe_op op_mulU (pe_op op_modU (pe_callTy call_intU (by rfl) B.f_int (by decide +kernel) (pa_cons (pe_ix ix_seq (pv 0) pe_int (fun _ _ => rfl)) pa_nil)) pe_int) pe_int)) pa_nil)) (pv 1)))))))))

def t__law_of (K : PySem.W.Frag) (sp__law_draw : Sp) : TS := (tRet (tOp (rIx K) (tVar 1) (tCall sp__law_draw (([] : List V).drop 0) E0 (tCons (tVar 0) (tCons (tCB (rLen K) (tCons (tVar 1) tNil)) tNil)))))

theorem w__law_of (B : Bl mg)    {sp__law_draw : Sp} (G__law_draw : Df P w K mg base 1 "_law_draw" ["_law_bag_here", "_law_top"] [] sp__law_draw) {f : Addr} {cdv : Value} {A : Around} {outer : List Env} {s : Shared} {H : Hp} {E : XK} (hr : Room 1 (A.deeper (envOfC "_law_of" (defScope s__law_of) s.heap.objs.size f cdv))) :
    PSs (cxOf (L2.CX P w) P w K mg base n__law_of "_law_of" (defScope s__law_of) f cdv A outer s H E).nox (defBody s__law_of) (t__law_of K sp__law_draw) := by
  have nd := sc__law_of.nd
  have hu := hr.units
  have hv := units5 hr
  have h1 := units1 hr
  exact (pss_one (ps_ret (pe_ix ix_seq (pv 1) (pe_df 0 G__law_draw (hr.mono (by decide)) (by rfl) (pa_cons (pv 0) (pa_cons (pe_callB call_lenU (by rfl) B.f_len (by decide +kernel) (pa_cons (pv 1) pa_nil)) pa_nil))) (fun _ _ => rfl))))

def t__law_same (K : PySem.W.Frag) (sp__law_same : Sp) : TS := (tSeq (tIfS (tB (tCB (rIsiT K) (tCons (tVar 1) (tCons (tTup (tCons (tC (.ty "list")) (tCons (tC (.ty "tuple")) tNil))) tNil)))) (tSeq (tIfS (tOr (tTest (tOp (rNeU K) (tCB (rIsi K) (tCons (tVar 0) (tCons (tC (.ty "list")) tNil))) (tCB (rIsi K) (tCons (tVar 1) (tCons (tC (.ty "list")) tNil))))) (tTest (tOp (rNeU K) (tCB (rIsi K) (tCons (tVar 0) (tCons (tC (.ty "tuple")) tNil))) (tCB (rIsi K) (tCons (tVar 1) (tCons (tC (.ty "tuple")) tNil)))))) (tRet (tC (.bl false))) tNext)
    (tRet (tAndV (tOp (rEqU K) (tCB (rLen K) (tCons (tVar 0) tNil)) (tCB (rLen K) (tCons (tVar 1) tNil))) (tCB (rAll K) (tCons (tLc (iZipS K (tCons (tVar 0) (tCons (tVar 1) tNil))) (gTup K 2 (gCons (gName 2) (gCons (gName 3) gNil))) tYes (tCall sp__law_same (([] : List V).drop 0) E0 (tCons (tVar 2) (tCons (tVar 3) tNil))) [2, 3]) tNil))))) tNext)
    (tSeq (tIfS (tB (tCB (rIsiT K) (tCons (tVar 0) (tCons (tTup (tCons (tC (.ty "list")) (tCons (tC (.ty "tuple")) tNil))) tNil)))) (tRet (tC (.bl false))) tNext)
    (tSeq (tIfS (tOr (tTest (tOp rIsN (tVar 1) (tC .non))) (tTest (tOp rIsN (tVar 0) (tC .non)))) (tRet (tAndV (tOp rIsN (tVar 1) (tC .non)) (tOp rIsN (tVar 0) (tC .non)))) tNext)
    (tSeq (tIfS (tOr (tB (tCB (rIsi K) (tCons (tVar 1) (tCons (tC (.ty "bool")) tNil)))) (tB (tCB (rIsi K) (tCons (tVar 0) (tCons (tC (.ty "bool")) tNil))))) (tRet (tAndV (tCB (rIsi K) (tCons (tVar 1) (tCons (tC (.ty "bool")) tNil))) (tAndV (tCB (rIsi K) (tCons (tVar 0) (tCons (tC (.ty "bool")) tNil))) (tOp (rEqU K) (tVar 0) (tVar 1))))) tNext)
    (tSeq (tIfS (tOr (tB (tCB (rIsi K) (tCons (tVar 1) (tCons (tC (.ty "int")) tNil)))) (tB (tCB (rIsi K) (tCons (tVar 0) (tCons (tC (.ty "int")) tNil))))) (tRet (tAndV (tCB (rIsi K) (tCons (tVar 1) (tCons (tC (.ty "int")) tNil))) (tAndV (tCB (rIsi K) (tCons (tVar 0) (tCons (tC (.ty "int")) tNil))) (tOp (rEqU K) (tVar 0) (tVar 1))))) tNext)
    (tSeq (tIfS (tOr (tB (tCB (rIsi K) (tCons (tVar 1) (tCons (tC (.ty "str")) tNil)))) (tB (tCB (rIsi K) (tCons (tVar 0) (tCons (tC (.ty "str")) tNil))))) (tRet (tAndV (tCB (rIsi K) (tCons (tVar 1) (tCons (tC (.ty "str")) tNil))) (tAndV (tCB (rIsi K) (tCons (tVar 0) (tCons (tC (.ty "str")) tNil))) (tOp (rEqU K) (tVar 0) (tVar 1))))) tNext)
    (tRet (tAndV (tCB (rIsi K) (tCons (tVar 0) (tCons (tC (.ty "dict")) tNil))) (tAndV (tCB (rIsi K) (tCons (tVar 1) (tCons (tC (.ty "dict")) tNil))) (tOp (rEqK K) (tVar 0) (tVar 1)))))))))))

theorem w__law_same {kk : Nat} (B : Bl mg)    {sp__law_same : Sp} (G__law_same : Df P w K mg base kk "_law_same" ["_law_found", "_law_due"] [] sp__law_same) {f : Addr} {cdv : Value} {A : Around} {outer : List Env} {s : Shared} {H : Hp} {E : XK} (hr : Room kk (A.deeper (envOfC "_law_same" (defScope s__law_same) s.heap.objs.size f cdv))) :
    PSs (cxOf (L2.CX P w) P w K mg base n__law_same "_law_same" (defScope s__law_same) f cdv A outer s H E).nox (defBody s__law_same) (t__law_same K sp__law_same) := by
  have nd := sc__law_same.nd
  have hu := hr.units
  have hv := units5 hr
  have h1 := units1 hr
  exact (pss_cons (ps_if (pt_val (pe_callB call_isiT (by rfl) B.f_isinstance (by decide +kernel) (pa_cons (pv 1) (pa_cons (pe_tup (pa_cons (pe_bltn (by rfl) B.f_list (by decide +kernel) rfl) (pa_cons (pe_bltn (by rfl) B.f_tuple (by decide +kernel) rfl) pa_nil))) pa_nil)))) (pss_cons (ps_if (PW.pt (pw_or (pt_cmpR (op_neU hu) (pe_callB call_isi (by rfl) B.f_isinstance (by decide +kernel) (pa_cons (pv 0) (pa_cons (pe_bltn (by rfl) B.f_list (by decide +kernel) rfl) pa_nil))) (pe_callB call_isi (by rfl) B.f_isinstance (by decide +kernel) (pa_cons (pv 1) (pa_cons (pe_bltn (by rfl) B.f_list (by decide +kernel) rfl) pa_nil))) (nomark _)) (pw_or1 (pt_cmpR (op_neU hu) (pe_callB call_isi (by rfl) B.f_isinstance (by decide +kernel) (pa_cons (pv 0) (pa_cons (pe_bltn (by rfl) B.f_tuple (by decide +kernel) rfl) pa_nil))) (pe_callB call_isi (by rfl) B.f_isinstance (by decide +kernel) (pa_cons (pv 1) (pa_cons (pe_bltn (by rfl) B.f_tuple (by decide +kernel) rfl) pa_nil))) (nomark _))))) (pss_one (ps_ret pe_bl)) pss_nil)
    (pss_one (ps_ret (pe_and (pe_cmpR (op_eqU hu) (pe_callB call_lenU (by rfl) B.f_len (by decide +kernel) (pa_cons (pv 0) pa_nil)) (pe_callB call_lenU (by rfl) B.f_len (by decide +kernel) (pa_cons (pv 1) pa_nil)) (nomark _)) (pe_one (pe_callB (cr_all rfl) (by rfl) B.f_all (by decide +kernel) (pa_cons (pe_lc (own := [("_law_p", 2), ("_law_q", 3)]) rfl nd (pi_zipS (by rfl) B.f_zip (pa_cons (pv 0) (pa_cons (pv 1) pa_nil))) (blkOk_by (own := [("_law_p", 2), ("_law_q", 3)]) (N := n__law_same) (sc := defScope s__law_same) (by decide +kernel)) (fun _ _ _ _ _ => (pg_tup (by rfl) (pgs_cons (pg_name (i := 2) nd rfl (Or.inl rfl)) (pgs_cons (pg_name (i := 3) nd rfl (Or.inl rfl)) pgs_nil)))) (fun _ _ _ _ _ => pts_nil) (fun _ _ _ _ _ => (pe_df 0 G__law_same (hr.mono (Nat.le_refl _)) (by rfl) (pa_cons (pv 2) (pa_cons (pv 3) pa_nil))))) pa_nil))))))) pss_nil)
    (pss_cons (ps_if (pt_val (pe_callB call_isiT (by rfl) B.f_isinstance (by decide +kernel) (pa_cons (pv 0) (pa_cons (pe_tup (pa_cons (pe_bltn (by rfl) B.f_list (by decide +kernel) rfl) (pa_cons (pe_bltn (by rfl) B.f_tuple (by decide +kernel) rfl) pa_nil))) pa_nil)))) (pss_one (ps_ret pe_bl)) pss_nil)
    (pss_cons (ps_if (PW.pt (pw_or (pt_cmpR op_isN1 (pv 1) pe_non (nomark _)) (pw_or1 (pt_cmpR op_isN1 (pv 0) pe_non (nomark _))))) (pss_one (ps_ret (pe_and (pe_cmpR op_isN1 (pv 1) pe_non (nomark _)) (pe_one (pe_cmpR op_isN1 (pv 0) pe_non (nomark _)))))) pss_nil)
    (pss_cons (ps_if (PW.pt (pw_or (pt_val (pe_callB call_isi (by rfl) B.f_isinstance (by decide +kernel) (pa_cons (pv 1) (pa_cons (pe_bltn (by rfl) B.f_bool (by decide +kernel) rfl) pa_nil)))) (pw_or1 (pt_val (pe_callB call_isi (by rfl) B.f_isinstance (by decide +kernel) (pa_cons (pv 0) (pa_cons (pe_bltn (by rfl) B.f_bool (by decide +kernel) rfl) pa_nil))))))) (pss_one (ps_ret (pe_and (pe_callB call_isi (by rfl) B.f_isinstance (by decide +kernel) (pa_cons (pv 1) (pa_cons (pe_bltn (by rfl) B.f_bool (by decide +kernel) rfl) pa_nil))) (pe_and (pe_callB call_isi (by rfl) B.f_isinstance (by decide +kernel) (pa_cons (pv 0) (pa_cons (pe_bltn (by rfl) B.f_bool (by decide +kernel) rfl) pa_nil))) (pe_one (pe_cmpR (op_eqU hu) (pv 0) (pv 1) (nomark _))))))) pss_nil)
    (pss_cons (ps_if (PW.pt (pw_or (pt_val (pe_callB call_isi (by rfl) B.f_isinstance (by decide +kernel) (pa_cons (pv 1) (pa_cons (pe_bltn (by rfl) B.f_int (by decide +kernel) rfl) pa_nil)))) (pw_or1 (pt_val (pe_callB call_isi (by rfl) B.f_isinstance (by decide +kernel) (pa_cons (pv 0) (pa_cons (pe_bltn (by rfl) B.f_int (by decide +kernel) rfl) pa_nil))))))) (pss_one (ps_ret (pe_and (pe_callB call_isi (by rfl) B.f_isinstance (by decide +kernel) (pa_cons (pv 1) (pa_cons (pe_bltn (by rfl) B.f_int (by decide +kernel) rfl) pa_nil))) (pe_and (pe_callB call_isi (by rfl) B.f_isinstance (by decide +kernel) (pa_cons (pv 0) (pa_cons (pe_bltn (by rfl) B.f_int (by decide +kernel) rfl) pa_nil))) (pe_one (pe_cmpR (op_eqU hu) (pv 0) (pv 1) (nomark _))))))) pss_nil)
    (pss_cons (ps_if (PW.pt (pw_or (pt_val (pe_callB call_isi (by rfl) B.f_isinstance (by decide +kernel) (pa_cons (pv 1) (pa_cons (pe_bltn (by rfl) B.f_str (by decide +kernel) rfl) pa_nil)))) (pw_or1 (pt_val (pe_callB call_isi (by rfl) B.f_isinstance (by decide +kernel) (pa_cons (pv 0) (pa_cons (pe_bltn (by rfl) B.f_str (by decide +kernel) rfl) pa_nil))))))) (pss_one (ps_ret (pe_and (pe_callB call_isi (by rfl) B.f_isinstance (by decide +kernel) (pa_cons (pv 1) (pa_cons (pe_bltn (by rfl) B.f_str (by decide +kernel) rfl) pa_nil))) (pe_and (pe_callB call_isi (by rfl) B.f_isinstance (by decide +kernel) (pa_cons (pv 0) (pa_cons (pe_bltn (by rfl) B.f_str (by decide +kernel) rfl) pa_nil))) (pe_one (pe_cmpR (op_eqU hu) (pv 0) (pv 1) (nomark _))))))) pss_nil)
    (pss_one (ps_ret (pe_and (pe_callB call_isi (by rfl) B.f_isinstance (by decide +kernel) (pa_cons (pv 0) (pa_cons (pe_bltn (by rfl) B.f_dict (by decide +kernel) rfl) pa_nil))) (pe_and (pe_callB call_isi (by rfl) B.f_isinstance (by decide +kernel) (pa_cons (pv 1) (pa_cons (pe_bltn (by rfl) B.f_dict (by decide +kernel) rfl) pa_nil))) (pe_one (pe_cmpR (op_eqK hu) (pv 0) (pv 1) (nomark _)))))))))))))

def t__law_word (K : PySem.W.Frag) (sp__law_draw sp__law_of : Sp) : TS := (tSeq (tIfS (tTest (tOp (rEqU K) (tCall sp__law_draw (([] : List V).drop 0) E0 (tCons (tVar 0) (tCons (tC (.int 3)) tNil))) (tC (.int 0)))) (tRet (tCall sp__law_of (([] : List V).drop 0) E0 (tCons (tVar 0) (tCons (tLst (tCons (tC (.str (T [115, 101, 108, 102]))) (tCons (tC (.str (T [98]))) (tCons (tC (.str (T [97]))) (tCons (tC (.str (T [114, 111, 119]))) (tCons (tC (.str (T [101, 110, 100]))) (tCons (tC (.str (T [97, 108, 108]))) (tCons (tC (.str (T [98, 97, 110, 100]))) (tCons (tC (.str (T [105, 110]))) (tCons (tC (.str (T [122]))) (tCons (tC (.str (T [110, 111, 117, 103, 104, 116]))) (tCons (tC (.str (T [122, 122]))) (tCons (tC (.str (T [108, 111, 116]))) (tCons (tC (.str (T [110, 111, 110, 101]))) tNil)))))))))))))) tNil)))) tNext)
    (tSeq (tAsg (tCall sp__law_draw (([] : List V).drop 0) E0 (tCons (tVar 0) (tCons (tC (.int 6)) tNil))) (gName 1))
    (tSeq (tAsg (tCall sp__law_draw (([] : List V).drop 0) E0 (tCons (tVar 0) (tCons (tOp (rIx K) (tLst (tCons (tC (.int 26)) (tCons (tC (.int 676)) (tCons (tC (.int 17576)) (tCons (tC (.int 456976)) (tCons (tC (.int 11881376)) (tCons (tC (.int 308915776)) tNil))))))) (tVar 1)) tNil))) (gName 2))
    (tSeq (tAsg (tC (.str (T []))) (gName 3))
    (tSeq (tFor (iRng1 (tCons (tOp (rAddU K) (tVar 1) (tC (.int 1))) tNil)) (gName 4)
    (tSeq (tAsg (tOp (rAddU K) (tVar 3) (tOp (rIx K) (tC (.str (T [97, 98, 99, 100, 101, 102, 103, 104, 105, 106, 107, 108, 109, 110, 111, 112, 113, 114, 115, 116, 117, 118, 119, 120, 121, 122]))) (tOp rModU (tCB (rInt1) (tCons (tVar 2) tNil)) (tC (.int 26))))) (gName 3))
    (tAsg (tOp rDivU (tVar 2) (tC (.int 26))) (gName 2))))
    (tRet (tVar 3)))))))

theorem w__law_word (B : Bl mg)    {sp__law_draw : Sp} (G__law_draw : Df P w K mg base 1 "_law_draw" ["_law_bag_here", "_law_top"] [] sp__law_draw) {sp__law_of : Sp} (G__law_of : Df P w K mg base 2 "_law_of" ["_law_bag_here", "_law_some"] [] sp__law_of) {f : Addr} {cdv : Value} {A : Around} {outer : List Env} {s : Shared} {H : Hp} {E : XK} (hr : Room 2 (A.deeper (envOfC "_law_word" (defScope s__law_word) s.heap.objs.size f cdv))) :
    PSs (cxOf (L2.CX P w) P w K mg base n__law_word "_law_word" (defScope s__law_word) f cdv A outer s H E).nox (defBody s__law_word) (t__law_word K sp__law_draw sp__law_of) := by
  have nd := sc__law_word.nd
  have hu := hr.units
  have hv := units5 hr
  have h1 := units1 hr
  exact (pss_cons (ps_if (pt_cmpR (op_eqU hu) (pe_df 0 G__law_draw (hr.mono (by decide)) (by rfl) (pa_cons (pv 0) (pa_cons pe_int pa_nil))) pe_int (nomark _)) (pss_one (ps_ret (pe_df 0 G__law_of (hr.mono (by decide)) (by rfl) (pa_cons (pv 0) (pa_cons (pe_lst (pa_cons (pe_strT (by decide +kernel)) (pa_cons (pe_strT (by decide +kernel)) (pa_cons (pe_strT (by decide +kernel)) (pa_cons (pe_strT (by decide +kernel)) (pa_cons (pe_strT (by decide +kernel)) (pa_cons (pe_strT (by decide +kernel)) (pa_cons (pe_strT (by decide +kernel)) (pa_cons (pe_strT (by decide +kernel)) (pa_cons (pe_strT (by decide +kernel)) (pa_cons (pe_strT (by decide +kernel)) (pa_cons (pe_strT (by decide +kernel)) (pa_cons (pe_strT (by decide +kernel)) (pa_cons (pe_strT (by decide +kernel)) pa_nil)))))))))))))) pa_nil))))) pss_nil)
    (pss_cons (ps_set (i := 1) nd rfl (Or.inl rfl) (pe_df 0 G__law_draw (hr.mono (by decide)) (by rfl) (pa_cons (pv 0) (pa_cons pe_int pa_nil))))
    (pss_cons (ps_set (i := 2) nd rfl (Or.inl rfl) (pe_df 0 G__law_draw (hr.mono (by decide)) (by rfl) (pa_cons (pv 0) (pa_cons (pe_ix ix_seq (pe_lst (pa_cons pe_int (pa_cons pe_int (pa_cons pe_int (pa_cons pe_int (pa_cons pe_int (pa_cons pe_int pa_nil))))))) (pv 1) (fun _ _ => rfl)) pa_nil))))
    (pss_cons (ps_set (i := 3) nd rfl (Or.inl rfl) (pe_strT (by decide +kernel)))
    (pss_cons (ps_for PassesOwn.never rfl (pi_range1 (by rfl) B.f_range (pa_cons (pe_op op_addU (pv 1) pe_int) pa_nil)) (pg_name (i := 4) nd rfl (Or.inl rfl))
    (pss_cons (ps_set (i := 3) nd rfl (Or.inl rfl) (pe_op op_addU (pv 3) (pe_ix ix_seq (pe_strT (by decide +kernel)) (pe_op op_modU (pe_callTy call_intU (by rfl) B.f_int (by decide +kernel) (pa_cons (pv 2) pa_nil)) pe_int) (fun _ _ => rfl))))
    (pss_one (ps_set (i := 2) nd rfl (Or.inl rfl) (pe_op op_divU (pv 2) pe_int)))))
    (pss_one (ps_ret (pv 3))))))))

def t__law_frame (K : PySem.W.Frag) (sp__law_of sp__law_word : Sp) : TS := (tSeq (tAsg (tLst tNil) (gName 2))
    (tSeq (tFor (iRng1 (tCons (tVar 1) tNil)) (gName 3)
    (tSeq (tAsg (tTup (tCons (tCall sp__law_word (([] : List V).drop 0) E0 (tCons (tVar 0) tNil)) (tCons (tLc (iSrc K (tVar 2)) (gName 6) tYes (tOp (rIx K) (tVar 6) (tC (.int 0))) [6]) tNil))) (gTup K 2 (gCons (gName 4) (gCons (gName 5) gNil))))
    (tSeq (tIfS (tTest (tOp (rInU K) (tVar 4) (tVar 5))) (tAsg (tOp (rIx K) (tLc (iSrc K (tC (.str (T [109, 122, 97, 107, 121, 98, 116, 100, 119, 111, 120, 103, 99])))) (gName 7) (tTest (tOp (rNiU K) (tOp (rAddU K) (tVar 7) (tC (.str (T [113])))) (tVar 5))) (tOp (rAddU K) (tVar 7) (tC (.str (T [113])))) [7]) (tC (.int 0))) (gName 4)) tNext)
    (tDrop (tBM K "list" rAppend (tVar 2) (tCons (tTup (tCons (tVar 4) (tCons (tCall sp__law_of (([] : List V).drop 0) E0 (tCons (tVar 0) (tCons (tLst (tCons (tC (.int 2)) (tCons (tC (.int 1)) (tCons (tC (.int 3)) (tCons (tC (.int 2)) (tCons (tC (.int 4)) (tCons (tC (.int 2)) (tCons (tC (.int 3)) (tCons (tC (.int 1)) tNil))))))))) tNil))) tNil))) tNil))))))
    (tRet (tVar 2))))

theorem w__law_frame (B : Bl mg)    {sp__law_of : Sp} (G__law_of : Df P w K mg base 2 "_law_of" ["_law_bag_here", "_law_some"] [] sp__law_of) {sp__law_word : Sp} (G__law_word : Df P w K mg base 3 "_law_word" ["_law_bag_here"] [] sp__law_word) {f : Addr} {cdv : Value} {A : Around} {outer : List Env} {s : Shared} {H : Hp} {E : XK} (hr : Room 3 (A.deeper (envOfC "_law_frame" (defScope s__law_frame) s.heap.objs.size f cdv))) :
    PSs (cxOf (L2.CX P w) P w K mg base n__law_frame "_law_frame" (defScope s__law_frame) f cdv A outer s H E).nox (defBody s__law_frame) (t__law_frame K sp__law_of sp__law_word) := by
  have nd := sc__law_frame.nd
  have hu := hr.units
  have hv := units5 hr
  have h1 := units1 hr
  exact (pss_cons (ps_set (i := 2) nd rfl (Or.inl rfl) (pe_lst pa_nil))
    (pss_cons (ps_for PassesOwn.never rfl (pi_range1 (by rfl) B.f_range (pa_cons (pv 1) pa_nil)) (pg_name (i := 3) nd rfl (Or.inl rfl))
    (pss_cons (ps_asg (pe_tup (pa_cons (pe_df 0 G__law_word (hr.mono (by decide)) (by rfl) (pa_cons (pv 0) pa_nil)) (pa_cons (pe_lc (own := [("_law_pair", 6)]) rfl nd (pi_src (pv 2)) (blkOk_by (own := [("_law_pair", 6)]) (N := n__law_frame) (sc := defScope s__law_frame) (by decide +kernel)) (fun _ _ _ _ _ => (pg_name (i := 6) nd rfl (Or.inl rfl))) (fun _ _ _ _ _ => pts_nil) (fun _ _ _ _ _ => (pe_ix ix_seq (pv 6) pe_int (fun _ _ => rfl)))) pa_nil))) (pg_tup (by rfl) (pgs_cons (pg_name (i := 4) nd rfl (Or.inl rfl)) (pgs_cons (pg_name (i := 5) nd rfl (Or.inr rfl)) pgs_nil))))
    (pss_cons (ps_if (pt_cmpR (op_inU hv) (pv 4) (pv 5) (by rfl)) (pss_one (ps_set (i := 4) nd rfl (Or.inl rfl) (pe_ix ix_seq (pe_lc (own := [("_law_c", 7)]) rfl nd (pi_src (pe_strT (by decide +kernel))) (blkOk_by (own := [("_law_c", 7)]) (N := n__law_frame) (sc := defScope s__law_frame) (by decide +kernel)) (fun _ _ _ _ _ => (pg_name (i := 7) nd rfl (Or.inl rfl))) (fun _ _ _ _ _ => (pts_one (pt_cmpR (op_niU hv) (pe_op op_addU (pv 7) (pe_strT (by decide +kernel))) (pv 5) (by rfl)))) (fun _ _ _ _ _ => (pe_op op_addU (pv 7) (pe_strT (by decide +kernel))))) pe_int (fun _ _ => rfl)))) pss_nil)
    (pss_one (ps_expr (pe_bm PySem.F.plainAttrs_list PySem.F.slot_list_append PySem.F.type_list_append mt_append (pv 2) (pa_cons (pe_tup (pa_cons (pv 4) (pa_cons (pe_df 0 G__law_of (hr.mono (by decide)) (by rfl) (pa_cons (pv 0) (pa_cons (pe_lst (pa_cons pe_int (pa_cons pe_int (pa_cons pe_int (pa_cons pe_int (pa_cons pe_int (pa_cons pe_int (pa_cons pe_int (pa_cons pe_int pa_nil))))))))) pa_nil))) pa_nil))) pa_nil)))))))
    (pss_one (ps_ret (pv 2)))))

def t__law_seed (K : PySem.W.Frag) (sp__law_draw : Sp) : TS := (tSeq (tPar3 3 4 5 (tCons (tOp (rEqU K) (tCall sp__law_draw (([] : List V).drop 0) E0 (tCons (tVar 0) (tCons (tC (.int 16)) tNil))) (tC (.int 15))) (tCons (tCall sp__law_draw (([] : List V).drop 0) E0 (tCons (tVar 0) (tCons (tCB (rLen K) (tCons (tVar 1) tNil)) tNil))) (tCons (tC (.str (T []))) tNil))))
    (tSeq (tFor (iRng1 (tCons (tCB (rLen K) (tCons (tVar 1) tNil)) tNil)) (gName 6)
    (tSeq (tAsg (tOp (rIx K) (tC (.str (T [48, 49, 50, 51]))) (tCall sp__law_draw (([] : List V).drop 0) E0 (tCons (tVar 0) (tCons (tOp (rIx K) (tOp (rIx K) (tVar 1) (tVar 6)) (tC (.int 1))) tNil)))) (gName 7))
    (tSeq (tAsg (tAndV (tNotV (tVar 3)) (tAndV (tOp (rNeU K) (tVar 6) (tVar 4)) (tOp rGeU (tCall sp__law_draw (([] : List V).drop 0) E0 (tCons (tVar 0) (tCons (tC (.int 5)) tNil))) (tVar 2)))) (gName 8))
    (tAsg (tOp (rAddU K) (tVar 5) (tIf (tTru K (tVar 8)) (tC (.str (T [46]))) (tVar 7))) (gName 5)))))
    (tRet (tVar 5))))

theorem w__law_seed (B : Bl mg)    {sp__law_draw : Sp} (G__law_draw : Df P w K mg base 1 "_law_draw" ["_law_bag_here", "_law_top"] [] sp__law_draw) {f : Addr} {cdv : Value} {A : Around} {outer : List Env} {s : Shared} {H : Hp} {E : XK} (hr : Room 1 (A.deeper (envOfC "_law_seed" (defScope s__law_seed) s.heap.objs.size f cdv))) :
    PSs (cxOf (L2.CX P w) P w K mg base n__law_seed "_law_seed" (defScope s__law_seed) f cdv A outer s H E).nox (defBody s__law_seed) (t__law_seed K sp__law_draw) := by
  have nd := sc__law_seed.nd
  have hu := hr.units
  have hv := units5 hr
  have h1 := units1 hr
  exact (pss_cons (ps_par3 (i := 3) (j := 4) (l := 5) (by rfl) nd rfl rfl rfl (by decide) (by decide) (by decide) rfl rfl rfl (pa_cons (pe_cmpR (op_eqU hu) (pe_df 0 G__law_draw (hr.mono (by decide)) (by rfl) (pa_cons (pv 0) (pa_cons pe_int pa_nil))) pe_int (nomark _)) (pa_cons (pe_df 0 G__law_draw (hr.mono (by decide)) (by rfl) (pa_cons (pv 0) (pa_cons (pe_callB call_lenU (by rfl) B.f_len (by decide +kernel) (pa_cons (pv 1) pa_nil)) pa_nil))) (pa_cons (pe_strT (by decide +kernel)) pa_nil))) (by rfl))
    (pss_cons (ps_for PassesOwn.never rfl (pi_range1 (by rfl) B.f_range (pa_cons (pe_callB call_lenU (by rfl) B.f_len (by decide +kernel) (pa_cons (pv 1) pa_nil)) pa_nil)) (pg_name (i := 6) nd rfl (Or.inl rfl))
    (pss_cons (ps_set (i := 7) nd rfl (Or.inl rfl) (pe_ix ix_seq (pe_strT (by decide +kernel)) (pe_df 0 G__law_draw (hr.mono (by decide)) (by rfl) (pa_cons (pv 0) (pa_cons (pe_ix ix_seq (pe_ix ix_seq (pv 1) (pv 6) (fun _ _ => rfl)) pe_int (fun _ _ => rfl)) pa_nil))) (fun _ _ => rfl)))
    (pss_cons (ps_set (i := 8) nd rfl (Or.inl rfl) (pe_and (pe_not (pv 3)) (pe_and (pe_cmpR (op_neU hu) (pv 6) (pv 4) (nomark _)) (pe_one (pe_cmpR op_geU (pe_df 0 G__law_draw (hr.mono (by decide)) (by rfl) (pa_cons (pv 0) (pa_cons pe_int pa_nil))) (pv 2) (nomark _))))))
    (pss_one (ps_set (i := 5) nd rfl (Or.inl rfl) (pe_op op_addU (pv 5) (pe_ifExp (pt_tru (pv 8)) (pe_strT (by decide +kernel)) (pv 7))))))))
    (pss_one (ps_ret (pv 5)))))

def t__law_mended (K : PySem.W.Frag) : TS := (tSeq (tAsg (tOp (rIx K) (tVar 1) (tUn rNegU (tC (.int 1)))) (gName 2))
    (tSeq (tFor (iRng1 (tCons (tCB (rLen K) (tCons (tVar 0) tNil)) tNil)) (gName 3)
    (tIfS (tB (tCB (rAll K) (tCons (tLc (iSrc K (tVar 1)) (gName 4) tYes (tOp (rEqU K) (tOp (rIx K) (tVar 4) (tVar 3)) (tC (.str (T [46])))) [4]) tNil))) (tAsg (tOp (rAddU K) (tOp (rAddU K) (tSl (rSlU K) (tVar 2) tNoPart (tPart (tVar 3))) (tOp (rIx K) (tC (.str (T [48, 49, 50, 51]))) (tOp rSubU (tOp (rIx K) (tOp (rIx K) (tVar 0) (tVar 3)) (tC (.int 1))) (tC (.int 1))))) (tSl (rSlU K) (tVar 2) (tPart (tOp (rAddU K) (tVar 3) (tC (.int 1)))) tNoPart)) (gName 2)) tNext))
    (tRet (tOp (rAddU K) (tSl (rSlU K) (tVar 1) tNoPart (tPart (tUn rNegU (tC (.int 1))))) (tLst (tCons (tVar 2) tNil))))))

theorem w__law_mended (B : Bl mg)     {f : Addr} {cdv : Value} {A : Around} {outer : List Env} {s : Shared} {H : Hp} {E : XK} (hr : Room 0 (A.deeper (envOfC "_law_mended" (defScope s__law_mended) s.heap.objs.size f cdv))) :
    PSs (cxOf (L2.CX P w) P w K mg base n__law_mended "_law_mended" (defScope s__law_mended) f cdv A outer s H E).nox (defBody s__law_mended) (t__law_mended K ) := by
  have nd := sc__law_mended.nd
  have hu := hr.units
  have hv := units5 hr
  have h1 := units1 hr
  exact (pss_cons (ps_set (i := 2) nd rfl (Or.inl rfl) (pe_ix ix_seq (pv 1) (pe_un un_negU pe_int) (fun _ _ => rfl)))
    (pss_cons (ps_for PassesOwn.never rfl (pi_range1 (by rfl) B.f_range (pa_cons (pe_callB call_lenU (by rfl) B.f_len (by decide +kernel) (pa_cons (pv 0) pa_nil)) pa_nil)) (pg_name (i := 3) nd rfl (Or.inr rfl))
    (pss_one (ps_if (pt_val (pe_callB (cr_all rfl) (by rfl) B.f_all (by decide +kernel) (pa_cons (pe_lc (own := [("_law_line_here", 4)]) rfl nd (pi_src (pv 1)) (blkOk_by (own := [("_law_line_here", 4)]) (N := n__law_mended) (sc := defScope s__law_mended) (by decide +kernel)) (fun _ _ _ _ _ => (pg_name (i := 4) nd rfl (Or.inl rfl))) (fun _ _ _ _ _ => pts_nil) (fun _ _ _ _ _ => (pe_cmpR (op_eqU hu) (pe_ix ix_seq (pv 4) (pv 3) (fun _ _ => rfl)) (pe_strT (by decide +kernel)) (nomark _)))) pa_nil))) (pss_one (ps_set (i := 2) nd rfl (Or.inl rfl) (pe_op op_addU (pe_op op_addU (pe_slice sl_U (pv 2) po_none (po_some (pv 3))) (pe_ix ix_seq (pe_strT (by decide +kernel)) (pe_op op_subU (pe_ix ix_seq (pe_ix ix_seq (pv 0) (pv 3) (fun _ _ => rfl)) pe_int (fun _ _ => rfl)) pe_int) (fun _ _ => rfl))) (pe_slice sl_U (pv 2) (po_some (pe_op op_addU (pv 3) pe_int)) po_none)))) pss_nil)))
    (pss_one (ps_ret (pe_op op_addU (pe_slice sl_U (pv 1) po_none (po_some (pe_un un_negU pe_int))) (pe_lst (pa_cons (pv 2) pa_nil)))))))

def t__law_over (K : PySem.W.Frag) : TS := (tRet (tM1 (rJoin K) (tC (.str (T []))) (tLc (iRng1 (tCons (tCB (rLen K) (tCons (tVar 0) tNil)) tNil)) (gName 2) tYes (tIf (tTest (tOp (rNeU K) (tOp (rIx K) (tVar 0) (tVar 2)) (tC (.str (T [46]))))) (tOp (rIx K) (tVar 0) (tVar 2)) (tOp (rIx K) (tVar 1) (tVar 2))) [2])))

theorem w__law_over (B : Bl mg)     {f : Addr} {cdv : Value} {A : Around} {outer : List Env} {s : Shared} {H : Hp} {E : XK} (hr : Room 0 (A.deeper (envOfC "_law_over" (defScope s__law_over) s.heap.objs.size f cdv))) :
    PSs (cxOf (L2.CX P w) P w K mg base n__law_over "_law_over" (defScope s__law_over) f cdv A outer s H E).nox (defBody s__law_over) (t__law_over K ) := by
  have nd := sc__law_over.nd
  have hu := hr.units
  have hv := units5 hr
  have h1 := units1 hr
  exact (pss_one (ps_ret (pe_joinU (pe_strT (by decide +kernel)) (pe_lc (own := [("_law_k", 2)]) rfl nd (pi_range1 (by rfl) B.f_range (pa_cons (pe_callB call_lenU (by rfl) B.f_len (by decide +kernel) (pa_cons (pv 0) pa_nil)) pa_nil)) (blkOk_by (own := [("_law_k", 2)]) (N := n__law_over) (sc := defScope s__law_over) (by decide +kernel)) (fun _ _ _ _ _ => (pg_name (i := 2) nd rfl (Or.inl rfl))) (fun _ _ _ _ _ => pts_nil) (fun _ _ _ _ _ => (pe_ifExp (pt_cmpR (op_neU hu) (pe_ix ix_seq (pv 0) (pv 2) (fun _ _ => rfl)) (pe_strT (by decide +kernel)) (nomark _)) (pe_ix ix_seq (pv 0) (pv 2) (fun _ _ => rfl)) (pe_ix ix_seq (pv 1) (pv 2) (fun _ _ => rfl))))))))

def t__law_closed (K : PySem.W.Frag) (sp__law_over : Sp) : TS := (tSeq (tAsg (tLst (tCons (tOp rMulU (tC (.str (T [46]))) (tCB (rLen K) (tCons (tOp (rIx K) (tVar 0) (tC (.int 0))) tNil))) tNil)) (gName 2))
    (tSeq (tFor (iRng1 (tCons (tOp (rAddU K) (tVar 1) (tC (.int 1))) tNil)) (gName 3)
    (tIfS (tTest (tOp rLtU (tVar 3) (tCB (rLen K) (tCons (tVar 2) tNil)))) (tSeq (tFor (iSrc K (tVar 0)) (gName 4)
    (tSeq (tAsg (tCall sp__law_over (([] : List V).drop 0) E0 (tCons (tOp (rIx K) (tVar 2) (tVar 3)) (tCons (tVar 4) tNil))) (gName 5))
    (tIfS (tTest (tOp (rNiU K) (tVar 5) (tVar 2))) (tDrop (tBM K "list" rAppend (tVar 2) (tCons (tVar 5) tNil))) tNext)))
    (tIfS (tTest (tOp rGtU (tCB (rLen K) (tCons (tVar 2) tNil)) (tVar 1))) (tRet (tC .non)) tNext)) tNext))
    (tRet (tVar 2))))

theorem w__law_closed (B : Bl mg)    {sp__law_over : Sp} (G__law_over : Df P w K mg base 1 "_law_over" ["_law_one", "_law_two"] [] sp__law_over) {f : Addr} {cdv : Value} {A : Around} {outer : List Env} {s : Shared} {H : Hp} {E : XK} (hr : Room 1 (A.deeper (envOfC "_law_closed" (defScope s__law_closed) s.heap.objs.size f cdv))) :
    PSs (cxOf (L2.CX P w) P w K mg base n__law_closed "_law_closed" (defScope s__law_closed) f cdv A outer s H E).nox (defBody s__law_closed) (t__law_closed K sp__law_over) := by
  have nd := sc__law_closed.nd
  have hu := hr.units
  have hv := units5 hr
  have h1 := units1 hr
  exact (pss_cons (ps_set (i := 2) nd rfl (Or.inl rfl) (pe_lst (pa_cons (pe_op op_mulU (pe_strT (by decide +kernel)) (pe_callB call_lenU (by rfl) B.f_len (by decide +kernel) (pa_cons (pe_ix ix_seq (pv 0) pe_int (fun _ _ => rfl)) pa_nil))) pa_nil)))
    (pss_cons (ps_for PassesOwn.never rfl (pi_range1 (by rfl) B.f_range (pa_cons (pe_op op_addU (pv 1) pe_int) pa_nil)) (pg_name (i := 3) nd rfl (Or.inl rfl))
    (pss_one (ps_if (pt_cmpR op_ltU (pv 3) (pe_callB call_lenU (by rfl) B.f_len (by decide +kernel) (pa_cons (pv 2) pa_nil)) (nomark _)) (pss_cons (ps_for PassesOwn.never rfl (pi_src (pv 0)) (pg_name (i := 4) nd rfl (Or.inl rfl))
    (pss_cons (ps_set (i := 5) nd rfl (Or.inl rfl) (pe_df 0 G__law_over (hr.mono (by decide)) (by rfl) (pa_cons (pe_ix ix_seq (pv 2) (pv 3) (fun _ _ => rfl)) (pa_cons (pv 4) pa_nil))))
    (pss_one (ps_if (pt_cmpR (op_niU hv) (pv 5) (pv 2) (by rfl)) (pss_one (ps_expr (pe_bm PySem.F.plainAttrs_list PySem.F.slot_list_append PySem.F.type_list_append mt_append (pv 2) (pa_cons (pv 5) pa_nil)))) pss_nil))))
    (pss_one (ps_if (pt_cmpR op_gtU (pe_callB call_lenU (by rfl) B.f_len (by decide +kernel) (pa_cons (pv 2) pa_nil)) (pv 1) (nomark _)) (pss_one (ps_ret pe_non)) pss_nil))) pss_nil)))
    (pss_one (ps_ret (pv 2)))))

def t__law_home (K : PySem.W.Frag) (sp__law_closed sp__law_draw sp__law_frame sp__law_mended sp__law_of sp__law_seed : Sp) : TS := (tSeq (tPar 1 2 (tCons (tCall sp__law_frame (([] : List V).drop 0) E0 (tCons (tVar 0) (tCons (tCall sp__law_of (([] : List V).drop 0) E0 (tCons (tVar 0) (tCons (tLst (tCons (tC (.int 3)) (tCons (tC (.int 4)) (tCons (tC (.int 4)) (tCons (tC (.int 5)) (tCons (tC (.int 3)) (tCons (tC (.int 5)) (tCons (tC (.int 2)) (tCons (tC (.int 4)) (tCons (tC (.int 6)) (tCons (tC (.int 5)) (tCons (tC (.int 4)) (tCons (tC (.int 12)) (tCons (tC (.int 1)) tNil)))))))))))))) tNil))) tNil))) (tCons (tCall sp__law_of (([] : List V).drop 0) E0 (tCons (tVar 0) (tCons (tLst (tCons (tC (.int 1)) (tCons (tC (.int 3)) (tCons (tC (.int 1)) (tCons (tC (.int 2)) (tCons (tC (.int 0)) (tCons (tC (.int 1)) (tCons (tC (.int 0)) tNil)))))))) tNil))) tNil)))
    (tSeq (tPar 3 4 (tCons (tLst tNil) (tCons (tC .non) tNil)))
    (tSeq (tFor (iRng1 (tCons (tCall sp__law_of (([] : List V).drop 0) E0 (tCons (tVar 0) (tCons (tLst (tCons (tC (.int 4)) (tCons (tC (.int 3)) (tCons (tC (.int 5)) (tCons (tC (.int 6)) (tCons (tC (.int 4)) (tCons (tC (.int 5)) (tCons (tC (.int 2)) (tCons (tC (.int 7)) (tCons (tC (.int 6)) (tCons (tC (.int 5)) (tCons (tC (.int 1)) tNil)))))))))))) tNil))) tNil)) (gName 5)
    (tSeq (tAsg (tCall sp__law_seed (([] : List V).drop 0) E0 (tCons (tVar 0) (tCons (tVar 1) (tCons (tVar 2) tNil)))) (gName 6))
    (tIfS (tTest (tOp (rNiU K) (tVar 6) (tVar 3))) (tDrop (tBM K "list" rAppend (tVar 3) (tCons (tVar 6) tNil))) tNext)))
    (tSeq (tAsg (tVar 3) (gName 7))
    (tSeq (tFor (iSrc K (tLst (tCons (tC (.int 7)) (tCons (tC (.int 5)) (tCons (tC (.int 4)) (tCons (tC (.int 3)) tNil)))))) (gName 8)
    (tIfS (tTest (tOp rIsN (tVar 4) (tC .non))) (tSeq (tAsg (tCall sp__law_mended (([] : List V).drop 0) E0 (tCons (tVar 1) (tCons (tSl (rSlU K) (tVar 3) tNoPart (tPart (tVar 8))) tNil))) (gName 7))
    (tAsg (tCall sp__law_closed (([] : List V).drop 0) E0 (tCons (tVar 7) (tCons (tC (.int 40)) tNil))) (gName 4))) tNext))
    (tSeq (tAsg (tCall sp__law_draw (([] : List V).drop 0) E0 (tCons (tVar 0) (tCons (tCB (rLen K) (tCons (tVar 7) tNil)) tNil))) (gName 9))
    (tRet (tLst (tCons (tVar 1) (tCons (tOp (rAddU K) (tSl (rSlU K) (tVar 7) (tPart (tVar 9)) tNoPart) (tSl (rSlU K) (tVar 7) tNoPart (tPart (tVar 9)))) (tCons (tVar 4) tNil)))))))))))

theorem w__law_home (B : Bl mg)    {sp__law_closed : Sp} (G__law_closed : Df P w K mg base 2 "_law_closed" ["_law_sown", "_law_cap"] [] sp__law_closed) {sp__law_draw : Sp} (G__law_draw : Df P w K mg base 1 "_law_draw" ["_law_bag_here", "_law_top"] [] sp__law_draw) {sp__law_frame : Sp} (G__law_frame : Df P w K mg base 4 "_law_frame" ["_law_bag_here", "_law_count"] [] sp__law_frame) {sp__law_mended : Sp} (G__law_mended : Df P w K mg base 1 "_law_mended" ["_law_frame_here", "_law_sown"] [] sp__law_mended) {sp__law_of : Sp} (G__law_of : Df P w K mg base 2 "_law_of" ["_law_bag_here", "_law_some"] [] sp__law_of) {sp__law_seed : Sp} (G__law_seed : Df P w K mg base 2 "_law_seed" ["_law_bag_here", "_law_frame_here", "_law_share"] [] sp__law_seed) {f : Addr} {cdv : Value} {A : Around} {outer : List Env} {s : Shared} {H : Hp} {E : XK} (hr : Room 4 (A.deeper (envOfC "_law_home" (defScope s__law_home) s.heap.objs.size f cdv))) :
    PSs (cxOf (L2.CX P w) P w K mg base n__law_home "_law_home" (defScope s__law_home) f cdv A outer s H E).nox (defBody s__law_home) (t__law_home K sp__law_closed sp__law_draw sp__law_frame sp__law_mended sp__law_of sp__law_seed) := by
  have nd := sc__law_home.nd
  have hu := hr.units
  have hv := units5 hr
  have h1 := units1 hr
  exact (pss_cons (ps_par (i := 1) (j := 2) (by rfl) nd rfl rfl (by decide) rfl rfl (pa_cons (pe_df 0 G__law_frame (hr.mono (by decide)) (by rfl) (pa_cons (pv 0) (pa_cons (pe_df 0 G__law_of (hr.mono (by decide)) (by rfl) (pa_cons (pv 0) (pa_cons (pe_lst (pa_cons pe_int (pa_cons pe_int (pa_cons pe_int (pa_cons pe_int (pa_cons pe_int (pa_cons pe_int (pa_cons pe_int (pa_cons pe_int (pa_cons pe_int (pa_cons pe_int (pa_cons pe_int (pa_cons pe_int (pa_cons pe_int pa_nil)))))))))))))) pa_nil))) pa_nil))) (pa_cons (pe_df 0 G__law_of (hr.mono (by decide)) (by rfl) (pa_cons (pv 0) (pa_cons (pe_lst (pa_cons pe_int (pa_cons pe_int (pa_cons pe_int (pa_cons pe_int (pa_cons pe_int (pa_cons pe_int (pa_cons pe_int pa_nil)))))))) pa_nil))) pa_nil)) (by rfl))
    (pss_cons (ps_par (i := 3) (j := 4) (by rfl) nd rfl rfl (by decide) rfl rfl (pa_cons (pe_lst pa_nil) (pa_cons pe_non pa_nil)) (by rfl))
    (pss_cons (ps_for PassesOwn.never rfl (pi_range1 (by rfl) B.f_range (pa_cons (pe_df 0 G__law_of (hr.mono (by decide)) (by rfl) (pa_cons (pv 0) (pa_cons (pe_lst (pa_cons pe_int (pa_cons pe_int (pa_cons pe_int (pa_cons pe_int (pa_cons pe_int (pa_cons pe_int (pa_cons pe_int (pa_cons pe_int (pa_cons pe_int (pa_cons pe_int (pa_cons pe_int pa_nil)))))))))))) pa_nil))) pa_nil)) (pg_name (i := 5) nd rfl (Or.inl rfl))
    (pss_cons (ps_set (i := 6) nd rfl (Or.inl rfl) (pe_df 0 G__law_seed (hr.mono (by decide)) (by rfl) (pa_cons (pv 0) (pa_cons (pv 1) (pa_cons (pv 2) pa_nil)))))
    (pss_one (ps_if (pt_cmpR (op_niU hv) (pv 6) (pv 3) (by rfl)) (pss_one (ps_expr (pe_bm PySem.F.plainAttrs_list PySem.F.slot_list_append PySem.F.type_list_append mt_append (pv 3) (pa_cons (pv 6) pa_nil)))) pss_nil))))
    (pss_cons (ps_set (i := 7) nd rfl (Or.inl rfl) (pv 3))
    (pss_cons (ps_for PassesOwn.never rfl (pi_src (pe_lst (pa_cons pe_int (pa_cons pe_int (pa_cons pe_int (pa_cons pe_int pa_nil)))))) (pg_name (i := 8) nd rfl (Or.inl rfl))
    (pss_one (ps_if (pt_cmpR op_isN1 (pv 4) pe_non (nomark _)) (pss_cons (ps_set (i := 7) nd rfl (Or.inl rfl) (pe_df 0 G__law_mended (hr.mono (by decide)) (by rfl) (pa_cons (pv 1) (pa_cons (pe_slice sl_U (pv 3) po_none (po_some (pv 8))) pa_nil))))
    (pss_one (ps_set (i := 4) nd rfl (Or.inl rfl) (pe_df 0 G__law_closed (hr.mono (by decide)) (by rfl) (pa_cons (pv 7) (pa_cons pe_int pa_nil)))))) pss_nil)))
    (pss_cons (ps_set (i := 9) nd rfl (Or.inl rfl) (pe_df 0 G__law_draw (hr.mono (by decide)) (by rfl) (pa_cons (pv 0) (pa_cons (pe_callB call_lenU (by rfl) B.f_len (by decide +kernel) (pa_cons (pv 7) pa_nil)) pa_nil))))
    (pss_one (ps_ret (pe_lst (pa_cons (pv 1) (pa_cons (pe_op op_addU (pe_slice sl_U (pv 7) (po_some (pv 9)) po_none) (pe_slice sl_U (pv 7) po_none (po_some (pv 9)))) (pa_cons (pv 4) pa_nil))))))))))))

def t__law_line (K : PySem.W.Frag) (sp__law_draw sp__law_of : Sp) : TS := (tSeq (tAsg (tCall sp__law_draw (([] : List V).drop 0) E0 (tCons (tVar 0) (tCons (tC (.int 8)) tNil))) (gName 3))
    (tSeq (tIfS (tTest (tOp (rEqU K) (tVar 3) (tC (.int 7)))) (tRet (tOp (rIx K) (tVar 2) (tC (.int 0)))) tNext)
    (tRet (tIf (tTest (tOp rLtU (tVar 3) (tC (.int 5)))) (tCall sp__law_of (([] : List V).drop 0) E0 (tCons (tVar 0) (tCons (tVar 1) tNil))) (tCall sp__law_of (([] : List V).drop 0) E0 (tCons (tVar 0) (tCons (tVar 2) tNil)))))))

theorem w__law_line (B : Bl mg)    {sp__law_draw : Sp} (G__law_draw : Df P w K mg base 1 "_law_draw" ["_law_bag_here", "_law_top"] [] sp__law_draw) {sp__law_of : Sp} (G__law_of : Df P w K mg base 2 "_law_of" ["_law_bag_here", "_law_some"] [] sp__law_of) {f : Addr} {cdv : Value} {A : Around} {outer : List Env} {s : Shared} {H : Hp} {E : XK} (hr : Room 2 (A.deeper (envOfC "_law_line" (defScope s__law_line) s.heap.objs.size f cdv))) :
    PSs (cxOf (L2.CX P w) P w K mg base n__law_line "_law_line" (defScope s__law_line) f cdv A outer s H E).nox (defBody s__law_line) (t__law_line K sp__law_draw sp__law_of) := by
  have nd := sc__law_line.nd
  have hu := hr.units
  have hv := units5 hr
  have h1 := units1 hr
  exact (pss_cons (ps_set (i := 3) nd rfl (Or.inl rfl) (pe_df 0 G__law_draw (hr.mono (by decide)) (by rfl) (pa_cons (pv 0) (pa_cons pe_int pa_nil))))
    (pss_cons (ps_if (pt_cmpR (op_eqU hu) (pv 3) pe_int (nomark _)) (pss_one (ps_ret (pe_ix ix_seq (pv 2) pe_int (fun _ _ => rfl)))) pss_nil)
    (pss_one (ps_ret (pe_ifExp (pt_cmpR op_ltU (pv 3) pe_int (nomark _)) (pe_df 0 G__law_of (hr.mono (by decide)) (by rfl) (pa_cons (pv 0) (pa_cons (pv 1) pa_nil))) (pe_df 0 G__law_of (hr.mono (by decide)) (by rfl) (pa_cons (pv 0) (pa_cons (pv 2) pa_nil))))))))

def t__law_past (K : PySem.W.Frag) (sp__law_draw sp__law_line : Sp) : TS := (tSeq (tAsg (tLst tNil) (gName 4))
    (tSeq (tFor (iRng1 (tCons (tVar 3) tNil)) (gName 5)
    (tSeq (tAsg (tCall sp__law_line (([] : List V).drop 0) E0 (tCons (tVar 0) (tCons (tVar 1) (tCons (tVar 2) tNil)))) (gName 6))
    (tSeq (tIfS (tAnd (tTest (tOp (rNeU K) (tVar 4) (tLst tNil))) (tTest (tOp (rEqU K) (tCall sp__law_draw (([] : List V).drop 0) E0 (tCons (tVar 0) (tCons (tC (.int 8)) tNil))) (tC (.int 0))))) (tAsg (tOp (rIx K) (tVar 4) (tUn rNegU (tC (.int 1)))) (gName 6)) tNext)
    (tDrop (tBM K "list" rAppend (tVar 4) (tCons (tVar 6) tNil))))))
    (tRet (tVar 4))))

theorem w__law_past (B : Bl mg)    {sp__law_draw : Sp} (G__law_draw : Df P w K mg base 1 "_law_draw" ["_law_bag_here", "_law_top"] [] sp__law_draw) {sp__law_line : Sp} (G__law_line : Df P w K mg base 3 "_law_line" ["_law_bag_here", "_law_sown", "_law_kept"] [] sp__law_line) {f : Addr} {cdv : Value} {A : Around} {outer : List Env} {s : Shared} {H : Hp} {E : XK} (hr : Room 3 (A.deeper (envOfC "_law_past" (defScope s__law_past) s.heap.objs.size f cdv))) :
    PSs (cxOf (L2.CX P w) P w K mg base n__law_past "_law_past" (defScope s__law_past) f cdv A outer s H E).nox (defBody s__law_past) (t__law_past K sp__law_draw sp__law_line) := by
  have nd := sc__law_past.nd
  have hu := hr.units
  have hv := units5 hr
  have h1 := units1 hr
  exact (pss_cons (ps_set (i := 4) nd rfl (Or.inl rfl) (pe_lst pa_nil))
    (pss_cons (ps_for PassesOwn.never rfl (pi_range1 (by rfl) B.f_range (pa_cons (pv 3) pa_nil)) (pg_name (i := 5) nd rfl (Or.inl rfl))
    (pss_cons (ps_set (i := 6) nd rfl (Or.inl rfl) (pe_df 0 G__law_line (hr.mono (by decide)) (by rfl) (pa_cons (pv 0) (pa_cons (pv 1) (pa_cons (pv 2) pa_nil)))))
    (pss_cons (ps_if (PW.pt (pw_and (pt_cmpR (op_neU hu) (pv 4) (pe_lst pa_nil) (nomark _)) (pw_and1 (pt_cmpR (op_eqU hu) (pe_df 0 G__law_draw (hr.mono (by decide)) (by rfl) (pa_cons (pv 0) (pa_cons pe_int pa_nil))) pe_int (nomark _))))) (pss_one (ps_set (i := 6) nd rfl (Or.inl rfl) (pe_ix ix_seq (pv 4) (pe_un un_negU pe_int) (fun _ _ => rfl)))) pss_nil)
    (pss_one (ps_expr (pe_bm PySem.F.plainAttrs_list PySem.F.slot_list_append PySem.F.type_list_append mt_append (pv 4) (pa_cons (pv 6) pa_nil)))))))
    (pss_one (ps_ret (pv 4)))))

def t__law_standing (K : PySem.W.Frag) : TS := (tSeq (tAsg (tC (.str (T []))) (gName 2))
    (tSeq (tFor (iRng1 (tCons (tVar 0) tNil)) (gName 3)
    (tSeq (tAsg (tLc (iSrc K (tVar 1)) (gName 5) (tTest (tOp (rNeU K) (tOp (rIx K) (tVar 5) (tVar 3)) (tC (.str (T [46]))))) (tOp (rIx K) (tVar 5) (tVar 3)) [5]) (gName 4))
    (tAsg (tOp (rAddU K) (tVar 2) (tIf (tTest (tOp (rNeU K) (tVar 4) (tLst tNil))) (tOp (rIx K) (tVar 4) (tUn rNegU (tC (.int 1)))) (tC (.str (T [46]))))) (gName 2))))
    (tRet (tVar 2))))

theorem w__law_standing (B : Bl mg)     {f : Addr} {cdv : Value} {A : Around} {outer : List Env} {s : Shared} {H : Hp} {E : XK} (hr : Room 0 (A.deeper (envOfC "_law_standing" (defScope s__law_standing) s.heap.objs.size f cdv))) :
    PSs (cxOf (L2.CX P w) P w K mg base n__law_standing "_law_standing" (defScope s__law_standing) f cdv A outer s H E).nox (defBody s__law_standing) (t__law_standing K ) := by
  have nd := sc__law_standing.nd
  have hu := hr.units
  have hv := units5 hr
  have h1 := units1 hr
  exact (pss_cons (ps_set (i := 2) nd rfl (Or.inl rfl) (pe_strT (by decide +kernel)))
    (pss_cons (ps_for PassesOwn.never rfl (pi_range1 (by rfl) B.f_range (pa_cons (pv 0) pa_nil)) (pg_name (i := 3) nd rfl (Or.inr rfl))
    (pss_cons (ps_setLc (i := 4) (own := [("_law_line_here", 5)]) rfl nd rfl rfl (sw_true rfl rfl rfl (by decide +kernel)) (pi_src (pv 1)) (blkOk_by (own := [("_law_line_here", 5)]) (N := n__law_standing) (sc := defScope s__law_standing) (by decide +kernel)) (fun _ _ _ _ _ => (pg_name (i := 5) nd rfl (Or.inl rfl))) (fun _ _ _ _ _ => (pts_one (pt_cmpR (op_neU hu) (pe_ix ix_seq (pv 5) (pv 3) (fun _ _ => rfl)) (pe_strT (by decide +kernel)) (nomark _)))) (fun _ _ _ _ _ => (pe_ix ix_seq (pv 5) (pv 3) (fun _ _ => rfl))))
    (pss_one (ps_set (i := 2) nd rfl (Or.inl rfl) (pe_op op_addU (pv 2) (pe_ifExp (pt_cmpR (op_neU hu) (pv 4) (pe_lst pa_nil) (nomark _)) (pe_ix ix_seq (pv 4) (pe_un un_negU pe_int) (fun _ _ => rfl)) (pe_strT (by decide +kernel))))))))
    (pss_one (ps_ret (pv 2)))))

def t__law_counted (K : PySem.W.Frag) : TS := (tSeq (tAsg tDNewK (gName 2))
    (tSeq (tFor (iRng1 (tCons (tCB (rLen K) (tCons (tVar 1) tNil)) tNil)) (gName 3)
    (tSeq (tAsg (tOp rMulU (tLst (tCons (tC (.str (T [46]))) tNil)) (tVar 0)) (gName 4))
    (tFor (iRng3 (tCons (tVar 3) (tCons (tUn rNegU (tC (.int 1))) (tCons (tUn rNegU (tC (.int 1))) tNil)))) (gName 5)
    (tSeq (tAsg (tLc (iRng1 (tCons (tVar 0) tNil)) (gName 7) tYes (tIf (tTest (tOp (rEqU K) (tOp (rIx K) (tVar 4) (tVar 7)) (tC (.str (T [46]))))) (tOp (rIx K) (tOp (rIx K) (tVar 1) (tVar 5)) (tVar 7)) (tOp (rIx K) (tVar 4) (tVar 7))) [7]) (gName 4))
    (tSeq (tAsg (tM1 (rJoin K) (tC (.str (T []))) (tVar 4)) (gName 6))
    (sDPut (tVar 2) (tVar 6) (tOp (rAddU K) (tDGet2 (tVar 2) (tVar 6) (tC (.int 0))) (tC (.int 1)))))))))
    (tRet (tCB (rSortTP K) (tCons (tLockE (tLc (iKeys (tVar 2)) (gName 6) tYes (tTup (tCons (tVar 6) (tCons (tDGet (tVar 2) (tVar 6)) tNil))) [6])) tNil)))))

theorem w__law_counted (B : Bl mg)     {f : Addr} {cdv : Value} {A : Around} {outer : List Env} {s : Shared} {H : Hp} {E : XK} (hr : Room 0 (A.deeper (envOfC "_law_counted" (defScope s__law_counted) s.heap.objs.size f cdv))) :
    PSs (cxOf (L2.CX P w) P w K mg base n__law_counted "_law_counted" (defScope s__law_counted) f cdv A outer s H E).nox (defBody s__law_counted) (t__law_counted K ) := by
  have nd := sc__law_counted.nd
  have hu := hr.units
  have hv := units5 hr
  have h1 := units1 hr
  exact (pss_cons (ps_set (i := 2) nd rfl (Or.inr rfl) pe_dnewK)
    (pss_cons (ps_for PassesOwn.never rfl (pi_range1 (by rfl) B.f_range (pa_cons (pe_callB call_lenU (by rfl) B.f_len (by decide +kernel) (pa_cons (pv 1) pa_nil)) pa_nil)) (pg_name (i := 3) nd rfl (Or.inl rfl))
    (pss_cons (ps_set (i := 4) nd rfl (Or.inr rfl) (pe_op op_mulU (pe_lst (pa_cons (pe_strT (by decide +kernel)) pa_nil)) (pv 0)))
    (pss_one (ps_for PassesOwn.never rfl (pi_range3 (by rfl) B.f_range (pa_cons (pv 3) (pa_cons (pe_un un_negU pe_int) (pa_cons (pe_un un_negU pe_int) pa_nil)))) (pg_name (i := 5) nd rfl (Or.inr rfl))
    (pss_cons (ps_set (i := 4) nd rfl (Or.inr rfl) (pe_lc (own := [("_law_k", 7)]) rfl nd (pi_range1 (by rfl) B.f_range (pa_cons (pv 0) pa_nil)) (blkOk_by (own := [("_law_k", 7)]) (N := n__law_counted) (sc := defScope s__law_counted) (by decide +kernel)) (fun _ _ _ _ _ => (pg_name (i := 7) nd rfl (Or.inl rfl))) (fun _ _ _ _ _ => pts_nil) (fun _ _ _ _ _ => (pe_ifExp (pt_cmpR (op_eqU hu) (pe_ix ix_seq (pv 4) (pv 7) (fun _ _ => rfl)) (pe_strT (by decide +kernel)) (nomark _)) (pe_ix ix_seq (pe_ix ix_seq (pv 1) (pv 5) (fun _ _ => rfl)) (pv 7) (fun _ _ => rfl)) (pe_ix ix_seq (pv 4) (pv 7) (fun _ _ => rfl))))))
    (pss_cons (ps_set (i := 6) nd rfl (Or.inl rfl) (pe_joinU (pe_strT (by decide +kernel)) (pv 4)))
    (pss_one (ps_dput h1 (pv 2) (pv 6) (pe_op op_addU (pe_dget2 h1 (pv 2) (pv 6) pe_int ⟨by rfl, by rfl, by rfl, by rfl⟩) pe_int) rfl))))))))
    (pss_one (ps_ret (pe_callB (cr_sortTP hv) (by rfl) B.f_sorted (by decide +kernel) (pa_cons (pe_lock (pe_lc (own := [("_law_word_here", 6)]) rfl nd (pi_keys (pv 2)) (blkOk_by (own := [("_law_word_here", 6)]) (N := n__law_counted) (sc := defScope s__law_counted) (by decide +kernel)) (fun _ _ _ _ _ => (pg_name (i := 6) nd rfl (Or.inl rfl))) (fun _ _ _ _ _ => pts_nil) (fun _ _ _ _ _ => (pe_tup (pa_cons (pv 6) (pa_cons (pe_dget h1 (pv 2) (pv 6) (fun _ _ => rfl)) pa_nil)))))) pa_nil))))))

def t__law_right (K : PySem.W.Frag) (sp_Stream_rows sp__law_counted sp__law_same sp_standing_counts : Sp) : TS := (tSeq (tAsg (tIf (tTru K (tVar 3)) (tCallN 0 1 sp_standing_counts (kwV [.inl 0] []) E0 tNil (tCons (tVar 0) tNil)) (tCall sp_standing_counts (([] : List V).drop 0) E0 (tCons (tVar 0) tNil))) (gName 4))
    (tSeq (tIfS (tNot (tB (tCB (rIsi K) (tCons (tVar 4) (tCons (tC (.ty "dict")) tNil))))) (tRet (tC (.bl false))) tNext)
    (tSeq (tPar 5 6 (tCons (tCall sp__law_counted (([] : List V).drop 0) E0 (tCons (tVar 1) (tCons (tVar 2) tNil))) (tCons (tLockE (tLc (iItems (tVar 4)) (gTup K 2 (gCons (gName 8) (gCons (gName 9) gNil))) tYes (tTup (tCons (tVar 8) (tCons (tVar 9) tNil))) [8, 9])) tNil)))
    (tSeq (tIfS (tOr (tNot (tB (tCall sp__law_same (([] : List V).drop 0) E0 (tCons (tVar 6) (tCons (tVar 5) tNil))))) (tTest (tOp (rNeU K) (tOp rMulU (tC (.int 2)) (tCB (rSum K) (tCons (tLc (iSrc K (tVar 6)) (gName 10) tYes (tOp (rIx K) (tVar 10) (tC (.int 1))) [10]) tNil))) (tOp rMulU (tCB (rLen K) (tCons (tVar 2) tNil)) (tOp (rAddU K) (tCB (rLen K) (tCons (tVar 2) tNil)) (tC (.int 1))))))) (tRet (tC (.bl false))) tNext)
    (tSeq (sDPut (tVar 4) (tOp rMulU (tC (.str (T [46]))) (tVar 1)) (tUn rNegU (tC (.int 7))))
    (tSeq (tDrop (tDPop1 (tVar 4) (tOp rMulU (tC (.str (T [46]))) (tVar 1))))
    (tSeq (sDPut (tVar 4) (tC (.str (T [120]))) (tC (.int 1)))
    (tSeq (tAsg (tCall sp_standing_counts (([] : List V).drop 0) E0 (tCons (tVar 0) tNil)) (gName 7))
    (tRet (tAndV (tCall sp__law_same (([] : List V).drop 0) E0 (tCons (tLockE (tLc (iItems (tVar 7)) (gTup K 2 (gCons (gName 8) (gCons (gName 9) gNil))) tYes (tTup (tCons (tVar 8) (tCons (tVar 9) tNil))) [8, 9])) (tCons (tVar 5) tNil))) (tCall sp__law_same (([] : List V).drop 0) E0 (tCons (tMeth (He.ga K "Stream") "rows" sp_Stream_rows ([] : List V) E0 (tVar 0) tNil) (tCons (tVar 2) tNil)))))))))))))

theorem w__law_right (B : Bl mg) (C_Stream : ClsF K "Stream" fl_Stream)   {sp_Stream_rows : Sp} (G_Stream_rows : DfM P w K mg base 1 "Stream" "rows" ["self"] ([] : List V) sp_Stream_rows) {sp__law_counted : Sp} (G__law_counted : Df P w K mg base 1 "_law_counted" ["_law_wide", "_law_past_here"] [] sp__law_counted) {sp__law_same : Sp} (G__law_same : Df P w K mg base 5 "_law_same" ["_law_found", "_law_due"] [] sp__law_same) {sp_standing_counts : Sp} (G_standing_counts : Df P w K mg base 3 "standing_counts" ["stream"] [] sp_standing_counts) (G_standing_counts__stream : DfN P w K mg base 3 "standing_counts" ["stream"] 0 ["stream"] (kwV [.inl 0] []) sp_standing_counts) {f : Addr} {cdv : Value} {A : Around} {outer : List Env} {s : Shared} {H : Hp} {E : XK} (hr : Room 5 (A.deeper (envOfC "_law_right" (defScope s__law_right) s.heap.objs.size f cdv))) :
    PSs (cxOf (L2.CX P w) P w K mg base n__law_right "_law_right" (defScope s__law_right) f cdv A outer s H E).nox (defBody s__law_right) (t__law_right K sp_Stream_rows sp__law_counted sp__law_same sp_standing_counts) := by
  have nd := sc__law_right.nd
  have hu := hr.units
  have hv := units5 hr
  have h1 := units1 hr
  exact (pss_cons (ps_set (i := 4) nd rfl (Or.inl rfl) (pe_ifExp (pt_tru (pv 3)) (pe_dn0 G_standing_counts__stream (hr.mono (by decide)) (by rfl) (pk_cons (pv 0) pk_nil)) (pe_df 0 G_standing_counts (hr.mono (by decide)) (by rfl) (pa_cons (pv 0) pa_nil))))
    (pss_cons (ps_if (pt_not (pt_val (pe_callB call_isi (by rfl) B.f_isinstance (by decide +kernel) (pa_cons (pv 4) (pa_cons (pe_bltn (by rfl) B.f_dict (by decide +kernel) rfl) pa_nil))))) (pss_one (ps_ret pe_bl)) pss_nil)
    (pss_cons (ps_par (i := 5) (j := 6) (by rfl) nd rfl rfl (by decide) rfl rfl (pa_cons (pe_df 0 G__law_counted (hr.mono (by decide)) (by rfl) (pa_cons (pv 1) (pa_cons (pv 2) pa_nil))) (pa_cons (pe_lock (pe_lc (own := [("_law_p", 8), ("_law_q", 9)]) rfl nd (pi_items (pv 4)) (blkOk_by (own := [("_law_p", 8), ("_law_q", 9)]) (N := n__law_right) (sc := defScope s__law_right) (by decide +kernel)) (fun _ _ _ _ _ => (pg_tup (by rfl) (pgs_cons (pg_name (i := 8) nd rfl (Or.inl rfl)) (pgs_cons (pg_name (i := 9) nd rfl (Or.inl rfl)) pgs_nil)))) (fun _ _ _ _ _ => pts_nil) (fun _ _ _ _ _ => (pe_tup (pa_cons (pv 8) (pa_cons (pv 9) pa_nil)))))) pa_nil)) (by rfl))
    (pss_cons (ps_if (PW.pt (pw_or (pt_not (pt_val (pe_df 0 G__law_same (hr.mono (by decide)) (by rfl) (pa_cons (pv 6) (pa_cons (pv 5) pa_nil))))) (pw_or1 (pt_cmpR (op_neU hu) (pe_op op_mulU pe_int (pe_callB (cr_sum rfl) (by rfl) B.f_sum (by decide +kernel) (pa_cons (pe_lc (own := [("_law_pair", 10)]) rfl nd (pi_src (pv 6)) (blkOk_by (own := [("_law_pair", 10)]) (N := n__law_right) (sc := defScope s__law_right) (by decide +kernel)) (fun _ _ _ _ _ => (pg_name (i := 10) nd rfl (Or.inl rfl))) (fun _ _ _ _ _ => pts_nil) (fun _ _ _ _ _ => (pe_ix ix_seq (pv 10) pe_int (fun _ _ => rfl)))) pa_nil))) (pe_op op_mulU (pe_callB call_lenU (by rfl) B.f_len (by decide +kernel) (pa_cons (pv 2) pa_nil)) (pe_op op_addU (pe_callB call_lenU (by rfl) B.f_len (by decide +kernel) (pa_cons (pv 2) pa_nil)) pe_int)) (nomark _))))) (pss_one (ps_ret pe_bl)) pss_nil)
    (pss_cons (ps_dput h1 (pv 4) (pe_op op_mulU (pe_strT (by decide +kernel)) (pv 1)) (pe_un un_negU pe_int) rfl)
    (pss_cons (ps_expr (pe_dpop1 (pv 4) (pe_op op_mulU (pe_strT (by decide +kernel)) (pv 1)) ⟨by rfl, by rfl, by rfl, by rfl⟩))
    (pss_cons (ps_dput h1 (pv 4) (pe_strT (by decide +kernel)) pe_int rfl)
    (pss_cons (ps_set (i := 7) nd rfl (Or.inl rfl) (pe_df 0 G_standing_counts (hr.mono (by decide)) (by rfl) (pa_cons (pv 0) pa_nil)))
    (pss_one (ps_ret (pe_and (pe_df 0 G__law_same (hr.mono (by decide)) (by rfl) (pa_cons (pe_lock (pe_lc (own := [("_law_p", 8), ("_law_q", 9)]) rfl nd (pi_items (pv 7)) (blkOk_by (own := [("_law_p", 8), ("_law_q", 9)]) (N := n__law_right) (sc := defScope s__law_right) (by decide +kernel)) (fun _ _ _ _ _ => (pg_tup (by rfl) (pgs_cons (pg_name (i := 8) nd rfl (Or.inl rfl)) (pgs_cons (pg_name (i := 9) nd rfl (Or.inl rfl)) pgs_nil)))) (fun _ _ _ _ _ => pts_nil) (fun _ _ _ _ _ => (pe_tup (pa_cons (pv 8) (pa_cons (pv 9) pa_nil)))))) (pa_cons (pv 5) pa_nil))) (pe_one (pe_df 0 G__law_same (hr.mono (by decide)) (by rfl) (pa_cons (pe_dm0 G_Stream_rows C_Stream (hr.mono (by decide)) (pv 0)) (pa_cons (pv 2) pa_nil)))))))))))))))

def t_law (K : PySem.W.Frag) (sp_Band___init__ sp_Stream___init__ sp_Stream_standing sp_Stream_take sp_Stream_tell sp__law_bag sp__law_draw sp__law_home sp__law_line sp__law_past sp__law_right sp__law_same sp__law_standing : Sp) : TS := (tSeq (tAsg (tCall sp__law_bag (([] : List V).drop 0) E0 (tCons (tVar 0) tNil)) (gName 1))
    (tSeq (tAsg (tCall sp__law_home (([] : List V).drop 0) E0 (tCons (tVar 1) tNil)) (gUnl K 3 (gCons (gName 2) (gCons (gName 3) (gCons (gName 4) gNil)))))
    (tSeq (tAsg (tCB (rLen K) (tCons (tVar 2) tNil)) (gName 5))
    (tSeq (tAsg (tCall sp__law_past (([] : List V).drop 0) E0 (tCons (tVar 1) (tCons (tVar 3) (tCons (tVar 4) (tCons (tCall sp__law_draw (([] : List V).drop 0) E0 (tCons (tVar 1) (tCons (tC (.int 15)) tNil))) tNil))))) (gName 6))
    (tSeq (tAsg (tMake (He.ga K "Stream") sp_Stream___init__ ([] : List V) E0 (tCons (tMake (He.ga K "Band") sp_Band___init__ ([.int 800] : List V) E0 (tCons (tCB (rList1 K) (tCons (tVar 2) tNil)) (tCons (tCB (rList1 K) (tCons (tVar 3) tNil)) tNil))) (tCons (tCB (rList1 K) (tCons (tVar 6) tNil)) tNil))) (gName 7))
    (tSeq (tIfS (tNot (tB (tCall sp__law_right (([] : List V).drop 0) E0 (tCons (tVar 7) (tCons (tVar 5) (tCons (tVar 6) (tCons (tC (.bl true)) tNil))))))) (tRet (tC (.bl false))) tNext)
    (tSeq (tFor (iRng1 (tCons (tC (.int 2)) tNil)) (gName 8)
    (tSeq (tAsg (tCall sp__law_line (([] : List V).drop 0) E0 (tCons (tVar 1) (tCons (tVar 3) (tCons (tVar 4) tNil)))) (gName 9))
    (tSeq (tAsg (tOp (rAddU K) (tVar 6) (tLst (tCons (tVar 9) tNil))) (gName 6))
    (tSeq (tDrop (tMethR (He.ga K "Stream") "tell" sp_Stream_tell E0 (tVar 7) (tCons (tVar 9) tNil)))
    (tIfS (tNot (tB (tCall sp__law_right (([] : List V).drop 0) E0 (tCons (tVar 7) (tCons (tVar 5) (tCons (tVar 6) (tCons (tC (.bl false)) tNil))))))) (tRet (tC (.bl false))) tNext)))))
    (tSeq (tAsg (tOp (rAddU K) (tC (.int 1)) (tCall sp__law_draw (([] : List V).drop 0) E0 (tCons (tVar 1) (tCons (tCB (rLen K) (tCons (tVar 6) tNil)) tNil)))) (gName 10))
    (tSeq (tDrop (tMeth (He.ga K "Stream") "take" sp_Stream_take ([] : List V) E0 (tVar 7) (tCons (tVar 10) tNil)))
    (tSeq (tAsg (tOp (rAddU K) (tSl (rSlU K) (tVar 6) tNoPart (tPart (tOp rSubU (tVar 10) (tC (.int 1))))) (tSl (rSlU K) (tVar 6) (tPart (tVar 10)) tNoPart)) (gName 6))
    (tRet (tAndV (tCall sp__law_right (([] : List V).drop 0) E0 (tCons (tVar 7) (tCons (tVar 5) (tCons (tVar 6) (tCons (tC (.bl false)) tNil))))) (tCall sp__law_same (([] : List V).drop 0) E0 (tCons (tProp (He.ga K "Stream") sp_Stream_standing [] E0 (tVar 7)) (tCons (tCall sp__law_standing (([] : List V).drop 0) E0 (tCons (tVar 5) (tCons (tVar 6) tNil))) tNil)))))))))))))))

theorem w_law (B : Bl mg) (C_Band : ClsF K "Band" fl_Band) (C_Stream : ClsF K "Stream" fl_Stream)   {sp_Band___init__ : Sp} (G_Band___init__ : DfI P w K mg base 5 "Band" ["self", "cells", "seeds", "most"] ([.int 800] : List V) sp_Band___init__) {sp_Stream___init__ : Sp} (G_Stream___init__ : DfI P w K mg base 3 "Stream" ["self", "band", "rows"] ([] : List V) sp_Stream___init__) {sp_Stream_standing : Sp} (G_Stream_standing : DfP P w K mg base 4 "Stream" "standing" sp_Stream_standing) {sp_Stream_take : Sp} (G_Stream_take : DfM P w K mg base 3 "Stream" "take" ["self", "moment"] ([] : List V) sp_Stream_take) {sp_Stream_tell : Sp} (G_Stream_tell : DfS P w K mg base 3 "Stream" "tell" sp_Stream_tell) {sp__law_bag : Sp} (G__law_bag : Df P w K mg base 1 "_law_bag" ["_law_script"] [] sp__law_bag) {sp__law_draw : Sp} (G__law_draw : Df P w K mg base 1 "_law_draw" ["_law_bag_here", "_law_top"] [] sp__law_draw) {sp__law_home : Sp} (G__law_home : Df P w K mg base 5 "_law_home" ["_law_bag_here"] [] sp__law_home) {sp__law_line : Sp} (G__law_line : Df P w K mg base 3 "_law_line" ["_law_bag_here", "_law_sown", "_law_kept"] [] sp__law_line) {sp__law_past : Sp} (G__law_past : Df P w K mg base 4 "_law_past" ["_law_bag_here", "_law_sown", "_law_kept", "_law_count"] [] sp__law_past) {sp__law_right : Sp} (G__law_right : Df P w K mg base 6 "_law_right" ["_law_flow", "_law_wide", "_law_past_here", "_law_named"] [] sp__law_right) {sp__law_same : Sp} (G__law_same : Df P w K mg base 5 "_law_same" ["_law_found", "_law_due"] [] sp__law_same) {sp__law_standing : Sp} (G__law_standing : Df P w K mg base 1 "_law_standing" ["_law_wide", "_law_part"] [] sp__law_standing) {f : Addr} {cdv : Value} {A : Around} {outer : List Env} {s : Shared} {H : Hp} {E : XK} (hr : Room 6 (A.deeper (envOfC "law" (defScope s_law) s.heap.objs.size f cdv))) :
    PSs (cxOf (L2.CX P w) P w K mg base n_law "law" (defScope s_law) f cdv A outer s H E).nox (defBody s_law) (t_law K sp_Band___init__ sp_Stream___init__ sp_Stream_standing sp_Stream_take sp_Stream_tell sp__law_bag sp__law_draw sp__law_home sp__law_line sp__law_past sp__law_right sp__law_same sp__law_standing) := by
  have nd := sc_law.nd
  have hu := hr.units
  have hv := units5 hr
  have h1 := units1 hr
  exact (pss_cons (ps_set (i := 1) nd rfl (Or.inl rfl) (pe_df 0 G__law_bag (hr.mono (by decide)) (by rfl) (pa_cons (pv 0) pa_nil)))
    (pss_cons (ps_asg (pe_df 0 G__law_home (hr.mono (by decide)) (by rfl) (pa_cons (pv 1) pa_nil)) (pg_unl (by rfl) (pgs_cons (pg_name (i := 2) nd rfl (Or.inl rfl)) (pgs_cons (pg_name (i := 3) nd rfl (Or.inl rfl)) (pgs_cons (pg_name (i := 4) nd rfl (Or.inl rfl)) pgs_nil)))))
    (pss_cons (ps_set (i := 5) nd rfl (Or.inl rfl) (pe_callB call_lenU (by rfl) B.f_len (by decide +kernel) (pa_cons (pv 2) pa_nil)))
    (pss_cons (ps_set (i := 6) nd rfl (Or.inl rfl) (pe_df 0 G__law_past (hr.mono (by decide)) (by rfl) (pa_cons (pv 1) (pa_cons (pv 3) (pa_cons (pv 4) (pa_cons (pe_df 0 G__law_draw (hr.mono (by decide)) (by rfl) (pa_cons (pv 1) (pa_cons pe_int pa_nil))) pa_nil))))))
    (pss_cons (ps_set (i := 7) nd rfl (Or.inl rfl) (pe_di G_Stream___init__ (hr.mono (by decide)) (by rfl) (pa_cons (pe_di G_Band___init__ (hr.mono (by decide)) (by rfl) (pa_cons (pe_callTy (call_listU rfl) (by rfl) B.f_list (by decide +kernel) (pa_cons (pv 2) pa_nil)) (pa_cons (pe_callTy (call_listU rfl) (by rfl) B.f_list (by decide +kernel) (pa_cons (pv 3) pa_nil)) pa_nil))) (pa_cons (pe_callTy (call_listU rfl) (by rfl) B.f_list (by decide +kernel) (pa_cons (pv 6) pa_nil)) pa_nil))))
    (pss_cons (ps_if (pt_not (pt_val (pe_df 0 G__law_right (hr.mono (by decide)) (by rfl) (pa_cons (pv 7) (pa_cons (pv 5) (pa_cons (pv 6) (pa_cons pe_bl pa_nil))))))) (pss_one (ps_ret pe_bl)) pss_nil)
    (pss_cons (ps_for PassesOwn.never rfl (pi_range1 (by rfl) B.f_range (pa_cons pe_int pa_nil)) (pg_name (i := 8) nd rfl (Or.inl rfl))
    (pss_cons (ps_set (i := 9) nd rfl (Or.inl rfl) (pe_df 0 G__law_line (hr.mono (by decide)) (by rfl) (pa_cons (pv 1) (pa_cons (pv 3) (pa_cons (pv 4) pa_nil)))))
    (pss_cons (ps_set (i := 6) nd rfl (Or.inl rfl) (pe_op op_addU (pv 6) (pe_lst (pa_cons (pv 9) pa_nil))))
    (pss_cons (ps_expr (pe_ds G_Stream_tell C_Stream (hr.mono (by decide)) (pv 7) (pa_cons (pv 9) pa_nil)))
    (pss_one (ps_if (pt_not (pt_val (pe_df 0 G__law_right (hr.mono (by decide)) (by rfl) (pa_cons (pv 7) (pa_cons (pv 5) (pa_cons (pv 6) (pa_cons pe_bl pa_nil))))))) (pss_one (ps_ret pe_bl)) pss_nil))))))
    (pss_cons (ps_set (i := 10) nd rfl (Or.inl rfl) (pe_op op_addU pe_int (pe_df 0 G__law_draw (hr.mono (by decide)) (by rfl) (pa_cons (pv 1) (pa_cons (pe_callB call_lenU (by rfl) B.f_len (by decide +kernel) (pa_cons (pv 6) pa_nil)) pa_nil)))))
    (pss_cons (ps_expr (pe_dm G_Stream_take C_Stream (hr.mono (by decide)) (pv 7) (pa_cons (pv 10) pa_nil)))
    (pss_cons (ps_set (i := 6) nd rfl (Or.inl rfl) (pe_op op_addU (pe_slice sl_U (pv 6) po_none (po_some (pe_op op_subU (pv 10) pe_int))) (pe_slice sl_U (pv 6) (po_some (pv 10)) po_none)))
    (pss_one (ps_ret (pe_and (pe_df 0 G__law_right (hr.mono (by decide)) (by rfl) (pa_cons (pv 7) (pa_cons (pv 5) (pa_cons (pv 6) (pa_cons pe_bl pa_nil))))) (pe_one (pe_df 0 G__law_same (hr.mono (by decide)) (by rfl) (pa_cons (pe_dp G_Stream_standing C_Stream (hr.mono (by decide)) (pv 7) (by rfl)) (pa_cons (pe_df 0 G__law_standing (hr.mono (by decide)) (by rfl) (pa_cons (pv 5) (pa_cons (pv 6) pa_nil))) pa_nil)))))))))))))))))

end
end G31

set_option maxHeartbeats 0
namespace Hd31
open PySem PySem.Spec PyProof.Rows Nt G31
open L2 hiding rLen
def d_is_name : DefX := ⟨fun K => He.ga K "is_name", "is_name", "is_name", defArgs G31.s_is_name, defBody G31.s_is_name, defScope G31.s_is_name, [], []⟩
def d_is_number : DefX := ⟨fun K => He.ga K "is_number", "is_number", "is_number", defArgs G31.s_is_number, defBody G31.s_is_number, defScope G31.s_is_number, [], []⟩
def d_check_cells : DefX := ⟨fun K => He.ga K "check_cells", "check_cells", "check_cells", defArgs G31.s_check_cells, defBody G31.s_check_cells, defScope G31.s_check_cells, [], []⟩
def d_is_row : DefX := ⟨fun K => He.ga K "is_row", "is_row", "is_row", defArgs G31.s_is_row, defBody G31.s_is_row, defScope G31.s_is_row, [], []⟩
def d_over : DefX := ⟨fun K => He.ga K "over", "over", "over", defArgs G31.s_over, defBody G31.s_over, defScope G31.s_over, [], []⟩
def d_lot_of : DefX := ⟨fun K => He.ga K "lot_of", "lot_of", "lot_of", defArgs G31.s_lot_of, defBody G31.s_lot_of, defScope G31.s_lot_of, [], []⟩
def d_blank : DefX := ⟨fun K => He.ga K "blank", "blank", "blank", defArgs G31.s_blank, defBody G31.s_blank, defScope G31.s_blank, [], []⟩
def d_within : DefX := ⟨fun K => He.ga K "within", "within", "within", defArgs G31.s_within, defBody G31.s_within, defScope G31.s_within, [], []⟩
def d_union : DefX := ⟨fun K => He.ga K "union", "union", "union", defArgs G31.s_union, defBody G31.s_union, defScope G31.s_union, [], []⟩
def d_lot_size : DefX := ⟨fun K => He.ga K "lot_size", "lot_size", "lot_size", defArgs G31.s_lot_size, defBody G31.s_lot_size, defScope G31.s_lot_size, [], []⟩
def d_ordered_lots : DefX := ⟨fun K => He.ga K "ordered_lots", "ordered_lots", "ordered_lots", defArgs G31.s_ordered_lots, defBody G31.s_ordered_lots, defScope G31.s_ordered_lots, [], []⟩
def d_newest_tellers : DefX := ⟨fun K => He.ga K "newest_tellers", "newest_tellers", "newest_tellers", defArgs G31.s_newest_tellers, defBody G31.s_newest_tellers, defScope G31.s_newest_tellers, [], []⟩
def d_window_standings : DefX := ⟨fun K => He.ga K "window_standings", "window_standings", "window_standings", defArgs G31.s_window_standings, defBody G31.s_window_standings, defScope G31.s_window_standings, [], []⟩
def d_standing_counts : DefX := ⟨fun K => He.ga K "standing_counts", "standing_counts", "standing_counts", defArgs G31.s_standing_counts, defBody G31.s_standing_counts, defScope G31.s_standing_counts, [], []⟩
def d_check_seeds : DefX := ⟨fun K => He.ga K "check_seeds", "check_seeds", "check_seeds", defArgs G31.s_check_seeds, defBody G31.s_check_seeds, defScope G31.s_check_seeds, [], []⟩
def d_grown_rows : DefX := ⟨fun K => He.ga K "grown_rows", "grown_rows", "grown_rows", defArgs G31.s_grown_rows, defBody G31.s_grown_rows, defScope G31.s_grown_rows, [], []⟩
def d_Band___init__ : DefX := ⟨fun K => He.ma K (He.ga K "Band") "__init__", "__init__", "Band.__init__", defArgs G31.s_Band___init__, defBody G31.s_Band___init__, defScope G31.s_Band___init__, [], [("most", .int 800)]⟩
def d_Band_blank_row : DefX := ⟨fun K => He.ma K (He.ga K "Band") "blank_row", "blank_row", "Band.blank_row", defArgs G31.s_Band_blank_row, defBody G31.s_Band_blank_row, defScope G31.s_Band_blank_row, [], []⟩
def d_Band_check_row : DefX := ⟨fun K => He.ma K (He.ga K "Band") "check_row", "check_row", "Band.check_row", defArgs G31.s_Band_check_row, defBody G31.s_Band_check_row, defScope G31.s_Band_check_row, [], []⟩
def d_Stream___init__ : DefX := ⟨fun K => He.ma K (He.ga K "Stream") "__init__", "__init__", "Stream.__init__", defArgs G31.s_Stream___init__, defBody G31.s_Stream___init__, defScope G31.s_Stream___init__, [.adr (He.dflAt ("Stream", some "__init__") 0)], []⟩
def d_Stream_rows : DefX := ⟨fun K => He.ma K (He.ga K "Stream") "rows", "rows", "Stream.rows", defArgs G31.s_Stream_rows, defBody G31.s_Stream_rows, defScope G31.s_Stream_rows, [], []⟩
def d_Stream_tell : DefX := ⟨fun K => He.ma K (He.ga K "Stream") "tell", "tell", "Stream.tell", defArgs G31.s_Stream_tell, defBody G31.s_Stream_tell, defScope G31.s_Stream_tell, [], []⟩
def d_Stream_check_moment : DefX := ⟨fun K => He.ma K (He.ga K "Stream") "check_moment", "check_moment", "Stream.check_moment", defArgs G31.s_Stream_check_moment, defBody G31.s_Stream_check_moment, defScope G31.s_Stream_check_moment, [], []⟩
def d_Stream_last_moment : DefX := ⟨fun K => He.ma K (He.ga K "Stream") "last_moment", "last_moment", "Stream.last_moment", defArgs G31.s_Stream_last_moment, defBody G31.s_Stream_last_moment, defScope G31.s_Stream_last_moment, [], []⟩
def d_Stream_window_row : DefX := ⟨fun K => He.ma K (He.ga K "Stream") "window_row", "window_row", "Stream.window_row", defArgs G31.s_Stream_window_row, defBody G31.s_Stream_window_row, defScope G31.s_Stream_window_row, [], []⟩
def d_Stream_standing : DefX := ⟨fun K => propG K (propP K (He.ga K "Stream") "standing"), "standing", "Stream.standing", defArgs G31.s_Stream_standing, defBody G31.s_Stream_standing, defScope G31.s_Stream_standing, [], []⟩
def d_Stream_take : DefX := ⟨fun K => He.ma K (He.ga K "Stream") "take", "take", "Stream.take", defArgs G31.s_Stream_take, defBody G31.s_Stream_take, defScope G31.s_Stream_take, [], []⟩
def d__law_bag : DefX := ⟨fun K => He.ga K "_law_bag", "_law_bag", "_law_bag", defArgs G31.s__law_bag, defBody G31.s__law_bag, defScope G31.s__law_bag, [], []⟩
def d__law_draw : DefX := ⟨fun K => He.ga K "_law_draw", "_law_draw", "_law_draw", defArgs G31.s__law_draw, defBody G31.s__law_draw, defScope G31.s__law_draw, [], []⟩
def d__law_of : DefX := ⟨fun K => He.ga K "_law_of", "_law_of", "_law_of", defArgs G31.s__law_of, defBody G31.s__law_of, defScope G31.s__law_of, [], []⟩
def d__law_same : DefX := ⟨fun K => He.ga K "_law_same", "_law_same", "_law_same", defArgs G31.s__law_same, defBody G31.s__law_same, defScope G31.s__law_same, [], []⟩
def d__law_word : DefX := ⟨fun K => He.ga K "_law_word", "_law_word", "_law_word", defArgs G31.s__law_word, defBody G31.s__law_word, defScope G31.s__law_word, [], []⟩
def d__law_frame : DefX := ⟨fun K => He.ga K "_law_frame", "_law_frame", "_law_frame", defArgs G31.s__law_frame, defBody G31.s__law_frame, defScope G31.s__law_frame, [], []⟩
def d__law_seed : DefX := ⟨fun K => He.ga K "_law_seed", "_law_seed", "_law_seed", defArgs G31.s__law_seed, defBody G31.s__law_seed, defScope G31.s__law_seed, [], []⟩
def d__law_mended : DefX := ⟨fun K => He.ga K "_law_mended", "_law_mended", "_law_mended", defArgs G31.s__law_mended, defBody G31.s__law_mended, defScope G31.s__law_mended, [], []⟩
def d__law_over : DefX := ⟨fun K => He.ga K "_law_over", "_law_over", "_law_over", defArgs G31.s__law_over, defBody G31.s__law_over, defScope G31.s__law_over, [], []⟩
def d__law_closed : DefX := ⟨fun K => He.ga K "_law_closed", "_law_closed", "_law_closed", defArgs G31.s__law_closed, defBody G31.s__law_closed, defScope G31.s__law_closed, [], []⟩
def d__law_home : DefX := ⟨fun K => He.ga K "_law_home", "_law_home", "_law_home", defArgs G31.s__law_home, defBody G31.s__law_home, defScope G31.s__law_home, [], []⟩
def d__law_line : DefX := ⟨fun K => He.ga K "_law_line", "_law_line", "_law_line", defArgs G31.s__law_line, defBody G31.s__law_line, defScope G31.s__law_line, [], []⟩
def d__law_past : DefX := ⟨fun K => He.ga K "_law_past", "_law_past", "_law_past", defArgs G31.s__law_past, defBody G31.s__law_past, defScope G31.s__law_past, [], []⟩
def d__law_standing : DefX := ⟨fun K => He.ga K "_law_standing", "_law_standing", "_law_standing", defArgs G31.s__law_standing, defBody G31.s__law_standing, defScope G31.s__law_standing, [], []⟩
def d__law_counted : DefX := ⟨fun K => He.ga K "_law_counted", "_law_counted", "_law_counted", defArgs G31.s__law_counted, defBody G31.s__law_counted, defScope G31.s__law_counted, [], []⟩
def d__law_right : DefX := ⟨fun K => He.ga K "_law_right", "_law_right", "_law_right", defArgs G31.s__law_right, defBody G31.s__law_right, defScope G31.s__law_right, [], []⟩
def d_law : DefX := ⟨fun K => He.ga K "law", "law", "law", defArgs G31.s_law, defBody G31.s_law, defScope G31.s_law, [], []⟩
def fn : List DefX := [d_is_name, d_is_number, d_check_cells, d_is_row, d_over, d_lot_of, d_blank, d_within, d_union, d_lot_size, d_ordered_lots, d_newest_tellers, d_window_standings, d_standing_counts, d_check_seeds, d_grown_rows, d_Band___init__, d_Band_blank_row, d_Band_check_row, d_Stream___init__, d_Stream_rows, d_Stream_tell, d_Stream_check_moment, d_Stream_last_moment, d_Stream_window_row, d_Stream_standing, d_Stream_take, d__law_bag, d__law_draw, d__law_of, d__law_same, d__law_word, d__law_frame, d__law_seed, d__law_mended, d__law_over, d__law_closed, d__law_home, d__law_line, d__law_past, d__law_standing, d__law_counted, d__law_right, d_law]
def fa0 : List FaX := [.he (.glo "is_name"), .he (.glo "is_number"), .he (.glo "check_cells"), .he (.glo "is_row"), .he (.glo "over"), .he (.glo "lot_of"), .he (.glo "blank"), .he (.glo "within"), .he (.glo "union"), .he (.glo "lot_size"), .he (.glo "ordered_lots"), .he (.glo "newest_tellers"), .he (.glo "window_standings"), .he (.glo "standing_counts"), .he (.glo "check_seeds"), .he (.glo "grown_rows"), .he (.glo "_law_bag"), .he (.glo "_law_draw"), .he (.glo "_law_of"), .he (.glo "_law_same"), .he (.glo "_law_word"), .he (.glo "_law_frame"), .he (.glo "_law_seed"), .he (.glo "_law_mended"), .he (.glo "_law_over"), .he (.glo "_law_closed"), .he (.glo "_law_home"), .he (.glo "_law_line"), .he (.glo "_law_past"), .he (.glo "_law_standing")]
def fa1 : List FaX := [.he (.glo "_law_counted"), .he (.glo "_law_right"), .he (.glo "law"), .he (.free "abs"), .he (.free "all"), .he (.free "bool"), .he (.free "dict"), .he (.free "enumerate"), .he (.free "int"), .he (.free "isinstance"), .he (.free "len"), .he (.free "list"), .he (.free "range"), .he (.free "set"), .he (.free "sorted"), .he (.free "str"), .he (.free "sum"), .he (.free "tuple"), .he (.free "zip"), .he (.glo "Band"), .he (.cls "Band"), .he (.noat "Band" "cell_list"), .he (.noat "Band" "seed_list"), .he (.noat "Band" "row_list"), .he (.noat "Band" "known_rows"), .he (.noat "Band" "lot_list"), .he (.glo "Stream"), .he (.cls "Stream"), .he (.noat "Stream" "band"), .he (.noat "Stream" "row_list")]
def fa2 : List FaX := [.he (.mkr "Band"), .he (.meth "Band" "blank_row"), .he (.meth "Band" "check_row"), .he (.mkr "Stream"), .he (.meth "Stream" "rows"), .he (.meth "Stream" "tell"), .he (.meth "Stream" "check_moment"), .he (.meth "Stream" "last_moment"), .he (.meth "Stream" "window_row"), .prop "Stream" "standing", .he (.meth "Stream" "take"), .he (.str "LETTERS" "abcdefghijklmnopqrstuvwxyz"), .he (.int "MOST_ROWS" 800), .he (.int "MOST_SEEDS" 30), .he (.int "MOST_CELLS" 12), .he (.int "MOST_VALUES" 4), .he (.int "MOST_MOMENTS" 400)]
def fa : List FaX := fa0 ++ fa1 ++ fa2
def gl0 : List Str := ["is_name", "is_number", "check_cells", "is_row", "over", "lot_of", "blank", "within", "union", "lot_size", "ordered_lots", "newest_tellers", "window_standings", "standing_counts", "check_seeds", "grown_rows", "_law_bag", "_law_draw", "_law_of", "_law_same", "_law_word", "_law_frame", "_law_seed", "_law_mended", "_law_over", "_law_closed", "_law_home", "_law_line", "_law_past", "_law_standing"]
def gl1 : List Str := ["_law_counted", "_law_right", "law"]
def gl : List Str := gl0 ++ gl1
def cl : List CM := [("Band", ["__init__", "blank_row", "check_row"], []), ("Stream", ["__init__", "rows", "tell", "check_moment", "last_moment", "window_row", "take"], ["standing"])]
def xcl : List Str := []
def loose0 : List Str := ["is_name", "is_number", "check_cells", "is_row", "over", "lot_of", "blank", "within", "union", "lot_size", "ordered_lots", "newest_tellers", "window_standings", "standing_counts", "check_seeds", "grown_rows", "_law_bag", "_law_draw", "_law_of", "_law_same", "_law_word", "_law_frame", "_law_seed", "_law_mended", "_law_over", "_law_closed", "_law_home", "_law_line", "_law_past", "_law_standing"]
def loose1 : List Str := ["_law_counted", "_law_right", "Band", "Stream", "_wall", "TellsError", "BadCells", "BadSeed", "BadRow", "BadNumber", "TooMany", "Untold", "InvalidText", "Missing", "NotInBand", "NoMoment", "LETTERS", "MOST_ROWS", "MOST_SEEDS", "MOST_CELLS", "MOST_VALUES", "COUNTS", "cell_of", "seed_of", "leading_cells", "leading_seeds", "new_places", "can_take", "first_to_take", "taking"]
def loose2 : List Str := ["bar_lines", "come", "come_coming", "MOST_MOMENTS"]
def loose : List Str := loose0 ++ loose1 ++ loose2
abbrev R : PySem.W.OpenRow := PySem.W.OpenLaw.row PySem.Challenge.rw_newesttells_k31_standing_counts_of_windo
abbrev hk : PySem.W.Hook := hookX gl cl xcl fa fn
def ob (s : PySem.W.SharedT) : He.AlD := obsXG gl cl xcl fa fn (HandSHeadRun.getT s)
theorem ob_eq (s : PySem.W.SharedT) : ob s = hk.obs s.abs := obsXG_eq (HandSHeadRun.getT_eq s)
theorem run (w : World) : HandSHeadRun.RunEq R (PySem.W.view R.prog [74]) hk ob 8000 loose w := by
  intro os
  kernel_rfl
section
variable {K : PySem.W.Frag} {h : Heap} {mg : Str → Option Value}
theorem at_is_name (X : K.In h) (G : h.Ns mainGlobals mg) (c : SaysX fa fn K) : At K mg "is_name" G31.s_is_name ["value"] [] := by
  obtain ⟨fd, F⟩ := c.def_ 0 (d := d_is_name) rfl
  refine ⟨He.glo_ok X G (c.fact 0 (f := .glo "is_name") rfl), fd, F, fun j hj => ?_⟩
  exact ⟨[], by cases j <;> exact .nil, F.bindsN fun _ _ _ _ _ _ us hl => match us, hl with | [_], _ => rfl⟩
theorem at_is_number (X : K.In h) (G : h.Ns mainGlobals mg) (c : SaysX fa fn K) : At K mg "is_number" G31.s_is_number ["value", "least", "most"] [] := by
  obtain ⟨fd, F⟩ := c.def_ 1 (d := d_is_number) rfl
  refine ⟨He.glo_ok X G (c.fact 1 (f := .glo "is_number") rfl), fd, F, fun j hj => ?_⟩
  exact ⟨[], by cases j <;> exact .nil, F.bindsN fun _ _ _ _ _ _ us hl => match us, hl with | [_,_,_], _ => rfl⟩
theorem at_check_cells (X : K.In h) (G : h.Ns mainGlobals mg) (c : SaysX fa fn K) : At K mg "check_cells" G31.s_check_cells ["cells"] [] := by
  obtain ⟨fd, F⟩ := c.def_ 2 (d := d_check_cells) rfl
  refine ⟨He.glo_ok X G (c.fact 2 (f := .glo "check_cells") rfl), fd, F, fun j hj => ?_⟩
  exact ⟨[], by cases j <;> exact .nil, F.bindsN fun _ _ _ _ _ _ us hl => match us, hl with | [_], _ => rfl⟩
theorem at_is_row (X : K.In h) (G : h.Ns mainGlobals mg) (c : SaysX fa fn K) : At K mg "is_row" G31.s_is_row ["cells", "value"] [] := by
  obtain ⟨fd, F⟩ := c.def_ 3 (d := d_is_row) rfl
  refine ⟨He.glo_ok X G (c.fact 3 (f := .glo "is_row") rfl), fd, F, fun j hj => ?_⟩
  exact ⟨[], by cases j <;> exact .nil, F.bindsN fun _ _ _ _ _ _ us hl => match us, hl with | [_,_], _ => rfl⟩
theorem at_over (X : K.In h) (G : h.Ns mainGlobals mg) (c : SaysX fa fn K) : At K mg "over" G31.s_over ["newer", "older"] [] := by
  obtain ⟨fd, F⟩ := c.def_ 4 (d := d_over) rfl
  refine ⟨He.glo_ok X G (c.fact 4 (f := .glo "over") rfl), fd, F, fun j hj => ?_⟩
  exact ⟨[], by cases j <;> exact .nil, F.bindsN fun _ _ _ _ _ _ us hl => match us, hl with | [_,_], _ => rfl⟩
theorem at_lot_of (X : K.In h) (G : h.Ns mainGlobals mg) (c : SaysX fa fn K) : At K mg "lot_of" G31.s_lot_of ["row"] [] := by
  obtain ⟨fd, F⟩ := c.def_ 5 (d := d_lot_of) rfl
  refine ⟨He.glo_ok X G (c.fact 5 (f := .glo "lot_of") rfl), fd, F, fun j hj => ?_⟩
  exact ⟨[], by cases j <;> exact .nil, F.bindsN fun _ _ _ _ _ _ us hl => match us, hl with | [_], _ => rfl⟩
theorem at_blank (X : K.In h) (G : h.Ns mainGlobals mg) (c : SaysX fa fn K) : At K mg "blank" G31.s_blank ["many"] [] := by
  obtain ⟨fd, F⟩ := c.def_ 6 (d := d_blank) rfl
  refine ⟨He.glo_ok X G (c.fact 6 (f := .glo "blank") rfl), fd, F, fun j hj => ?_⟩
  exact ⟨[], by cases j <;> exact .nil, F.bindsN fun _ _ _ _ _ _ us hl => match us, hl with | [_], _ => rfl⟩
theorem at_within (X : K.In h) (G : h.Ns mainGlobals mg) (c : SaysX fa fn K) : At K mg "within" G31.s_within ["one", "other"] [] := by
  obtain ⟨fd, F⟩ := c.def_ 7 (d := d_within) rfl
  refine ⟨He.glo_ok X G (c.fact 7 (f := .glo "within") rfl), fd, F, fun j hj => ?_⟩
  exact ⟨[], by cases j <;> exact .nil, F.bindsN fun _ _ _ _ _ _ us hl => match us, hl with | [_,_], _ => rfl⟩
theorem at_union (X : K.In h) (G : h.Ns mainGlobals mg) (c : SaysX fa fn K) : At K mg "union" G31.s_union ["one", "other"] [] := by
  obtain ⟨fd, F⟩ := c.def_ 8 (d := d_union) rfl
  refine ⟨He.glo_ok X G (c.fact 8 (f := .glo "union") rfl), fd, F, fun j hj => ?_⟩
  exact ⟨[], by cases j <;> exact .nil, F.bindsN fun _ _ _ _ _ _ us hl => match us, hl with | [_,_], _ => rfl⟩
theorem at_lot_size (X : K.In h) (G : h.Ns mainGlobals mg) (c : SaysX fa fn K) : At K mg "lot_size" G31.s_lot_size ["lot"] [] := by
  obtain ⟨fd, F⟩ := c.def_ 9 (d := d_lot_size) rfl
  refine ⟨He.glo_ok X G (c.fact 9 (f := .glo "lot_size") rfl), fd, F, fun j hj => ?_⟩
  exact ⟨[], by cases j <;> exact .nil, F.bindsN fun _ _ _ _ _ _ us hl => match us, hl with | [_], _ => rfl⟩
theorem at_ordered_lots (X : K.In h) (G : h.Ns mainGlobals mg) (c : SaysX fa fn K) : At K mg "ordered_lots" G31.s_ordered_lots ["lots"] [] := by
  obtain ⟨fd, F⟩ := c.def_ 10 (d := d_ordered_lots) rfl
  refine ⟨He.glo_ok X G (c.fact 10 (f := .glo "ordered_lots") rfl), fd, F, fun j hj => ?_⟩
  exact ⟨[], by cases j <;> exact .nil, F.bindsN fun _ _ _ _ _ _ us hl => match us, hl with | [_], _ => rfl⟩
theorem at_newest_tellers (X : K.In h) (G : h.Ns mainGlobals mg) (c : SaysX fa fn K) : At K mg "newest_tellers" G31.s_newest_tellers ["pairs", "told"] [] := by
  obtain ⟨fd, F⟩ := c.def_ 11 (d := d_newest_tellers) rfl
  refine ⟨He.glo_ok X G (c.fact 11 (f := .glo "newest_tellers") rfl), fd, F, fun j hj => ?_⟩
  exact ⟨[], by cases j <;> exact .nil, F.bindsN fun _ _ _ _ _ _ us hl => match us, hl with | [_,_], _ => rfl⟩
theorem at_window_standings (X : K.In h) (G : h.Ns mainGlobals mg) (c : SaysX fa fn K) : At K mg "window_standings" G31.s_window_standings ["nothing", "tellers", "end"] [] := by
  obtain ⟨fd, F⟩ := c.def_ 12 (d := d_window_standings) rfl
  refine ⟨He.glo_ok X G (c.fact 12 (f := .glo "window_standings") rfl), fd, F, fun j hj => ?_⟩
  exact ⟨[], by cases j <;> exact .nil, F.bindsN fun _ _ _ _ _ _ us hl => match us, hl with | [_,_,_], _ => rfl⟩
theorem at_standing_counts__stream (X : K.In h) (G : h.Ns mainGlobals mg) (c : SaysX fa fn K) : AtN K mg "standing_counts" G31.s_standing_counts ["stream"] 0 ["stream"] (kwV [.inl 0] []) := by
  obtain ⟨fd, F⟩ := c.def_ 13 (d := d_standing_counts) rfl
  exact ⟨He.glo_ok X G (c.fact 13 (f := .glo "standing_counts") rfl), fd, _, _, F, kb_all F 0 ["stream"] [.inl 0] fun _ _ _ _ _ _ us ws h1 h2 => match us, ws, h1, h2 with | [], [_], _, _ => rfl⟩
theorem at_standing_counts (X : K.In h) (G : h.Ns mainGlobals mg) (c : SaysX fa fn K) : At K mg "standing_counts" G31.s_standing_counts ["stream"] [] := by
  obtain ⟨fd, F⟩ := c.def_ 13 (d := d_standing_counts) rfl
  refine ⟨He.glo_ok X G (c.fact 13 (f := .glo "standing_counts") rfl), fd, F, fun j hj => ?_⟩
  exact ⟨[], by cases j <;> exact .nil, F.bindsN fun _ _ _ _ _ _ us hl => match us, hl with | [_], _ => rfl⟩
theorem at_check_seeds (X : K.In h) (G : h.Ns mainGlobals mg) (c : SaysX fa fn K) : At K mg "check_seeds" G31.s_check_seeds ["cells", "seeds"] [] := by
  obtain ⟨fd, F⟩ := c.def_ 14 (d := d_check_seeds) rfl
  refine ⟨He.glo_ok X G (c.fact 14 (f := .glo "check_seeds") rfl), fd, F, fun j hj => ?_⟩
  exact ⟨[], by cases j <;> exact .nil, F.bindsN fun _ _ _ _ _ _ us hl => match us, hl with | [_,_], _ => rfl⟩
theorem at_grown_rows (X : K.In h) (G : h.Ns mainGlobals mg) (c : SaysX fa fn K) : At K mg "grown_rows" G31.s_grown_rows ["seeds", "first", "most"] [] := by
  obtain ⟨fd, F⟩ := c.def_ 15 (d := d_grown_rows) rfl
  refine ⟨He.glo_ok X G (c.fact 15 (f := .glo "grown_rows") rfl), fd, F, fun j hj => ?_⟩
  exact ⟨[], by cases j <;> exact .nil, F.bindsN fun _ _ _ _ _ _ us hl => match us, hl with | [_,_,_], _ => rfl⟩
theorem at_Band___init__ (X : K.In h) (G : h.Ns mainGlobals mg) (c : SaysX fa fn K) : AtI K mg "Band" "Band.__init__" G31.s_Band___init__ ["self", "cells", "seeds", "most"] ([.int 800] : List V) := by
  obtain ⟨fd, F⟩ := c.def_ 16 (d := d_Band___init__) rfl
  exact ⟨He.glo_ok X G (c.fact 49 (f := .glo "Band") rfl), He.mkr_ok (c.fact 60 (f := .mkr "Band") rfl), fd, _, _, F, F.binds0 3 (List.cons_ne_nil _ _) rfl fun D doc pm an cdv ct us ks h1 h2 => match us, ks, h1, h2 with | [_,_,_], [_], _, _ => ⟨_, _, _, _, _, _, rfl, rfl, rfl⟩⟩
theorem at_Band_blank_row (X : K.In h) (G : h.Ns mainGlobals mg) (c : SaysX fa fn K) : AtM K "Band" "blank_row" "Band.blank_row" G31.s_Band_blank_row ["self"] ([] : List V) := by
  obtain ⟨fd, F⟩ := c.def_ 17 (d := d_Band_blank_row) rfl
  exact ⟨He.meth_ok (c.fact 61 (f := .meth "Band" "blank_row") rfl), fd, _, _, F, [], .nil, F.bindsN fun _ _ _ _ _ _ us hl => match us, hl with | [_], _ => rfl⟩
theorem at_Band_check_row (X : K.In h) (G : h.Ns mainGlobals mg) (c : SaysX fa fn K) : AtM K "Band" "check_row" "Band.check_row" G31.s_Band_check_row ["self", "row"] ([] : List V) := by
  obtain ⟨fd, F⟩ := c.def_ 18 (d := d_Band_check_row) rfl
  exact ⟨He.meth_ok (c.fact 62 (f := .meth "Band" "check_row") rfl), fd, _, _, F, [], .nil, F.bindsN fun _ _ _ _ _ _ us hl => match us, hl with | [_,_], _ => rfl⟩
theorem at_Stream___init__ (X : K.In h) (G : h.Ns mainGlobals mg) (c : SaysX fa fn K) : AtI K mg "Stream" "Stream.__init__" G31.s_Stream___init__ ["self", "band", "rows"] ([] : List V) := by
  obtain ⟨fd, F⟩ := c.def_ 19 (d := d_Stream___init__) rfl
  exact ⟨He.glo_ok X G (c.fact 56 (f := .glo "Stream") rfl), He.mkr_ok (c.fact 63 (f := .mkr "Stream") rfl), fd, _, _, F, F.binds1 3 1 (List.cons_ne_nil _ _) rfl fun _ _ _ _ _ _ _ us its h1 h2 => match us, its, h1, h2 with | [_,_,_], [_], _, _ => ⟨_, rfl, rfl⟩⟩
theorem at_Stream_rows (X : K.In h) (G : h.Ns mainGlobals mg) (c : SaysX fa fn K) : AtM K "Stream" "rows" "Stream.rows" G31.s_Stream_rows ["self"] ([] : List V) := by
  obtain ⟨fd, F⟩ := c.def_ 20 (d := d_Stream_rows) rfl
  exact ⟨He.meth_ok (c.fact 64 (f := .meth "Stream" "rows") rfl), fd, _, _, F, [], .nil, F.bindsN fun _ _ _ _ _ _ us hl => match us, hl with | [_], _ => rfl⟩
theorem at_Stream_tell (X : K.In h) (G : h.Ns mainGlobals mg) (c : SaysX fa fn K) : AtS K "Stream" "tell" "Stream.tell" G31.s_Stream_tell ["self"] "rows" := by
  obtain ⟨fd, F⟩ := c.def_ 21 (d := d_Stream_tell) rfl
  refine ⟨He.meth_ok (c.fact 65 (f := .meth "Stream" "tell") rfl), fd, _, _, F, ?_⟩
  obtain ⟨oc, od, dV, kV, doc, pm, an, cdv, ct, osl, rfl, lk, hcd, hD, hK⟩ := F.ex
  rcases hD with ⟨_, rfl⟩ | ⟨e, _⟩
  · intro us rest hl
    match us, rest, hl with
    | [a], [], _ => rfl
    | [a], r :: rs, _ => rfl
  · exact absurd rfl e
theorem at_Stream_check_moment (X : K.In h) (G : h.Ns mainGlobals mg) (c : SaysX fa fn K) : AtM K "Stream" "check_moment" "Stream.check_moment" G31.s_Stream_check_moment ["self", "moment"] ([] : List V) := by
  obtain ⟨fd, F⟩ := c.def_ 22 (d := d_Stream_check_moment) rfl
  exact ⟨He.meth_ok (c.fact 66 (f := .meth "Stream" "check_moment") rfl), fd, _, _, F, [], .nil, F.bindsN fun _ _ _ _ _ _ us hl => match us, hl with | [_,_], _ => rfl⟩
theorem at_Stream_window_row (X : K.In h) (G : h.Ns mainGlobals mg) (c : SaysX fa fn K) : AtM K "Stream" "window_row" "Stream.window_row" G31.s_Stream_window_row ["self", "start", "end"] ([] : List V) := by
  obtain ⟨fd, F⟩ := c.def_ 24 (d := d_Stream_window_row) rfl
  exact ⟨He.meth_ok (c.fact 68 (f := .meth "Stream" "window_row") rfl), fd, _, _, F, [], .nil, F.bindsN fun _ _ _ _ _ _ us hl => match us, hl with | [_,_,_], _ => rfl⟩
theorem at_Stream_standing (X : K.In h) (G : h.Ns mainGlobals mg) (c : SaysX fa fn K) : AtP K "Stream" "standing" "Stream.standing" G31.s_Stream_standing := by
  obtain ⟨fd, F⟩ := c.def_ 25 (d := d_Stream_standing) rfl
  exact ⟨prop_ok (c.factX 69 (f := .prop "Stream" "standing") rfl), fd, _, _, F, F.bindsN fun _ _ _ _ _ _ us hl => match us, hl with | [_], _ => rfl⟩
theorem at_Stream_take (X : K.In h) (G : h.Ns mainGlobals mg) (c : SaysX fa fn K) : AtM K "Stream" "take" "Stream.take" G31.s_Stream_take ["self", "moment"] ([] : List V) := by
  obtain ⟨fd, F⟩ := c.def_ 26 (d := d_Stream_take) rfl
  exact ⟨He.meth_ok (c.fact 70 (f := .meth "Stream" "take") rfl), fd, _, _, F, [], .nil, F.bindsN fun _ _ _ _ _ _ us hl => match us, hl with | [_,_], _ => rfl⟩
theorem at__law_bag (X : K.In h) (G : h.Ns mainGlobals mg) (c : SaysX fa fn K) : At K mg "_law_bag" G31.s__law_bag ["_law_script"] [] := by
  obtain ⟨fd, F⟩ := c.def_ 27 (d := d__law_bag) rfl
  refine ⟨He.glo_ok X G (c.fact 16 (f := .glo "_law_bag") rfl), fd, F, fun j hj => ?_⟩
  exact ⟨[], by cases j <;> exact .nil, F.bindsN fun _ _ _ _ _ _ us hl => match us, hl with | [_], _ => rfl⟩
theorem at__law_draw (X : K.In h) (G : h.Ns mainGlobals mg) (c : SaysX fa fn K) : At K mg "_law_draw" G31.s__law_draw ["_law_bag_here", "_law_top"] [] := by
  obtain ⟨fd, F⟩ := c.def_ 28 (d := d__law_draw) rfl
  refine ⟨He.glo_ok X G (c.fact 17 (f := .glo "_law_draw") rfl), fd, F, fun j hj => ?_⟩
  exact ⟨[], by cases j <;> exact .nil, F.bindsN fun _ _ _ _ _ _ us hl => match us, hl with | [_,_], _ => rfl⟩
theorem at__law_of (X : K.In h) (G : h.Ns mainGlobals mg) (c : SaysX fa fn K) : At K mg "_law_of" G31.s__law_of ["_law_bag_here", "_law_some"] [] := by
  obtain ⟨fd, F⟩ := c.def_ 29 (d := d__law_of) rfl
  refine ⟨He.glo_ok X G (c.fact 18 (f := .glo "_law_of") rfl), fd, F, fun j hj => ?_⟩
  exact ⟨[], by cases j <;> exact .nil, F.bindsN fun _ _ _ _ _ _ us hl => match us, hl with | [_,_], _ => rfl⟩
theorem at__law_same (X : K.In h) (G : h.Ns mainGlobals mg) (c : SaysX fa fn K) : At K mg "_law_same" G31.s__law_same ["_law_found", "_law_due"] [] := by
  obtain ⟨fd, F⟩ := c.def_ 30 (d := d__law_same) rfl
  refine ⟨He.glo_ok X G (c.fact 19 (f := .glo "_law_same") rfl), fd, F, fun j hj => ?_⟩
  exact ⟨[], by cases j <;> exact .nil, F.bindsN fun _ _ _ _ _ _ us hl => match us, hl with | [_,_], _ => rfl⟩
theorem at__law_word (X : K.In h) (G : h.Ns mainGlobals mg) (c : SaysX fa fn K) : At K mg "_law_word" G31.s__law_word ["_law_bag_here"] [] := by
  obtain ⟨fd, F⟩ := c.def_ 31 (d := d__law_word) rfl
  refine ⟨He.glo_ok X G (c.fact 20 (f := .glo "_law_word") rfl), fd, F, fun j hj => ?_⟩
  exact ⟨[], by cases j <;> exact .nil, F.bindsN fun _ _ _ _ _ _ us hl => match us, hl with | [_], _ => rfl⟩
theorem at__law_frame (X : K.In h) (G : h.Ns mainGlobals mg) (c : SaysX fa fn K) : At K mg "_law_frame" G31.s__law_frame ["_law_bag_here", "_law_count"] [] := by
  obtain ⟨fd, F⟩ := c.def_ 32 (d := d__law_frame) rfl
  refine ⟨He.glo_ok X G (c.fact 21 (f := .glo "_law_frame") rfl), fd, F, fun j hj => ?_⟩
  exact ⟨[], by cases j <;> exact .nil, F.bindsN fun _ _ _ _ _ _ us hl => match us, hl with | [_,_], _ => rfl⟩
theorem at__law_seed (X : K.In h) (G : h.Ns mainGlobals mg) (c : SaysX fa fn K) : At K mg "_law_seed" G31.s__law_seed ["_law_bag_here", "_law_frame_here", "_law_share"] [] := by
  obtain ⟨fd, F⟩ := c.def_ 33 (d := d__law_seed) rfl
  refine ⟨He.glo_ok X G (c.fact 22 (f := .glo "_law_seed") rfl), fd, F, fun j hj => ?_⟩
  exact ⟨[], by cases j <;> exact .nil, F.bindsN fun _ _ _ _ _ _ us hl => match us, hl with | [_,_,_], _ => rfl⟩
theorem at__law_mended (X : K.In h) (G : h.Ns mainGlobals mg) (c : SaysX fa fn K) : At K mg "_law_mended" G31.s__law_mended ["_law_frame_here", "_law_sown"] [] := by
  obtain ⟨fd, F⟩ := c.def_ 34 (d := d__law_mended) rfl
  refine ⟨He.glo_ok X G (c.fact 23 (f := .glo "_law_mended") rfl), fd, F, fun j hj => ?_⟩
  exact ⟨[], by cases j <;> exact .nil, F.bindsN fun _ _ _ _ _ _ us hl => match us, hl with | [_,_], _ => rfl⟩
theorem at__law_over (X : K.In h) (G : h.Ns mainGlobals mg) (c : SaysX fa fn K) : At K mg "_law_over" G31.s__law_over ["_law_one", "_law_two"] [] := by
  obtain ⟨fd, F⟩ := c.def_ 35 (d := d__law_over) rfl
  refine ⟨He.glo_ok X G (c.fact 24 (f := .glo "_law_over") rfl), fd, F, fun j hj => ?_⟩
  exact ⟨[], by cases j <;> exact .nil, F.bindsN fun _ _ _ _ _ _ us hl => match us, hl with | [_,_], _ => rfl⟩
theorem at__law_closed (X : K.In h) (G : h.Ns mainGlobals mg) (c : SaysX fa fn K) : At K mg "_law_closed" G31.s__law_closed ["_law_sown", "_law_cap"] [] := by
  obtain ⟨fd, F⟩ := c.def_ 36 (d := d__law_closed) rfl
  refine ⟨He.glo_ok X G (c.fact 25 (f := .glo "_law_closed") rfl), fd, F, fun j hj => ?_⟩
  exact ⟨[], by cases j <;> exact .nil, F.bindsN fun _ _ _ _ _ _ us hl => match us, hl with | [_,_], _ => rfl⟩
theorem at__law_home (X : K.In h) (G : h.Ns mainGlobals mg) (c : SaysX fa fn K) : At K mg "_law_home" G31.s__law_home ["_law_bag_here"] [] := by
  obtain ⟨fd, F⟩ := c.def_ 37 (d := d__law_home) rfl
  refine ⟨He.glo_ok X G (c.fact 26 (f := .glo "_law_home") rfl), fd, F, fun j hj => ?_⟩
  exact ⟨[], by cases j <;> exact .nil, F.bindsN fun _ _ _ _ _ _ us hl => match us, hl with | [_], _ => rfl⟩
theorem at__law_line (X : K.In h) (G : h.Ns mainGlobals mg) (c : SaysX fa fn K) : At K mg "_law_line" G31.s__law_line ["_law_bag_here", "_law_sown", "_law_kept"] [] := by
  obtain ⟨fd, F⟩ := c.def_ 38 (d := d__law_line) rfl
  refine ⟨He.glo_ok X G (c.fact 27 (f := .glo "_law_line") rfl), fd, F, fun j hj => ?_⟩
  exact ⟨[], by cases j <;> exact .nil, F.bindsN fun _ _ _ _ _ _ us hl => match us, hl with | [_,_,_], _ => rfl⟩
theorem at__law_past (X : K.In h) (G : h.Ns mainGlobals mg) (c : SaysX fa fn K) : At K mg "_law_past" G31.s__law_past ["_law_bag_here", "_law_sown", "_law_kept", "_law_count"] [] := by
  obtain ⟨fd, F⟩ := c.def_ 39 (d := d__law_past) rfl
  refine ⟨He.glo_ok X G (c.fact 28 (f := .glo "_law_past") rfl), fd, F, fun j hj => ?_⟩
  exact ⟨[], by cases j <;> exact .nil, F.bindsN fun _ _ _ _ _ _ us hl => match us, hl with | [_,_,_,_], _ => rfl⟩
theorem at__law_standing (X : K.In h) (G : h.Ns mainGlobals mg) (c : SaysX fa fn K) : At K mg "_law_standing" G31.s__law_standing ["_law_wide", "_law_part"] [] := by
  obtain ⟨fd, F⟩ := c.def_ 40 (d := d__law_standing) rfl
  refine ⟨He.glo_ok X G (c.fact 29 (f := .glo "_law_standing") rfl), fd, F, fun j hj => ?_⟩
  exact ⟨[], by cases j <;> exact .nil, F.bindsN fun _ _ _ _ _ _ us hl => match us, hl with | [_,_], _ => rfl⟩
theorem at__law_counted (X : K.In h) (G : h.Ns mainGlobals mg) (c : SaysX fa fn K) : At K mg "_law_counted" G31.s__law_counted ["_law_wide", "_law_past_here"] [] := by
  obtain ⟨fd, F⟩ := c.def_ 41 (d := d__law_counted) rfl
  refine ⟨He.glo_ok X G (c.fact 30 (f := .glo "_law_counted") rfl), fd, F, fun j hj => ?_⟩
  exact ⟨[], by cases j <;> exact .nil, F.bindsN fun _ _ _ _ _ _ us hl => match us, hl with | [_,_], _ => rfl⟩
theorem at__law_right (X : K.In h) (G : h.Ns mainGlobals mg) (c : SaysX fa fn K) : At K mg "_law_right" G31.s__law_right ["_law_flow", "_law_wide", "_law_past_here", "_law_named"] [] := by
  obtain ⟨fd, F⟩ := c.def_ 42 (d := d__law_right) rfl
  refine ⟨He.glo_ok X G (c.fact 31 (f := .glo "_law_right") rfl), fd, F, fun j hj => ?_⟩
  exact ⟨[], by cases j <;> exact .nil, F.bindsN fun _ _ _ _ _ _ us hl => match us, hl with | [_,_,_,_], _ => rfl⟩
theorem at_law (X : K.In h) (G : h.Ns mainGlobals mg) (c : SaysX fa fn K) : At K mg "law" G31.s_law ["_law_script"] [] := by
  obtain ⟨fd, F⟩ := c.def_ 43 (d := d_law) rfl
  refine ⟨He.glo_ok X G (c.fact 32 (f := .glo "law") rfl), fd, F, fun j hj => ?_⟩
  exact ⟨[], by cases j <;> exact .nil, F.bindsN fun _ _ _ _ _ _ us hl => match us, hl with | [_], _ => rfl⟩
theorem cls_Band (c : SaysX fa fn K) : ClsF K "Band" fl_Band := by
  refine ⟨He.cls_ok (c.fact 50 (f := .cls "Band") rfl), fun f hf => ?_⟩
  simp only [fl_Band, List.mem_cons, List.not_mem_nil, or_false] at hf
  rcases hf with rfl | rfl | rfl | rfl | rfl
  · exact He.noat_ok (c.fact 51 (f := .noat "Band" "cell_list") rfl)
  · exact He.noat_ok (c.fact 52 (f := .noat "Band" "seed_list") rfl)
  · exact He.noat_ok (c.fact 53 (f := .noat "Band" "row_list") rfl)
  · exact He.noat_ok (c.fact 54 (f := .noat "Band" "known_rows") rfl)
  · exact He.noat_ok (c.fact 55 (f := .noat "Band" "lot_list") rfl)
theorem cls_Stream (c : SaysX fa fn K) : ClsF K "Stream" fl_Stream := by
  refine ⟨He.cls_ok (c.fact 57 (f := .cls "Stream") rfl), fun f hf => ?_⟩
  simp only [fl_Stream, List.mem_cons, List.not_mem_nil, or_false] at hf
  rcases hf with rfl | rfl
  · exact He.noat_ok (c.fact 58 (f := .noat "Stream" "band") rfl)
  · exact He.noat_ok (c.fact 59 (f := .noat "Stream" "row_list") rfl)
theorem bl (X : K.In h) (G : h.Ns mainGlobals mg) (c : SaysX fa fn K) : G31.Bl mg := ⟨He.free_ok X G (c.fact 33 (f := .free "abs") rfl), He.free_ok X G (c.fact 34 (f := .free "all") rfl), He.free_ok X G (c.fact 35 (f := .free "bool") rfl), He.free_ok X G (c.fact 36 (f := .free "dict") rfl), He.free_ok X G (c.fact 37 (f := .free "enumerate") rfl), He.free_ok X G (c.fact 38 (f := .free "int") rfl), He.free_ok X G (c.fact 39 (f := .free "isinstance") rfl), He.free_ok X G (c.fact 40 (f := .free "len") rfl), He.free_ok X G (c.fact 41 (f := .free "list") rfl), He.free_ok X G (c.fact 42 (f := .free "range") rfl), He.free_ok X G (c.fact 43 (f := .free "set") rfl), He.free_ok X G (c.fact 44 (f := .free "sorted") rfl), He.free_ok X G (c.fact 45 (f := .free "str") rfl), He.free_ok X G (c.fact 46 (f := .free "sum") rfl), He.free_ok X G (c.fact 47 (f := .free "tuple") rfl), He.free_ok X G (c.fact 48 (f := .free "zip") rfl), He.str_ok X G (c.fact 71 (f := .str "LETTERS" "abcdefghijklmnopqrstuvwxyz") rfl), He.int_ok X G (c.fact 72 (f := .int "MOST_ROWS" 800) rfl), He.int_ok X G (c.fact 73 (f := .int "MOST_SEEDS" 30) rfl), He.int_ok X G (c.fact 74 (f := .int "MOST_CELLS" 12) rfl), He.int_ok X G (c.fact 75 (f := .int "MOST_VALUES" 4) rfl), He.int_ok X G (c.fact 76 (f := .int "MOST_MOMENTS" 400) rfl)⟩
theorem glo_law (c : SaysX fa fn K) : (He.Fa.glo "law").ok K = true := (c.fact 32 (f := .glo "law") rfl)
end
end Hd31

set_option maxHeartbeats 8000000
namespace H31
open PySem PySem.Spec PyProof.Rows Nt G31
open L2 hiding rLen
local macro_rules | `(tactic| walk_at "rep") => `(tactic| first
  | assumption
  | with_reducible exact Rep.int _
  | with_reducible exact Rep.str _
  | with_reducible exact Rep.bl _
  | with_reducible exact Rep.non
  | (refine Rep.ex (by assumption) ?_; walk_at "rep")
  | (refine Rep.off (by assumption) ?_; walk_at "rep"))
local macro_rules | `(tactic| walk_at "reps") => `(tactic| first
  | with_reducible exact Reps.nil
  | with_reducible exact Reps.cons (by with_unfolding_all walk_at "rep") (by with_unfolding_all walk_at "reps")
  | assumption
  | (refine Reps.ex (by assumption) ?_; walk_at "reps")
  | (refine Reps.off (by assumption) ?_; walk_at "reps"))
local macro_rules | `(tactic| walk_at "ex") => `(tactic| first
  | with_reducible exact Ex.refl _
  | assumption
  | (refine Ex.trans ?_ (by assumption); walk_at "ex"))
local macro_rules | `(tactic| walk_at "sz") => `(tactic| first
  | decide
  | (refine szOk ?_; first | omega | (simp only [List.length_append, List.length_cons, List.length_nil, List.length_map, List.length_take, List.length_drop, List.length_range]; omega)))
local macro_rules | `(tactic| walk_at "st") => `(tactic| (simp only [List.set_cons_zero, List.set_cons_succ]; exact rfl))
local macro_rules | `(tactic| walk_at "s1") => `(tactic| with_reducible first
  | apply sx_seq
  | (apply sx_var1; with_unfolding_all refine ⟨_, rfl, ?_⟩)
  | apply sx_c
  | apply sx_op
  | apply sx_asg
  | (apply gs_nameN; walk_at "st")
  | apply gs_name
  | apply sx_cons
  | apply sx_nil
  | apply sx_call
  | apply sx_cb
  | apply sx_tt
  | apply sx_tb
  | apply sx_ret
  | apply sx_ifS
  | apply sx_if
  | apply ex_b
  | apply ifT
  | apply ifF
  | apply ifNT
  | apply ifNF
  | apply sx_and
  | apply sx_or
  | apply sx_not
  | apply sx_andV
  | apply sx_orV
  | apply sx_notV
  | apply sx_chain
  | apply sx_lc
  | apply sx_for
  | apply sx_isrc
  | apply sx_izip
  | apply sx_ienum
  | apply sx_rng1
  | apply sx_rng2
  | apply sx_tup0
  | apply sx_lst0
  | apply sx_m1
  | apply sx_bm
  | apply sx_bm0
  | apply sx_sl
  | apply sx_nopart
  | apply sx_part
  | apply sx_un
  | apply sx_tru
  | apply sx_yes
  | apply sx_next
  | apply sx_drop
  | apply sx_par
  | apply sx_par3
  | apply sx_retN
  | apply sx_brk
  | apply sx_cnt
  | apply sx_rev
  | apply ex_i
  | apply ex_s
  | apply ex_2
  | apply ex_3
  | apply gs_sub
  | apply add_ii
  | (refine add_TT ?hz ?_; (case hz => with_unfolding_all walk_at "sz"))
  | apply sub_ii
  | apply lt_ii
  | apply le_ii
  | apply gt_ii
  | apply ge_ii
  | apply eq_ii
  | apply eq_11
  | apply eq_TT
  | apply eq_bb
  | apply ne_ii
  | apply ne_11
  | apply ne_TT
  | apply ne_bb
  | apply in_1T
  | apply ni_1T
  | apply isN_v
  | apply notN_v
  | apply isB_b
  | apply notB_b
  | apply neg_i
  | apply int_i
  | apply abs_i
  | (refine len_T ?hz ?_; (case hz => with_unfolding_all walk_at "sz"))
  | (apply tupK_id; refine tup_endF (by assumption) (by assumption) (by assumption) (by with_unfolding_all walk_at "reps") (by with_unfolding_all walk_at "sz") ?_; intro _ _ _ _ _)
  | (apply lstK_id; refine lst_endF (by assumption) (by assumption) (by assumption) (by with_unfolding_all walk_at "reps") (by with_unfolding_all walk_at "sz") ?_; intro _ _ _ _ _))
local macro_rules | `(tactic| walk_at "sx") => `(tactic| repeat' (walk_at "s1"))

/-! ### what stands for what -/
abbrev e1 : Nat → D := fun c => .str (T [c])
abbrev eS : List Nat → D := fun l => .str (T l)
abbrev eI : Nat → D := fun n => .int (n : Nat)
abbrev eC : List Nat × Nat → D := fun c => .tup [.str (T c.1), .int (c.2 : Nat)]
def lot (l : List Nat) : List Nat := l.map fun c => if c = 46 then 46 else 43
def uni (l m : List Nat) : List Nat := (l.zip m).map fun p => if 43 = p.1 ∨ 43 = p.2 then 43 else 46
def lay (l m : List Nat) : List Nat := (l.zip m).map fun p => if p.1 = 46 then p.2 else p.1
def isRow (fr : List (List Nat × Nat)) (l : List Nat) : Bool := decide (l.length = fr.length) && (l.zip fr).all fun p => decide (p.1 ∈ ([46, 48, 49, 50, 51] : List Nat).take (p.2.2 + 1))
/-- new places -/
def news (s t : List Nat) : List Nat := (s.zipIdx.filter fun p => !decide (p.1 = 46) && !decide (t[p.2]? = some 43)).map (·.2)
section
variable {P : Program} {w : World} {K : PySem.W.Frag} {mg : Str → Option Value} {base : Heap}
def spLot (K : PySem.W.Frag) : Sp := fun vs H Q _ => ∃ M I l, Wf M I ∧ I H ∧ vs = [.str (T l)] ∧ l.length ≤ 1000 ∧ ∀ H', Ex M H H' → I H' → Q (.str (T (lot l))) H'
theorem ok_lot_of (B : Bl mg) (F : At K mg "lot_of" s_lot_of ["row"] []) : Df P w K mg base 1 "lot_of" ["row"] [] (spLot K) := by
  refine F.df sc_lot_of (fun vs H Q E h => ?_) (fun f cdv A outer s H vs Q E hr h => ⟨_, w_lot_of B hr, ?_⟩)
  · obtain ⟨M, I, l, _, _, rfl, _⟩ := h
    rfl
  · obtain ⟨M, I, l, hw, hI, rfl, hl, q⟩ := h
    unfold t_lot_of
    walk_at "sx"
    refine lc_srcM (as := l) (enc := e1) (fun c => .str (T [if c = 46 then 46 else 43])) hw hI (by walk_at "rep") rfl (by walk_at "sz") (fun _ => rfl) ?_ ?_
    · intro L acc k a v H hL ha rv wf hi ex Qe q
      cases rep_str rv
      walk_at "sx"
      refine ifB (fun h => ?_) (fun h => ?_) <;> walk_at "sx"
      · exact q _ _ (by simp at h; simp [h]; exact .str _) hi (Ex.refl _)
      · exact q _ _ (by simp at h; simp [h]; exact .str _) hi (Ex.refl _)
    · intro y H' rp ex hi
      exact join_1 _ rp (by omega) (q _ ex hi)
def spUni (K : PySem.W.Frag) : Sp := fun vs H Q _ => ∃ M I l m, Wf M I ∧ I H ∧ vs = [.str (T l), .str (T m)] ∧ l.length ≤ 1000 ∧ ∀ H', Ex M H H' → I H' → Q (.str (T (uni l m))) H'
theorem ok_union (B : Bl mg) (F : At K mg "union" s_union ["one", "other"] []) : Df P w K mg base 1 "union" ["one", "other"] [] (spUni K) := by
  refine F.df sc_union (fun vs H Q E h => ?_) (fun f cdv A outer s H vs Q E hr h => ⟨_, w_union B hr, ?_⟩)
  · obtain ⟨M, I, l, m, _, _, rfl, _⟩ := h
    rfl
  · obtain ⟨M, I, l, m, hw, hI, rfl, hl, q⟩ := h
    unfold t_union
    walk_at "sx"
    refine lc_zipM (as := l) (bs := m) (enc := e1) (enc2 := e1) (fun p => .str (T [if 43 = p.1 ∨ 43 = p.2 then 43 else 46])) hw hI (.str _) rfl (.str _) rfl (by walk_at "sz") (fun _ _ => rfl) ?_ ?_
    · intro L acc k a b v u H hL ha hb rv rw wf hi ex Qe q
      cases rep_str rv
      cases rep_str rw
      walk_at "sx"
      refine in_L (ls := [[a], [b]]) (by assumption) (.inr rfl) ?_
      walk_at "sx"
      refine ifB (fun h => ?_) (fun h => ?_) <;> walk_at "sx"
      · exact q _ _ (by simp at h; simp [h]; exact .str _) (by assumption) (by assumption)
      · exact q _ _ (by simp at h; simp [h]; exact .str _) (by assumption) (by assumption)
    · intro y H' rp ex hi
      exact join_1 _ rp (by simp; omega) (q _ ex hi)
def spBlank (K : PySem.W.Frag) : Sp := fun vs H Q _ => ∃ n : Nat, vs = [.int n] ∧ n ≤ 1000 ∧ Q (.str (T (List.replicate n 46))) H
theorem ok_blank (B : Bl mg) (F : At K mg "blank" s_blank ["many"] []) : Df P w K mg base 1 "blank" ["many"] [] (spBlank K) := by
  refine F.df sc_blank (fun vs H Q E h => ?_) (fun f cdv A outer s H vs Q E hr h => ⟨_, w_blank B hr, ?_⟩)
  · obtain ⟨n, rfl, _⟩ := h
    rfl
  · obtain ⟨n, rfl, hl, q⟩ := h
    unfold t_blank
    walk_at "sx"
    refine mul_Ti (by omega) (by decide) ?_
    rw [show (List.replicate n [46]).flatten = List.replicate n 46 from by induction n with
      | zero => rfl
      | succ n ih => simp [List.replicate_succ]]
    exact q
/-- the cells: a list or a tuple -/
def Cells (K : PySem.W.Frag) (M : Addr → Prop) (H : Hp) (x : V) (fr : List (List Nat × Nat)) : Prop := ∃ d, Rep K M H x d ∧ (d = .lst (fr.map eC) ∨ d = .tup (fr.map eC))
theorem Cells.ex {M : Addr → Prop} {H H' : Hp} {x : V} {fr : List (List Nat × Nat)} (e : Ex M H H') (h : Cells K M H x fr) : Cells K M H' x fr := by
  obtain ⟨d, h1, h2⟩ := h
  exact ⟨d, h1.ex e, h2⟩
theorem Cells.off {M : Addr → Prop} {H : Hp} {x : V} {fr : List (List Nat × Nat)} {q : Addr} (e : H q = none) (h : Cells K M H x fr) : Cells K (Mq M q) H x fr := by
  obtain ⟨d, h1, h2⟩ := h
  exact ⟨d, h1.off e, h2⟩
theorem Cells.ofL {M : Addr → Prop} {H : Hp} {x : V} {fr : List (List Nat × Nat)} (h : Rep K M H x (.lst (fr.map eC))) : Cells K M H x fr := ⟨_, h, .inl rfl⟩
theorem Cells.ix {M : Addr → Prop} {H : Hp} {x : V} {fr : List (List Nat × Nat)} {k : Nat} {Q : VK} (h : Cells K M H x fr) (hk : k < fr.length) (q : ∀ v, Rep K M H v (eC fr[k]) → Q v H) : rIx K x (.int (k : Nat)) H Q := by
  obtain ⟨d, h1, h2⟩ := h
  exact ix_R h1 h2 (by simp [hk]) q
theorem Cells.len {M : Addr → Prop} {H : Hp} {x : V} {fr : List (List Nat × Nat)} {Q : VK} (h : Cells K M H x fr) (q : Q (.int (fr.length : Nat)) H) : rLen K [x] H Q := by
  obtain ⟨d, h1, h2⟩ := h
  exact len_R h1 h2 (by rw [List.length_map]; exact q)
/-- data whose type shows -/
def Shows (d : D) : Prop := ∃ t, TyD d t
def isStr : D → Bool
  | .str _ => true
  | _ => false
def isTup : D → Bool
  | .tup _ => true
  | _ => false
def isLst : D → Bool
  | .lst _ => true
  | _ => false
def isInt : D → Bool
  | .int _ => true
  | .bl _ => true
  | _ => false
def isBl : D → Bool
  | .bl _ => true
  | _ => false
theorem isi_str {M : Addr → Prop} {H : Hp} {x : V} {d : D} {Q : VK} (h : Rep K M H x d) (hs : Shows d) (q : Q (.bl (isStr d)) H) : rIsi K [x, .ty "str"] H Q := by
  obtain ⟨t, ht⟩ := hs
  cases ht with
  | non => exact isi_D h .non (kit_ty (b := "str") (r := false) (by decide +kernel)) q
  | bl b => exact isi_D h (.bl b) (kit_ty (b := "str") (r := false) (by decide +kernel)) q
  | int b => exact isi_D h (.int b) (kit_ty (b := "str") (r := false) (by decide +kernel)) q
  | str b => exact isi_D h (.str b) (kit_ty (b := "str") (r := true) (by decide +kernel)) q
  | lst b => exact isi_D h (.lst b) (kit_ty (b := "str") (r := false) (by decide +kernel)) q
  | tup b => exact isi_D h (.tup b) (kit_ty (b := "str") (r := false) (by decide +kernel)) q
  | dct b => exact isi_D h (.dct b) (kit_ty (b := "str") (r := false) (by decide +kernel)) q
theorem isi_tup {M : Addr → Prop} {H : Hp} {x : V} {d : D} {Q : VK} (h : Rep K M H x d) (hs : Shows d) (q : Q (.bl (isTup d)) H) : rIsi K [x, .ty "tuple"] H Q := by
  obtain ⟨t, ht⟩ := hs
  cases ht with
  | non => exact isi_D h .non (kit_ty (b := "tuple") (r := false) (by decide +kernel)) q
  | bl b => exact isi_D h (.bl b) (kit_ty (b := "tuple") (r := false) (by decide +kernel)) q
  | int b => exact isi_D h (.int b) (kit_ty (b := "tuple") (r := false) (by decide +kernel)) q
  | str b => exact isi_D h (.str b) (kit_ty (b := "tuple") (r := false) (by decide +kernel)) q
  | lst b => exact isi_D h (.lst b) (kit_ty (b := "tuple") (r := false) (by decide +kernel)) q
  | tup b => exact isi_D h (.tup b) (kit_ty (b := "tuple") (r := true) (by decide +kernel)) q
  | dct b => exact isi_D h (.dct b) (kit_ty (b := "tuple") (r := false) (by decide +kernel)) q
def isRowD (fr : List (List Nat × Nat)) : D → Bool
  | .str z => isRow fr z.cps.toList
  | _ => false
/-- frame and value -/
def spIsRowD (K : PySem.W.Frag) : Sp := fun vs H Q _ => ∃ M I x v fr d, Wf M I ∧ I H ∧ vs = [x, v] ∧ Cells K M H x fr ∧ Rep K M H v d ∧ Shows d ∧ (∀ l, d = .str (T l) → l.length ≤ 1000) ∧ fr.length ≤ 1000 ∧ ∀ H', Ex M H H' → I H' → Q (.bl (isRowD fr d)) H'
theorem ok_is_row (B : Bl mg) (F : At K mg "is_row" s_is_row ["cells", "value"] []) : Df P w K mg base 1 "is_row" ["cells", "value"] [] (spIsRowD K) := by
  refine F.df sc_is_row (fun vs H Q E h => ?_) (fun f cdv A outer s H vs Q E hr h => ⟨_, w_is_row B hr, ?_⟩)
  · obtain ⟨M, I, x, v, fr, d, _, _, rfl, _⟩ := h
    rfl
  · obtain ⟨M, I, x, v, fr, d, hw, hI, rfl, hx, hv, hs, hl, hf, q⟩ := h
    unfold t_is_row
    walk_at "sx"
    refine isi_str hv hs ?_
    walk_at "sx"
    refine ifB (fun h => ?_) (fun h => ?_)
    · have h : isStr d = false := by simpa using h
      walk_at "sx"
      have e : isRowD fr d = false := by
        cases d <;> first | rfl | cases h
      rw [e] at q
      exact q H (Ex.refl _) hI
    · obtain ⟨l, rfl⟩ : ∃ l, d = .str (T l) := by
        cases d <;> first | exact ⟨_, rfl⟩ | cases h
      have hl := hl l rfl
      have e0 : isRowD fr (.str (T l)) = isRow fr l := rfl
      rw [e0] at q
      cases rep_str hv
      walk_at "sx"
      refine hx.len ?_
      walk_at "sx"
      refine ifB (fun h => ?_) (fun h => ?_)
      · walk_at "sx"
        have e : isRow fr l = false := by
          simp at h
          simp [isRow, h]
          intro z; omega
        rw [e] at q
        exact q H (Ex.refl _) hI
      · walk_at "sx"
        have hlen : l.length = fr.length := by simp at h; omega
        obtain ⟨dc, hx, hdc⟩ := hx
        refine lc_zipM (as := l) (bs := fr) (enc := e1) (enc2 := eC) (fun p => .bl (decide (p.1 ∈ ([46, 48, 49, 50, 51] : List Nat).take (p.2.2 + 1)))) hw hI (.str _) rfl hx (by rcases hdc with rfl | rfl <;> rfl) (by walk_at "sz") (fun _ _ => rfl) ?_ ?_
        · intro L acc k a b v u H hL ha hb rv rw wf hi ex Qe q
          cases rep_str rv
          walk_at "sx"
          refine ix_R (n := 1) rw (.inr rfl) rfl fun v hv => ?_
          cases rep_int hv
          walk_at "sx"
          refine sl_Tto (n := b.2 + 1) (by decide) ?_
          walk_at "sx"
          exact q _ _ (.bl _) (by assumption) (Ex.refl _)
        · intro y H' rp ex hi
          refine all_M _ rp ?_
          have e : isRow fr l = (l.zip fr).all fun p => decide (p.1 ∈ ([46, 48, 49, 50, 51] : List Nat).take (p.2.2 + 1)) := by simp [isRow, hlen]
          rw [e] at q
          exact q _ ex hi
def spIsRow (K : PySem.W.Frag) : Sp := fun vs H Q _ => ∃ M I x fr l, Wf M I ∧ I H ∧ vs = [x, .str (T l)] ∧ Cells K M H x fr ∧ l.length ≤ 1000 ∧ fr.length ≤ 1000 ∧ ∀ H', Ex M H H' → I H' → Q (.bl (isRow fr l)) H'
theorem row_str {k : Nat} {ps : List Str} (G : Df P w K mg base k "is_row" ps [] (spIsRowD K)) : Df P w K mg base k "is_row" ps [] (spIsRow K) := by
  obtain ⟨fd, h1, h2⟩ := G.ok
  refine ⟨G.mgx, ⟨fd, h1.imp fun vs H Q E h => ?_, h2⟩, G.kp⟩
  obtain ⟨M, I, x, fr, l, hw, hI, rfl, hx, hl, hf, q⟩ := h
  exact ⟨M, I, x, _, fr, .str (T l), hw, hI, rfl, hx, .str _, ⟨_, .str _⟩, fun m e => by cases (T_inj (by injection e) : l = m); exact hl, hf, q⟩
/-- seed, told -/
def spNews (K : PySem.W.Frag) : Sp := fun vs H Q _ => ∃ M I s t, Wf M I ∧ I H ∧ vs = [.str (T s), .str (T t)] ∧ s.length ≤ 1000 ∧ t.length = s.length ∧ ∀ y H', Ex M H H' → I H' → Rep K M H' y (.lst ((news s t).map eI)) → Q y H'
end



/-! ### coming -/
def canTake (s t r : List Nat) : Bool := !(news s t).isEmpty && (news s t).all fun k => decide (r[k]? = s[k]?)
def first (S : List (List Nat)) (t r : List Nat) : Option (List Nat) := S.find? fun s => canTake s t r
def takes (S : List (List Nat)) (r : List Nat) : Nat → List (List Nat) → List Nat → List (List Nat) × List Nat
  | 0, tk, t => (tk, t)
  | n + 1, tk, t => match first S t r with
    | none => (tk, t)
    | some s => takes S r n (tk ++ [s]) (uni t (lot s))
def taken (S : List (List Nat)) (r : List Nat) : List (List Nat) × List Nat := takes S r r.length [] (List.replicate r.length 46)
theorem news_lt {s t : List Nat} {k : Nat} (h : k ∈ news s t) : k < s.length := by
  unfold news at h
  obtain ⟨p, hp, rfl⟩ := List.mem_map.mp h
  obtain ⟨hp, _⟩ := List.mem_filter.mp hp
  have := List.mem_zipIdx hp
  omega
theorem lot_len (l : List Nat) : (lot l).length = l.length := by simp [lot]
theorem uni_len {l m : List Nat} (h : m.length = l.length) : (uni l m).length = l.length := by simp [uni, h]
def optS : Option (List Nat) → V
  | none => .non
  | some s => .str (T s)
section
variable {P : Program} {w : World} {K : PySem.W.Frag} {mg : Str → Option Value} {base : Heap}
theorem flat_I (l : List Nat) : ∀ d ∈ l.map eI, Flat d := by
  intro d hd
  obtain ⟨n, _, rfl⟩ := List.mem_map.mp hd
  trivial
def spCan (K : PySem.W.Frag) : Sp := fun vs H Q _ => ∃ M I s t r, Wf M I ∧ I H ∧ vs = [.str (T s), .str (T t), .str (T r)] ∧ s.length ≤ 1000 ∧ t.length = s.length ∧ r.length = s.length ∧ ∀ H', Ex M H H' → I H' → Q (.bl (canTake s t r)) H'
/-- seeds (a list or a tuple), told, row -/
def Seeds (K : PySem.W.Frag) (M : Addr → Prop) (H : Hp) (x : V) (S : List (List Nat)) : Prop := ∃ d, Rep K M H x d ∧ (d = .lst (S.map eS) ∨ d = .tup (S.map eS))
theorem Seeds.ex {M : Addr → Prop} {H H' : Hp} {x : V} {S : List (List Nat)} (e : Ex M H H') (h : Seeds K M H x S) : Seeds K M H' x S := by
  obtain ⟨d, r, z⟩ := h
  exact ⟨d, r.ex e, z⟩
theorem Seeds.off {M : Addr → Prop} {H : Hp} {x : V} {S : List (List Nat)} {q : Addr} (e : H q = none) (h : Seeds K M H x S) : Seeds K (Mq M q) H x S := by
  obtain ⟨d, r, z⟩ := h
  exact ⟨d, r.off e, z⟩
theorem seeds_el {d : D} {S : List (List Nat)} (h : d = .lst (S.map eS) ∨ d = .tup (S.map eS)) : d.elems = some (S.map eS) := by
  rcases h with rfl | rfl <;> rfl
def spFirst (K : PySem.W.Frag) : Sp := fun vs H Q _ => ∃ M I x S t r, Wf M I ∧ I H ∧ vs = [x, .str (T t), .str (T r)] ∧ Seeds K M H x S ∧ r.length ≤ 1000 ∧ t.length = r.length ∧ (∀ s ∈ S, s.length = r.length) ∧
  ∀ H', Ex M H H' → I H' → Q (optS (first S t r)) H'
end



/-! ### the bag -/
section
variable {P : Program} {w : World} {K : PySem.W.Frag} {mg : Str → Option Value} {base : Heap}
def spBag (K : PySem.W.Frag) : Sp := fun vs H Q _ => ∃ (a : Addr) (ns : List Int), vs = [.ref a] ∧ SqL K H a (ns.map V.int) ∧ ns.length ≤ 63 ∧ ∀ b l H', b ≠ l → BagOk H' b l → Q (.ref b) H'
theorem ok_bag (B : Bl mg) : Bok P w K mg base 1 "_law_bag" s__law_bag ["_law_script"] (spBag K) := by
  refine Bok.mk sc__law_bag (fun vs H Q E h => ?_) (fun f cdv A outer s H vs Q E hr h => ⟨_, w__law_bag B hr, ?_⟩)
  · obtain ⟨a, ns, rfl, _⟩ := h
    rfl
  · obtain ⟨a, ns, rfl, hS, hl, q⟩ := h
    unfold t__law_bag
    refine st_eq (σ' := [some (.ref a), none, none]) rfl ?_
    walk_at "sx"
    have ec : cutV (ns.map V.int) none (some 63) = ns.map V.int := by
      have e := cut_to (xs := ns.map V.int) (n := 63)
      refine e.trans (List.take_of_length_le (by simpa using hl))
    refine .inl ⟨a, _, rfl, hS, fun p hp => ?_⟩
    rw [ec]
    have e1 : Ex M0 H (upd H p (.lst (ns.map V.int))) := Ex.of (same_upd hp)
    refine for_src (K := K) (M := M0) (as := ns) (enc := D.int) (.lst upd_same (fun h => h) (Reps.scal (fun i => .int i) ns)) rfl (fun k σ H1 => ∃ m v, σ = [some (.ref a), some (.int (m : Nat)), v] ∧ m < 2147483600 ∧ Ex M0 (upd H p (.lst (ns.map V.int))) H1)
      ⟨42042, none, rfl, by decide, Ex.refl _⟩ (fun k σ H h => by obtain ⟨_, _, _, _, h⟩ := h; exact h) ?_ ?_
    · rintro k z v σ H1 hz ⟨m, v0, rfl, hm, e2⟩ rv
      cases rep_int rv
      walk_at "sx"
      refine mul_r (by decide) ?_
      walk_at "sx"
      refine mod_any (by decide) fun m2 h2 => ?_
      walk_at "sx"
      refine mul_r (by decide) ?_
      walk_at "sx"
      refine mod_any (by decide) fun m3 h3 => ?_
      walk_at "sx"
      exact ⟨m3, _, rfl, by omega, e2⟩
    · rintro σ H1 ⟨m, v0, rfl, hm, e2⟩
      walk_at "sx"
      refine .inl ⟨a, _, rfl, sq_l (e1.trans e2) (fun h => h) hS, fun p2 hp2 => ?_⟩
      rw [ec]
      walk_at "sx"
      refine .inl ⟨p2, _, rfl, .inl (SqL.of upd_same), fun l hl2 => ?_⟩
      walk_at "sx"
      refine ⟨by show 5 ≤ sizeLine; decide, fun b hb => ?_⟩
      have hn : b ≠ l := fun e => by subst e; rw [upd_same] at hb; cases hb
      exact q b l _ hn ⟨ns, 0, 0, m, 0, upd_same, by rw [upd_ne hn.symm, upd_same], by omega, by omega⟩
def spDraw (K : PySem.W.Frag) : Sp := fun vs H Q _ => ∃ (M : Addr → Prop) (I : Hp → Prop) (b : Addr) (n : Int), Wf M I ∧ I H ∧ HasBag M I b ∧ vs = [.ref b, .int n] ∧ 0 < n ∧ n < 2 ^ 200 ∧ ∀ (k : Nat) H', (k : Int) < n → Ex M H H' → I H' → Q (.int (k : Nat)) H'
theorem ok_draw (B : Bl mg) : Bok P w K mg base 1 "_law_draw" s__law_draw ["_law_bag_here", "_law_top"] (spDraw K) := by
  refine Bok.mk sc__law_draw (fun vs H Q E h => ?_) (fun f cdv A outer s H vs Q E hr h => ⟨_, w__law_draw B hr, ?_⟩)
  · obtain ⟨M, I, b, n, _, _, _, rfl, _⟩ := h
    rfl
  · obtain ⟨M, I, b, n, hw, hI, hB, rfl, hn, hn2, q⟩ := h
    have hlog : n.natAbs.log2 < 9000 := by
      have h1 : n.natAbs < 2 ^ 200 := by omega
      have := PySem.Flt.log2_lt_of (n := n.natAbs) (k := 200) (by decide) h1
      omega
    obtain ⟨l, hMb, hMl, hbl, hOk, hput⟩ := hB.ex
    have fin : ∀ (k : Nat) H', (k : Int) < n → (∀ p, p ≠ b → H' p = H p) → BagOk H' b l → Q (.int (k : Nat)) H' := fun k H' hk e o =>
      q k H' hk (fun p u hp h => by rw [e p fun z => hp (z ▸ hMb)]; exact h) (hput H H' hI (fun p _ hp => e p hp) o)
    obtain ⟨cs, i, g, m, c, h0⟩ := hOk H hI
    unfold t__law_draw
    refine st_eq (σ' := [some (.ref b), some (.int n), none, none, none]) rfl ?_
    walk_at "sx"
    refine ix_raw h0.hb rfl ?_
    walk_at "sx"
    refine set_raw h0.hb rfl ?_
    have h1 : BagIs (upd H b (.lst (bagL l i g m (c + 1)))) b l cs i g m (c + 1) := bag_put h0 hbl h0.hm
    have k1 : ∀ p, p ≠ b → (upd H b (.lst (bagL l i g m (c + 1)))) p = H p := fun p hp => upd_ne hp
    with_reducible refine sx_seqJ (fun σ H2 => ∃ σ2 i g m, σ = [some (.ref b), some (.int n), σ2, none, none] ∧ BagIs H2 b l cs i g m (c + 1) ∧ ∀ p, p ≠ b → H2 p = H p) (fun N hN => ?_) ?_
    · walk_at "sx"
      refine ix_raw h1.hb rfl ?_
      walk_at "sx"
      refine ifB (fun hg => ?_) (fun hg => ?_)
      · walk_at "sx"
        refine ix_raw h1.hb rfl ?_
        walk_at "sx"
        refine ix_raw h1.hb rfl ?_
        walk_at "sx"
        refine len_raw h1.hl ?_
        walk_at "sx"
        refine ifB (fun hi => ?_) (fun hi => ?_)
        · have hi2 : i < cs.length := by simpa using hi
          walk_at "sx"
          refine ix_raw h1.hb rfl ?_
          walk_at "sx"
          refine ix_raw h1.hb rfl ?_
          refine ix_raw (v := .int cs[i]) h1.hl (atI_nat' (by simp [hi2])) ?_
          walk_at "sx"
          refine ix_raw h1.hb rfl ?_
          walk_at "sx"
          refine set_raw h1.hb rfl ?_
          have h2 := bag_put h1 hbl (i' := i + 1) (g' := g) (c' := c + 1) h1.hm
          walk_at "sx"
          refine pow_ii ⟨by decide, by decide, by decide⟩ ?_
          walk_at "sx"
          refine ifB (fun hp => ?_) (fun hp => ?_)
          · walk_at "sx"
            refine set_raw h2.hb rfl ?_
            exact hN _ _ ⟨_, i + 1, cs[i].natAbs, m, rfl, bag_put h2 hbl h2.hm, fun p hp => (upd_ne hp).trans ((upd_ne hp).trans (k1 p hp))⟩
          · walk_at "sx"
            refine ix_raw h2.hb rfl ?_
            walk_at "sx"
            refine mul_r (by decide) ?_
            walk_at "sx"
            refine mod_any (by decide) fun e he => ?_
            walk_at "sx"
            refine mul_r (by decide) ?_
            walk_at "sx"
            refine mod_any (by decide) fun m3 h3 => ?_
            walk_at "sx"
            refine set_raw h2.hb rfl ?_
            exact hN _ _ ⟨_, i + 1, g, m3, rfl, bag_put h2 hbl (by omega), fun p hp => (upd_ne hp).trans ((upd_ne hp).trans (k1 p hp))⟩
        · walk_at "sx"
          exact hN _ _ ⟨_, i, g, m, rfl, h1, k1⟩
      · walk_at "sx"
        exact hN _ _ ⟨_, i, g, m, rfl, h1, k1⟩
    · rintro σ H2 ⟨σ2, i, g, m, rfl, h2, k2⟩
      walk_at "sx"
      refine ix_raw h2.hb rfl ?_
      walk_at "sx"
      refine ifB (fun hg => ?_) (fun hg => ?_)
      · walk_at "sx"
        refine ix_raw h2.hb rfl ?_
        walk_at "sx"
        refine mod_any hn fun k hk => ?_
        walk_at "sx"
        refine ix_raw h2.hb rfl ?_
        walk_at "sx"
        refine div_any hn hlog fun g3 => ?_
        walk_at "sx"
        refine set_raw h2.hb rfl ?_
        walk_at "sx"
        exact fin k _ hk (fun p hp => (upd_ne hp).trans (k2 p hp)) ⟨_, _, _, _, _, bag_put h2 hbl (i' := i) (g' := g3) (c' := c + 1) h2.hm⟩
      · walk_at "sx"
        refine ix_raw h2.hb rfl ?_
        walk_at "sx"
        have hm := h2.hm
        refine pow_ii ⟨by decide, by decide, by omega⟩ ?_
        walk_at "sx"
        refine mul_r (by decide) ?_
        walk_at "sx"
        refine ix_raw h2.hb rfl ?_
        walk_at "sx"
        refine mul_r (by decide) ?_
        walk_at "sx"
        refine mod_any (by decide) fun m3 h3 => ?_
        walk_at "sx"
        refine set_raw h2.hb rfl ?_
        have h4 := bag_put h2 hbl (i' := i) (g' := g) (m' := m3) (c' := c + 1) (by omega)
        walk_at "sx"
        refine ix_raw h4.hb rfl ?_
        walk_at "sx"
        refine div_any (by decide) (by decide +kernel) fun d => ?_
        walk_at "sx"
        refine ix_raw h4.hb rfl ?_
        walk_at "sx"
        refine mod_any (by decide) fun e he => ?_
        walk_at "sx"
        refine mul_r (by decide) ?_
        walk_at "sx"
        refine mod_any hn fun k hk => ?_
        exact fin k _ hk (fun p hp => (upd_ne hp).trans (k2 p hp)) ⟨_, _, _, _, _, h4⟩
end


section
variable {P : Program} {w : World} {K : PySem.W.Frag} {mg : Str → Option Value} {base : Heap}
def spOf (K : PySem.W.Frag) : Sp := fun vs H Q _ => ∃ (M : Addr → Prop) (I : Hp → Prop) (b : Addr) (x : V) (d : D) (ds : List D), Wf M I ∧ I H ∧ HasBag M I b ∧ vs = [.ref b, x] ∧ Rep K M H x d ∧ d.elems = some ds ∧ 0 < ds.length ∧ ds.length ≤ 100000 ∧ ∀ v e H', e ∈ ds → Rep K M H' v e → Ex M H H' → I H' → Q v H'
theorem ok_of (B : Bl mg) (G : Df P w K mg base 1 "_law_draw" ["_law_bag_here", "_law_top"] [] (spDraw K)) (F : At K mg "_law_of" s__law_of ["_law_bag_here", "_law_some"] []) : Df P w K mg base 2 "_law_of" ["_law_bag_here", "_law_some"] [] (spOf K) := by
  refine F.df sc__law_of (fun vs H Q E h => ?_) (fun f cdv A outer s H vs Q E hr h => ⟨_, w__law_of B G hr, ?_⟩)
  · obtain ⟨M, I, b, x, d, ds, _, _, _, rfl, _⟩ := h
    rfl
  · obtain ⟨M, I, b, x, d, ds, hw, hI, hB, rfl, hx, hd, h0, hl, q⟩ := h
    unfold t__law_of
    walk_at "sx"
    refine len_E hx hd (szOk (by omega)) ?_
    walk_at "sx"
    refine ⟨M, I, b, _, hw, hI, hB, rfl, by omega, by omega, fun k H1 hk e1 i1 => ?_⟩
    have hk2 : k < ds.length := by omega
    refine ix_E (e := ds[k]) (hx.ex e1) hd (szOk (by omega)) (by simp [hk2]) fun v rv => ?_
    exact q v _ H1 (List.getElem_mem hk2) rv e1 i1
/-- a list or a tuple, its items in some order -/
def spMixed (K : PySem.W.Frag) : Sp := fun vs H Q _ => ∃ (M : Addr → Prop) (I : Hp → Prop) (b : Addr) (x : V) (d : D) (ds : List D), Wf M I ∧ I H ∧ HasBag M I b ∧ vs = [.ref b, x] ∧ Rep K M H x d ∧ (d = .lst ds ∨ d = .tup ds) ∧ ds.length ≤ 100000 ∧ ∀ v es H', es.Perm ds → Rep K M H' v (.lst es) → Ex M H H' → I H' → Q v H'
theorem Reps.erase {M : Addr → Prop} {H : Hp} : ∀ {xs : List V} {ds : List D} (k : Nat), Reps K M H xs ds → Reps K M H (xs.eraseIdx k) (ds.eraseIdx k)
  | _, _, _, .nil => .nil
  | _, _, 0, .cons _ y => y
  | _, _, k + 1, .cons x y => .cons x (Reps.erase k y)
theorem perm_erase {α : Type} {l : List α} {k : Nat} (h : k < l.length) : (l[k] :: l.eraseIdx k).Perm l := by
  have e : l = l.take k ++ l[k] :: l.drop (k + 1) := by rw [List.getElem_cons_drop, List.take_append_drop]
  have e2 : l.eraseIdx k = l.take k ++ l.drop (k + 1) := List.eraseIdx_eq_take_drop_succ l k
  rw [e2]
  conv => rhs; rw [e]
  exact List.perm_middle.symm
end


/-! ### same -/
def isSc : D → Bool
  | .non => true
  | .bl _ => true
  | .int _ => true
  | .str _ => true
  | .dct [] => true
  | .dct [(_, .non)] => true
  | .dct [(_, .bl _)] => true
  | .dct [(_, .int _)] => true
  | .dct [(_, .str _)] => true
  | _ => false
theorem dct_sc {K : PySem.W.Frag} {M : Addr → Prop} {H : Hp} {l : List (Key × D)} (h : isSc (.dct l) = true) : ∃ ks : List (Key × V), (∀ p ∈ ks, valV ks p.1 = some p.2 ∧ flatB p.2 = true) ∧ ∀ {x : V}, Rep K M H x (.dct l) → ∃ a, x = .ref a ∧ H a = some (.dK ks) := by
  match l, h with
  | [], _ =>
    refine ⟨[], nofun, fun r => ?_⟩
    cases r with
    | @dct a kvs _ h1 h2 h3 h4 =>
      obtain rfl : kvs = [] := by simpa using h3
      exact ⟨_, rfl, h1⟩
  | [(k, d)], h =>
    obtain ⟨v, hf, hv⟩ : ∃ v : V, flatB v = true ∧ ∀ {x : V}, Rep K M H x d → x = v := by
      cases d with
      | non => exact ⟨.non, rfl, fun r => rep_non r⟩
      | bl b => exact ⟨.bl b, rfl, fun r => rep_bl r⟩
      | int i => exact ⟨.int i, rfl, fun r => rep_int r⟩
      | str z => exact ⟨.str z, rfl, fun r => rep_str r⟩
      | _ => cases h
    refine ⟨[(k, v)], ?_, fun r => ?_⟩
    · intro p hp
      rw [List.mem_singleton.mp hp]
      exact ⟨by simp [valV], hf⟩
    · cases r with
      | @dct a kvs _ h1 h2 h3 h4 =>
        obtain ⟨kv, rfl⟩ : ∃ kv, kvs = [kv] := List.length_eq_one_iff.mp (by simpa using congrArg List.length h3)
        obtain ⟨k', v'⟩ := kv
        cases h4 with
        | cons r1 r2 =>
          have e1 : k' = k := by simpa using h3
          have e2 : v' = v := hv r1
          subst e1
          subst e2
          exact ⟨_, rfl, h1⟩
  | _ :: _ :: _, h => exact absurd h (by simp [isSc])
def fitL : Nat → D → Prop
  | 0, d => isSc d = true
  | n + 1, d => isSc d = true ∨ (∃ l, (d = .lst l ∨ d = .tup l) ∧ l.length ≤ 100000 ∧ ∀ e ∈ l, fitL n e)
theorem fit_sc {d : D} (h : isSc d = true) : ∀ n, fitL n d
  | 0 => h
  | _ + 1 => .inl h
section
variable {P : Program} {w : World} {K : PySem.W.Frag} {mg : Str → Option Value} {base : Heap}
theorem df_none {x : Str} {st : Stmt} {ps : List Str} {dfl : List V} (F : At K mg x st ps dfl) (k : Nat) : Df P w K mg base k x ps dfl (fun _ _ _ _ => False) := by
  obtain ⟨fd, F1, F2⟩ := F.ex
  exact ⟨F.mgx, ⟨fd, ⟨fun _ _ _ _ h => h.elim, fun _ _ _ _ _ _ _ _ _ _ _ _ _ h => h.elim⟩, F2⟩, F1.kp⟩
theorem kit_same {K : PySem.W.Frag} {H : Hp} {x : V} {t c : String} {b : Bool} {Q : VK} (h : TyX K H x (.type t)) (k : kitB t c = some b) (q : Q (.bl b) H) : rIsi K [x, .ty c] H Q :=
  ⟨x, .ty c, .type t, .type c, b, rfl, .ty c, h, kit_ty k, q⟩
/-- isinstance(x, (list, tuple)) -/
theorem kit_lt {K : PySem.W.Frag} {H : Hp} {x : V} {t : String} {b1 b2 : Bool} {p : Addr} {Q : VK} (hp : H p = some (.tup [.ty "list", .ty "tuple"])) (h : TyX K H x (.type t)) (k1 : kitB t "list" = some b1) (k2 : kitB t "tuple" = some b2) (q : Q (.bl (b1 || b2)) H) : rIsiT K [x, .ref p] H Q :=
  ⟨x, p, _, .type t, [.type "list", .type "tuple"], b1 || b2, rfl, hp, .cons (.ty _) (.cons (.ty _) .nil), h, by
    refine kitAny_cons (kit_ty k1) (fun e => ?_) (fun e => by rw [e]; rfl)
    rw [e]
    refine kitAny_cons (kit_ty k2) (fun e2 => ?_) (fun e2 => by rw [e2]; rfl)
    rw [e2]
    exact kitAny_nil, q⟩
theorem lt_mk {M : Addr → Prop} {I : Hp → Prop} (hw : Wf M I) {Z : VK} {H : Hp} (hI : I H) (q : ∀ p H2, H2 p = some (.tup [.ty "list", .ty "tuple"]) → Ex M H H2 → I H2 → Z (.ref p) H2) : TupK Z [.ty "list", .ty "tuple"] H := by
  refine ⟨by show 2 ≤ sizeLine; decide, fun p hp => ?_⟩
  have s := same_upd (o := .tup [.ty "list", .ty "tuple"]) hp
  exact q p _ upd_same (Ex.of s) (hw.same s hI)
theorem same_body {n : Nat} {sp : Sp} {M : Addr → Prop} {I : Hp → Prop} {x y : V} {d : D} {H : Hp} {Q : VK} (hw : Wf M I) (hI : I H) (hx : Rep K M H x d) (hy : Rep K M H y d)
    (hf : isSc d = true ∨ (∃ l, (d = .lst l ∨ d = .tup l) ∧ l.length ≤ 100000 ∧ ∀ e ∈ l, ∀ (M : Addr → Prop) (I : Hp → Prop) (x y : V) (H : Hp) (Q : VK), Wf M I → I H → Rep K M H x e → Rep K M H y e → (∀ H', Ex M H H' → I H' → Q (.bl true) H') → sp [x, y] H Q E0))
    (q : ∀ H', Ex M H H' → I H' → Q (.bl true) H') : t__law_same K sp { nx := fun _ H' => Q .non H', rt := Q } (L2.start n__law_same [x, y]) H := by
  unfold t__law_same
  refine st_eq (σ' := [some x, some y, none, none]) rfl ?_
  rcases hf with hsc | ⟨l, hd, hl, hr⟩
  · cases d with
    | non =>
      cases rep_non hx
      cases rep_non hy
      walk_at "sx"
      refine lt_mk hw hI fun p2 H2 hp2 e2 i2 => ?_
      walk_at "sx"
      refine kit_lt hp2 (.base (.non)) (b1 := false) (b2 := false) (by decide +kernel) (by decide +kernel) ?_
      refine ex_b ?_
      refine ifIsF rfl ?_
      walk_at "sx"
      refine lt_mk hw i2 fun p3 H3 hp3 e3 i3 => ?_
      walk_at "sx"
      refine kit_lt hp3 (.base (.non)) (b1 := false) (b2 := false) (by decide +kernel) (by decide +kernel) ?_
      refine ex_b ?_
      refine ifIsF rfl ?_
      walk_at "sx"
      refine ifIsT (by simp) ?_
      walk_at "sx"
      refine ifIsT (by simp) ?_
      walk_at "sx"
      rw [show decide (V.non = V.non) = true by simp]
      exact q H3 (e2.trans e3) i3
    | bl b =>
      cases rep_bl hx
      cases rep_bl hy
      walk_at "sx"
      refine lt_mk hw hI fun p2 H2 hp2 e2 i2 => ?_
      walk_at "sx"
      refine kit_lt hp2 (.base (.bl b)) (b1 := false) (b2 := false) (by decide +kernel) (by decide +kernel) ?_
      refine ex_b ?_
      refine ifIsF rfl ?_
      walk_at "sx"
      refine lt_mk hw i2 fun p3 H3 hp3 e3 i3 => ?_
      walk_at "sx"
      refine kit_lt hp3 (.base (.bl b)) (b1 := false) (b2 := false) (by decide +kernel) (by decide +kernel) ?_
      refine ex_b ?_
      refine ifIsF rfl ?_
      walk_at "sx"
      refine ifIsF (by simp) ?_
      walk_at "sx"
      refine ifIsF (by simp) ?_
      walk_at "sx"
      refine kit_same (.base (.bl b)) (b := true) (by decide +kernel) ?_
      walk_at "sx"
      refine kit_same (.base (.bl b)) (b := true) (by decide +kernel) ?_
      walk_at "sx"
      refine kit_same (.base (.bl b)) (b := true) (by decide +kernel) ?_
      walk_at "sx"
      rw [show decide (b = b) = true by simp]
      exact q H3 (e2.trans e3) i3
    | int i =>
      cases rep_int hx
      cases rep_int hy
      walk_at "sx"
      refine lt_mk hw hI fun p2 H2 hp2 e2 i2 => ?_
      walk_at "sx"
      refine kit_lt hp2 (.base (.int i)) (b1 := false) (b2 := false) (by decide +kernel) (by decide +kernel) ?_
      refine ex_b ?_
      refine ifIsF rfl ?_
      walk_at "sx"
      refine lt_mk hw i2 fun p3 H3 hp3 e3 i3 => ?_
      walk_at "sx"
      refine kit_lt hp3 (.base (.int i)) (b1 := false) (b2 := false) (by decide +kernel) (by decide +kernel) ?_
      refine ex_b ?_
      refine ifIsF rfl ?_
      walk_at "sx"
      refine ifIsF (by simp) ?_
      walk_at "sx"
      refine ifIsF (by simp) ?_
      walk_at "sx"
      refine kit_same (.base (.int i)) (b := false) (by decide +kernel) ?_
      walk_at "sx"
      refine kit_same (.base (.int i)) (b := false) (by decide +kernel) ?_
      walk_at "sx"
      refine kit_same (.base (.int i)) (b := true) (by decide +kernel) ?_
      walk_at "sx"
      refine kit_same (.base (.int i)) (b := true) (by decide +kernel) ?_
      walk_at "sx"
      refine kit_same (.base (.int i)) (b := true) (by decide +kernel) ?_
      walk_at "sx"
      rw [show decide (i = i) = true by simp]
      exact q H3 (e2.trans e3) i3
    | str z =>
      cases rep_str hx
      cases rep_str hy
      walk_at "sx"
      refine lt_mk hw hI fun p2 H2 hp2 e2 i2 => ?_
      walk_at "sx"
      refine kit_lt hp2 (.base (.str z)) (b1 := false) (b2 := false) (by decide +kernel) (by decide +kernel) ?_
      refine ex_b ?_
      refine ifIsF rfl ?_
      walk_at "sx"
      refine lt_mk hw i2 fun p3 H3 hp3 e3 i3 => ?_
      walk_at "sx"
      refine kit_lt hp3 (.base (.str z)) (b1 := false) (b2 := false) (by decide +kernel) (by decide +kernel) ?_
      refine ex_b ?_
      refine ifIsF rfl ?_
      walk_at "sx"
      refine ifIsF (by simp) ?_
      walk_at "sx"
      refine ifIsF (by simp) ?_
      walk_at "sx"
      refine kit_same (.base (.str z)) (b := false) (by decide +kernel) ?_
      walk_at "sx"
      refine kit_same (.base (.str z)) (b := false) (by decide +kernel) ?_
      walk_at "sx"
      refine kit_same (.base (.str z)) (b := false) (by decide +kernel) ?_
      walk_at "sx"
      refine kit_same (.base (.str z)) (b := false) (by decide +kernel) ?_
      walk_at "sx"
      refine kit_same (.base (.str z)) (b := true) (by decide +kernel) ?_
      walk_at "sx"
      refine kit_same (.base (.str z)) (b := true) (by decide +kernel) ?_
      walk_at "sx"
      refine kit_same (.base (.str z)) (b := true) (by decide +kernel) ?_
      walk_at "sx"
      refine .inl ⟨rfl, ?_⟩
      rw [show decide (V.str z = V.str z) = true by simp]
      exact q H3 (e2.trans e3) i3
    | dct l =>
      walk_at "sx"
      refine lt_mk hw hI fun p2 H2 hp2 e2 i2 => ?_
      walk_at "sx"
      refine kit_lt hp2 (tyx_of (hy.ex e2) (.dct _)) (b1 := false) (b2 := false) (by decide +kernel) (by decide +kernel) ?_
      refine ex_b ?_
      refine ifIsF rfl ?_
      walk_at "sx"
      refine lt_mk hw i2 fun p3 H3 hp3 e3 i3 => ?_
      have tx := tyx_of (hx.ex (e2.trans e3)) (.dct _)
      have ty := tyx_of (hy.ex (e2.trans e3)) (.dct _)
      obtain ⟨ks, hk, hr⟩ := dct_sc (K := K) (M := M) (H := H3) hsc
      obtain ⟨a, rfl, ha⟩ := hr (hx.ex (e2.trans e3))
      obtain ⟨b, rfl, hb⟩ := hr (hy.ex (e2.trans e3))
      walk_at "sx"
      refine kit_lt hp3 tx (b1 := false) (b2 := false) (by decide +kernel) (by decide +kernel) ?_
      refine ex_b ?_
      refine ifIsF rfl ?_
      walk_at "sx"
      refine ifIsF (by simp) ?_
      walk_at "sx"
      refine ifIsF (by simp) ?_
      walk_at "sx"
      refine kit_same ty (b := false) (by decide +kernel) ?_
      walk_at "sx"
      refine kit_same tx (b := false) (by decide +kernel) ?_
      walk_at "sx"
      refine kit_same ty (b := false) (by decide +kernel) ?_
      walk_at "sx"
      refine kit_same tx (b := false) (by decide +kernel) ?_
      walk_at "sx"
      refine kit_same ty (b := false) (by decide +kernel) ?_
      walk_at "sx"
      refine kit_same tx (b := false) (by decide +kernel) ?_
      walk_at "sx"
      refine kit_same tx (b := true) (by decide +kernel) ?_
      walk_at "sx"
      refine kit_same ty (b := true) (by decide +kernel) ?_
      walk_at "sx"
      refine .inr ⟨a, b, ks, ks, rfl, rfl, ha, hb, rfl, hk, ?_⟩
      exact q H3 (e2.trans e3) i3
    | _ => cases hsc
  · have key : ∀ {t : String} {b1 b2 : Bool}, (∀ H2, Ex M H H2 → TyX K H2 x (.type t) ∧ TyX K H2 y (.type t)) → d.elems = some l → kitB t "list" = some b1 → kitB t "tuple" = some b2 → (b1 || b2) = true →
        t__law_same K sp { nx := fun _ H' => Q .non H', rt := Q } [some x, some y, none, none] H := fun {t b1 b2} ht hde k1 k2 hb => by
      unfold t__law_same
      walk_at "sx"
      refine lt_mk hw hI fun p H2 hp2 e2 i2 => ?_
      obtain ⟨tx, ty⟩ := ht H2 e2
      walk_at "sx"
      refine kit_lt hp2 ty k1 k2 ?_
      refine ex_b ?_
      refine ifIsT hb ?_
      walk_at "sx"
      refine kit_same tx k1 ?_
      walk_at "sx"
      refine kit_same ty k1 ?_
      walk_at "sx"
      refine ifIsF (by simp) ?_
      walk_at "sx"
      refine kit_same tx k2 ?_
      walk_at "sx"
      refine kit_same ty k2 ?_
      walk_at "sx"
      refine ifIsF (by simp) ?_
      walk_at "sx"
      refine len_E (hx.ex e2) hde (szOk (by omega)) ?_
      walk_at "sx"
      refine len_E (hy.ex e2) hde (szOk (by omega)) ?_
      walk_at "sx"
      refine ifIsT (by simp) ?_
      walk_at "sx"
      refine lc_zipM (as := l) (bs := l) (enc := id) (enc2 := id) (fun _ => .bl true) hw i2 (hx.ex e2) (by simpa using hde) (hy.ex e2) (by simpa using hde) (szOk (by omega)) (fun _ _ => rfl) ?_ ?_
      · intro L acc k a b v u H3 hL ha hb' rv rw' wf hi ex Qe qe
        have eab : a = b := by rw [ha] at hb'; exact Option.some.inj hb'
        subst eab
        walk_at "sx"
        exact hr a (List.mem_of_getElem? ha) _ _ v u H3 _ wf hi rv rw' fun H4 e4 i4 => qe _ H4 (.bl true) i4 e4
      · intro y2 H3 rp e3 i3
        refine all_M (fun _ => true) rp ?_
        rw [show ((l.zip l).all fun _ => true) = true by simp]
        exact q H3 (e2.trans e3) i3
    rcases hd with rfl | rfl
    · exact key (t := "list") (b1 := true) (b2 := false) (fun H2 e => ⟨tyx_of (hx.ex e) (.lst _), tyx_of (hy.ex e) (.lst _)⟩) rfl (by decide +kernel) (by decide +kernel) rfl
    · exact key (t := "tuple") (b1 := false) (b2 := true) (fun H2 e => ⟨tyx_of (hx.ex e) (.tup _), tyx_of (hy.ex e) (.tup _)⟩) rfl (by decide +kernel) (by decide +kernel) rfl
theorem fit_nd : ∀ {n : Nat} {d : D}, fitL n d → isSc d = true ∨ (∃ l, (d = .lst l ∨ d = .tup l) ∧ l.length ≤ 100000 ∧ ∀ e ∈ l, ∃ m, n = m + 1 ∧ fitL m e)
  | 0, _, h => .inl h
  | n + 1, _, h => h.elim .inl fun ⟨l, h1, h2, h3⟩ => .inr ⟨l, h1, h2, fun e he => ⟨n, rfl, h3 e he⟩⟩
def spSame (K : PySem.W.Frag) (n : Nat) : Sp := fun vs H Q _ => ∃ (M : Addr → Prop) (I : Hp → Prop) (x y : V) (d : D), Wf M I ∧ I H ∧ vs = [x, y] ∧ Rep K M H x d ∧ Rep K M H y d ∧ fitL n d ∧ ∀ H', Ex M H H' → I H' → Q (.bl true) H'
theorem ok_same (B : Bl mg) (F : At K mg "_law_same" s__law_same ["_law_found", "_law_due"] []) : ∀ n, Df P w K mg base (n + 1) "_law_same" ["_law_found", "_law_due"] [] (spSame K n)
  | 0 => by
    refine F.df sc__law_same (fun vs H Q E h => ?_) (fun f cdv A outer s H vs Q E hr h => ⟨_, w__law_same (kk := 0) B (df_none F 0) hr, ?_⟩)
    · obtain ⟨M, I, x, y, d, _, _, rfl, _⟩ := h
      rfl
    · obtain ⟨M, I, x, y, d, hw, hI, rfl, hx, hy, hf, q⟩ := h
      exact same_body (n := 0) hw hI hx hy (.inl hf) q
  | n + 1 => by
    refine F.df sc__law_same (fun vs H Q E h => ?_) (fun f cdv A outer s H vs Q E hr h => ⟨_, w__law_same (kk := n + 1) B (ok_same B F n) hr, ?_⟩)
    · obtain ⟨M, I, x, y, d, _, _, rfl, _⟩ := h
      rfl
    · obtain ⟨M, I, x, y, d, hw, hI, rfl, hx, hy, hf, q⟩ := h
      refine same_body (n := n) hw hI hx hy ?_ q
      rcases fit_nd hf with h | ⟨l, h1, h2, h3⟩
      · exact .inl h
      · exact .inr ⟨l, h1, h2, fun e he M I x y H Q hw hI hx hy q => by
          obtain ⟨m, hm, hf⟩ := h3 e he
          cases hm
          exact ⟨M, I, x, y, e, hw, hI, rfl, hx, hy, hf, q⟩⟩
end


/-! ### drawn names, cells -/
abbrev abcL : List Nat := [97, 98, 99, 100, 101, 102, 103, 104, 105, 106, 107, 108, 109, 110, 111, 112, 113, 114, 115, 116, 117, 118, 119, 120, 121, 122]
theorem abc_get {m : Nat} (h : m < 26) : abcL[m]? = some (97 + m) := by
  have e : ∀ m : Fin 26, abcL[m.val]? = some (97 + m.val) := by decide
  exact e ⟨m, h⟩
def TOk (t : List Nat) : Prop := 1 ≤ t.length ∧ t.length ≤ 6 ∧ ∀ c ∈ t, 97 ≤ c ∧ c ≤ 122
instance (t : List Nat) : Decidable (TOk t) := by unfold TOk; infer_instance
theorem TOk.lt {t : List Nat} (h : TOk t) : ∀ c ∈ t, c < 128 := fun c hc => by have := h.2.2 c hc; omega
def FrOk (fr : List (List Nat × Nat)) : Prop := ∀ p ∈ fr, 1 ≤ p.2 ∧ p.2 ≤ 4 ∧ TOk p.1
section
variable {P : Program} {w : World} {K : PySem.W.Frag} {mg : Str → Option Value} {base : Heap}
def spWord (K : PySem.W.Frag) : Sp := fun vs H Q _ => ∃ (M : Addr → Prop) (I : Hp → Prop) (b : Addr), Wf M I ∧ I H ∧ HasBag M I b ∧ vs = [.ref b] ∧ ∀ t H', TOk t → Ex M H H' → I H' → Q (.str (T t)) H'
theorem ok_word (B : Bl mg) (G1 : Df P w K mg base 1 "_law_draw" ["_law_bag_here", "_law_top"] [] (spDraw K)) (G2 : Df P w K mg base 2 "_law_of" ["_law_bag_here", "_law_some"] [] (spOf K)) : Bok P w K mg base 3 "_law_word" s__law_word ["_law_bag_here"] (spWord K) := by
  refine Bok.mk sc__law_word (fun vs H Q E h => ?_) (fun f cdv A outer s H vs Q E hr h => ⟨_, w__law_word B G1 G2 hr, ?_⟩)
  · obtain ⟨M, I, b, _, _, _, rfl, _⟩ := h
    rfl
  · obtain ⟨M, I, b, hw, hI, hB, rfl, q⟩ := h
    unfold t__law_word
    refine st_eq (σ' := [some (.ref b), none, none, none, none]) rfl ?_
    walk_at "sx"
    refine ⟨M, I, b, _, hw, hI, hB, rfl, by decide, by decide, fun k1 H1 _ e1 i1 => ?_⟩
    walk_at "sx"
    refine ifB (fun _ => ?_) (fun _ => ?_)
    · walk_at "sx"
      refine lst_end (K := K) hw i1 (.cons (.str _) (.cons (.str _) (.cons (.str _) (.cons (.str _) (.cons (.str _) (.cons (.str _) (.cons (.str _) (.cons (.str _) (.cons (.str _) (.cons (.str _) (.cons (.str _) (.cons (.str _) (.cons (.str _) .nil))))))))))))) (szOk (by simp)) fun v2 H2 e2 i2 r2 => ?_
      walk_at "sx"
      refine ⟨M, I, b, v2, _, _, hw, i2, hB, rfl, r2, rfl, by simp, by simp, fun v e H3 he rv e3 i3 => ?_⟩
      have key : ∀ t ∈ [[115, 101, 108, 102], [98], [97], [114, 111, 119], [101, 110, 100], [97, 108, 108], [98, 97, 110, 100], [105, 110], [122], [110, 111, 117, 103, 104, 116], [122, 122], [108, 111, 116], [110, 111, 110, 101]], TOk t := by decide
      have he2 : e ∈ [[115, 101, 108, 102], [98], [97], [114, 111, 119], [101, 110, 100], [97, 108, 108], [98, 97, 110, 100], [105, 110], [122], [110, 111, 117, 103, 104, 116], [122, 122], [108, 111, 116], [110, 111, 110, 101]].map fun t => D.str (T t) := he
      obtain ⟨t, ht, rfl⟩ := List.mem_map.mp he2
      cases rep_str rv
      exact q t H3 (key t ht) (e1.trans (e2.trans e3)) i3
    · walk_at "sx"
      refine ⟨M, I, b, _, hw, i1, hB, rfl, by decide, by decide, fun sz H2 hsz e2 i2 => ?_⟩
      walk_at "sx"
      refine lst_end (K := K) hw i2 (.cons (.int _) (.cons (.int _) (.cons (.int _) (.cons (.int _) (.cons (.int _) (.cons (.int _) .nil)))))) (szOk (by simp)) fun v3 H3 e3 i3 r3 => ?_
      walk_at "sx"
      have hsz : sz < 6 := by omega
      obtain ⟨n, hn, hn1, hn2⟩ : ∃ n : Int, ([D.int 26, D.int 676, D.int 17576, D.int 456976, D.int 11881376, D.int 308915776] : List D)[sz]? = some (.int n) ∧ 0 < n ∧ n < 2 ^ 200 := by
        have e : ∀ k : Fin 6, ∃ n : Int, ([D.int 26, D.int 676, D.int 17576, D.int 456976, D.int 11881376, D.int 308915776] : List D)[k.val]? = some (.int n) ∧ 0 < n ∧ n < 2 ^ 200 := by
          intro k
          match k with
          | 0 => exact ⟨26, rfl, by decide, by decide⟩
          | 1 => exact ⟨676, rfl, by decide, by decide⟩
          | 2 => exact ⟨17576, rfl, by decide, by decide⟩
          | 3 => exact ⟨456976, rfl, by decide, by decide⟩
          | 4 => exact ⟨11881376, rfl, by decide, by decide⟩
          | 5 => exact ⟨308915776, rfl, by decide, by decide⟩
        exact e ⟨sz, hsz⟩
      refine ix_R (n := sz) r3 (.inl rfl) hn fun v rv => ?_
      cases rep_int rv
      walk_at "sx"
      refine ⟨M, I, b, _, hw, i3, hB, rfl, hn1, hn2, fun num H4 _ e4 i4 => ?_⟩
      walk_at "sx"
      have ez : ((sz : Nat) : Int) + 1 = ((sz + 1 : Nat) : Int) := by omega
      refine ⟨_, rfl, by omega, by omega, ?_⟩
      rw [ez, Int.toNat_natCast]
      refine for_rng (fun k σ H5 => ∃ (m : Nat) (t : List Nat) (u4 : Option V), σ = [some (.ref b), some (.int (sz : Nat)), some (.int (m : Nat)), some (.str (T t)), u4] ∧ t.length = k ∧ (∀ c ∈ t, 97 ≤ c ∧ c ≤ 122) ∧ I H5 ∧ Ex M H4 H5)
        ⟨num, [], none, rfl, rfl, (fun _ h => nomatch h), i4, Ex.refl _⟩ ?_ ?_
      · rintro k σ H5 hk ⟨m, t, u4, rfl, hl, hc, i5, e5⟩
        walk_at "sx"
        refine mod_any (by decide) fun m2 hm2 => ?_
        have hm2 : m2 < 26 := by omega
        walk_at "sx"
        refine ix_T (n := m2) (z := 97 + m2) (szOk (by decide)) (abc_get hm2) ?_
        walk_at "sx"
        refine div_any (by decide) (by decide +kernel) fun m3 => ?_
        walk_at "sx"
        refine ⟨m3, t ++ [97 + m2], _, rfl, by simp [hl], fun c h => ?_, i5, e5⟩
        rcases List.mem_append.mp h with h | h
        · exact hc c h
        · rw [List.mem_singleton.mp h]; omega
      · rintro σ H5 ⟨m, t, u4, rfl, hl, hc, i5, e5⟩
        walk_at "sx"
        exact q t H5 ⟨by omega, by omega, hc⟩ (e1.trans (e2.trans (e3.trans (e4.trans e5)))) i5
end


theorem nodup_len {α : Type} [DecidableEq α] : ∀ {l m : List α}, l.Nodup → (∀ a ∈ l, a ∈ m) → l.length ≤ m.length
  | [], _, _, _ => Nat.zero_le _
  | a :: l, m, hn, h => by
    have ha := h a List.mem_cons_self
    have h2 : ∀ b ∈ l, b ∈ m.erase a := fun b hb => by
      have nb : b ≠ a := fun e => (List.nodup_cons.mp hn).1 (e ▸ hb)
      exact (List.mem_erase_of_ne nb).mpr (h b (List.mem_cons_of_mem _ hb))
    have ih := nodup_len (List.nodup_cons.mp hn).2 h2
    have := List.length_erase_of_mem ha
    have := List.length_pos_of_mem ha
    simp only [List.length_cons]
    omega
abbrev spareL : List Nat := [109, 122, 97, 107, 121, 98, 116, 100, 119, 111, 120, 103, 99]
theorem free_word {ls : List (List Nat)} (h : ls.length < 13) : ∃ c cs, spareL.filter (fun c => !decide ([c] ++ [113] ∈ ls)) = c :: cs := by
  cases e : spareL.filter (fun c => !decide ([c] ++ [113] ∈ ls)) with
  | cons c cs => exact ⟨c, cs, rfl⟩
  | nil =>
    exfalso
    have hall : ∀ a ∈ spareL.map (fun c => [c] ++ [113]), a ∈ ls := by
      intro a ha
      obtain ⟨c, hc, rfl⟩ := List.mem_map.mp ha
      have := List.filter_eq_nil_iff.mp e c hc
      simpa using this
    have hn : (spareL.map (fun c => [c] ++ [113])).Nodup := by decide
    have := nodup_len hn hall
    simp at this
    omega
section
variable {P : Program} {w : World} {K : PySem.W.Frag} {mg : Str → Option Value} {base : Heap}
def spFrame (K : PySem.W.Frag) : Sp := fun vs H Q _ => ∃ (M : Addr → Prop) (I : Hp → Prop) (b : Addr) (n : Nat), Wf M I ∧ I H ∧ HasBag M I b ∧ vs = [.ref b, .int n] ∧ n ≤ 12 ∧ ∀ y fr H', fr.length = n → FrOk fr → (fr.map (·.1)).Nodup → Rep K M H' y (.lst (fr.map eC)) → Ex M H H' → I H' → Q y H'
theorem ok_frame (B : Bl mg) (G1 : Df P w K mg base 2 "_law_of" ["_law_bag_here", "_law_some"] [] (spOf K)) (G2 : Df P w K mg base 3 "_law_word" ["_law_bag_here"] [] (spWord K)) : Bok P w K mg base 4 "_law_frame" s__law_frame ["_law_bag_here", "_law_count"] (spFrame K) := by
  refine Bok.mk sc__law_frame (fun vs H Q E h => ?_) (fun f cdv A outer s H vs Q E hr h => ⟨_, w__law_frame B G1 G2 hr, ?_⟩)
  · obtain ⟨M, I, b, n, _, _, _, rfl, _⟩ := h
    rfl
  · obtain ⟨M, I, b, n, hw, hI, hB, rfl, hn, q⟩ := h
    unfold t__law_frame
    refine st_eq (σ' := [some (.ref b), some (.int (n : Nat)), none, none, none, none, none, none]) rfl ?_
    walk_at "sx"
    refine lst_mut hw hI (by decide) fun p H1 hp np e1 w1 i1 => ?_
    walk_at "sx"
    refine ⟨_, rfl, by omega, by omega, ?_⟩
    rw [Int.toNat_natCast]
    refine for_rng (fun k σ H3 => ∃ fs fr u3 u4 u5, σ = [some (.ref b), some (.int (n : Nat)), some (.ref p), u3, u4, u5, none, none] ∧ fr.length = k ∧ FrOk fr ∧ (fr.map (·.1)).Nodup ∧
        Iq I p (.lst fs) H3 ∧ Ex (Mq M p) H1 H3 ∧ Reps K (Mq M p) H3 fs (fr.map eC))
      ⟨[], [], _, _, _, rfl, rfl, (fun _ h => nomatch h), by simp, i1, Ex.refl _, .nil⟩ ?_ ?_
    · rintro k σ H3 hk ⟨fs, fr, u3, u4, u5, rfl, hf, ok, hnd, i3, e3, rs⟩
      have w3 := hw.add p (.lst fs)
      have hB3 := hB.add (o := .lst fs) np
      have fl : fs.length ≤ 20 := by have := rs.length; simp at this; omega
      walk_at "sx"
      refine ⟨_, _, b, w3, i3, hB3, rfl, fun t H4 ht e4 i4 => ?_⟩
      walk_at "sx"
      have rp4 : Rep K M H4 (.ref p) (.lst (fr.map eC)) := .lst i4.2 np ((rs.ex e4).le fun _ m => .inl m)
      refine lc_srcM (as := fr) (enc := eC) (fun a => eS a.1) hw i4.1 rp4 rfl (szOk (by omega)) (fun _ => rfl) ?_ ?_
      · intro L acc k2 a v H5 hL ha rv wf hi ex Qe qe
        walk_at "sx"
        refine ix_R (n := 0) rv (.inr rfl) rfl fun v5 r5 => ?_
        exact qe _ _ r5 hi (Ex.refl _)
      intro y5 H5 r5 e5 i5
      rw [show (fr.map fun a => eS a.1) = (fr.map (·.1)).map eS by rw [List.map_map]; rfl] at r5
      refine sx_nil ?_
      refine tup_end (K := K) hw i5 (.cons (.str _) (.cons r5 .nil)) (szOk (by simp)) fun v6 H6 e6 i6 r6 => ?_
      refine gs_pair r6 fun x7 y7 r7 r8 => ?_
      cases rep_str r7
      dsimp only [List.set_cons_zero, List.set_cons_succ]
      have hls : (fr.map (·.1)).length < 13 := by rw [List.length_map]; omega
      with_reducible refine sx_seqJ (fun σ H7 => ∃ t2, σ = [some (.ref b), some (.int (n : Nat)), some (.ref p), some (.int (0 + (k : Nat))), some (.str (T t2)), some y7, none, none] ∧ TOk t2 ∧ t2 ∉ fr.map (·.1) ∧ I H7 ∧ Ex M H4 H7) (fun N hN => ?_) ?_
      · walk_at "sx"
        refine in_L (ls := fr.map (·.1)) r8 (.inl rfl) ?_
        walk_at "sx"
        refine ifB (fun h => ?_) (fun h => ?_)
        · walk_at "sx"
          refine lc_srcF (as := spareL) (enc := fun c => .str (T [c])) (fun c => !decide ([c] ++ [113] ∈ fr.map (·.1))) (fun c => eS ([c] ++ [113])) hw i6 (.str _) rfl (szOk (by decide)) (fun _ => rfl) ?_ ?_ ?_
          · intro L acc k2 c v H7 hL ha rv wf hi ex Qt qt
            cases rep_str rv
            walk_at "sx"
            refine ni_L (ls := fr.map (·.1)) ((r8.off hL).ex ex) (.inl rfl) ?_
            walk_at "sx"
            exact qt _ hi (Ex.refl _)
          · intro L acc k2 c v H7 hL ha _ rv wf hi ex Qe qe
            cases rep_str rv
            walk_at "sx"
            exact qe _ _ (.str _) hi (Ex.refl _)
          intro y7 H7 r7 e7 i7
          obtain ⟨c, cs, ec⟩ := free_word hls
          have hc : c ∈ spareL.filter (fun c => !decide ([c] ++ [113] ∈ fr.map (·.1))) := by rw [ec]; exact List.mem_cons_self
          rw [ec] at r7
          walk_at "sx"
          refine ix_R (n := 0) (e := eS ([c] ++ [113])) r7 (.inl rfl) rfl fun v8 rv8 => ?_
          cases rep_str rv8
          walk_at "sx"
          obtain ⟨hc1, hc2⟩ := List.mem_filter.mp hc
          refine hN _ _ ⟨[c] ++ [113], rfl, ⟨by simp, by simp, fun d hd => ?_⟩, by simpa using hc2, i7, e5.trans (e6.trans e7)⟩
          have all : ∀ c ∈ spareL, 97 ≤ c ∧ c ≤ 122 := by decide
          rcases List.mem_append.mp hd with hd | hd
          · rw [List.mem_singleton.mp hd]; exact all c hc1
          · rw [List.mem_singleton.mp hd]; decide
        · walk_at "sx"
          exact hN _ _ ⟨t, rfl, ht, of_decide_eq_false h, i6, e5.trans e6⟩
      · rintro σ H7 ⟨t2, rfl, ht2, hn2, i7, e7⟩
        walk_at "sx"
        have i7p : Iq I p (.lst fs) H7 := ⟨i7, e7 p _ np i4.2⟩
        refine ⟨tyv_l i7p.2, ?_⟩
        walk_at "sx"
        refine lst_end (K := K) hw i7 (.cons (.int _) (.cons (.int _) (.cons (.int _) (.cons (.int _) (.cons (.int _) (.cons (.int _) (.cons (.int _) (.cons (.int _) .nil)))))))) (szOk (by simp)) fun v8 H8 e8 i8 r8 => ?_
        walk_at "sx"
        refine ⟨M, I, b, v8, _, _, hw, i8, hB, rfl, r8, rfl, by simp, by simp, fun v e H9 he rv e9 i9 => ?_⟩
        have he2 : e ∈ [2, 1, 3, 2, 4, 2, 3, 1].map fun k : Nat => D.int k := he
        obtain ⟨m, hm, rfl⟩ := List.mem_map.mp he2
        cases rep_int rv
        have hm4 : 1 ≤ m ∧ m ≤ 4 := by
          have key : ∀ m ∈ [2, 1, 3, 2, 4, 2, 3, 1], 1 ≤ m ∧ m ≤ 4 := by decide
          exact key m hm
        have i9p : Iq I p (.lst fs) H9 := ⟨i9, (e8.trans e9) p _ np i7p.2⟩
        have e39 : Ex (Mq M p) H3 H9 := e4.trans (e7.trans (e8.trans e9)).wide
        refine sx_nil ?_
        refine tup_end (K := K) w3 i9p (.cons (.str _) (.cons (.int _) .nil)) (szOk (by simp)) fun v10 H10 e10 i10 r10 => ?_
        refine sx_nil ?_
        refine app_mut hw np i10 (by omega) fun H11 e11 w11 i11 => ?_
        refine ⟨fs ++ [v10], fr ++ [(t2, m)], _, _, _, rfl, by simp [hf], fun x hx => ?_, ?_, i11, e3.trans (e39.trans (e10.trans e11)), ?_⟩
        · rcases List.mem_append.mp hx with z | z
          · exact ok x z
          · rw [List.mem_singleton.mp z]; exact ⟨hm4.1, hm4.2, ht2⟩
        · rw [List.map_append]
          exact List.nodup_append.mpr ⟨hnd, by simp, fun a ha b hb => by rw [List.mem_singleton.mp hb]; exact fun e => hn2 (by rw [← show a = t2 from e]; exact ha)⟩
        · rw [List.map_append]
          exact (((rs.ex e39).ex e10).append (.cons r10 .nil)).ex e11
    · rintro σ H3 ⟨fs, fr, u3, u4, u5, rfl, hf, ok, hnd, i3, e3, rs⟩
      walk_at "sx"
      exact q _ fr H3 hf ok hnd (.lst i3.2 np (rs.le fun _ m => .inl m)) ((e1.trans e3).shut hp) i3.1
end


theorem lot_get {l : List Nat} {k c : Nat} (h : l[k]? = some c) : (lot l)[k]? = some (if c = 46 then 46 else 43) := by simp [lot, h]
theorem lay_get {t u : List Nat} {k a b : Nat} (h1 : t[k]? = some a) (h2 : u[k]? = some b) : (lay t u)[k]? = some (if a = 46 then b else a) := by
  unfold lay
  rw [List.getElem?_map, show (t.zip u)[k]? = some (a, b) from List.getElem?_zip_eq_some.mpr ⟨h1, h2⟩]
  rfl
theorem lay_len {l m : List Nat} (h : m.length = l.length) : (lay l m).length = l.length := by simp [lay, h]
theorem get_some {t : List Nat} {k : Nat} (h : k < t.length) : ∃ a, t[k]? = some a := ⟨t[k], by simp [h]⟩
theorem all_nil {α : Type} {P : α → Prop} : ∀ e ∈ ([] : List α), P e := fun e h => by cases h
theorem all_cons {α : Type} {P : α → Prop} {a : α} {l : List α} (h : P a) (h2 : ∀ e ∈ l, P e) : ∀ e ∈ a :: l, P e := fun e he => by
  rcases List.mem_cons.mp he with rfl | he
  · exact h
  · exact h2 e he
theorem isRow_len {fr : List (List Nat × Nat)} {r : List Nat} (h : isRow fr r = true) : r.length = fr.length := by
  unfold isRow at h
  simp at h
  exact h.1


/-! ### the law's own plain functions -/
def dedup : List (List Nat) → List (List Nat) → List (List Nat)
  | acc, [] => acc
  | acc, a :: l => dedup (if a ∈ acc then acc else acc ++ [a]) l
theorem dedup_mem {a : List Nat} : ∀ {l acc : List (List Nat)}, a ∈ dedup acc l ↔ a ∈ acc ∨ a ∈ l
  | [], acc => by simp [dedup]
  | b :: l, acc => by
    unfold dedup
    rw [dedup_mem (l := l)]
    by_cases h : b ∈ acc
    · rw [if_pos h]
      constructor
      · rintro (z | z)
        · exact .inl z
        · exact .inr (List.mem_cons_of_mem _ z)
      · rintro (z | z)
        · exact .inl z
        · rcases List.mem_cons.mp z with rfl | z
          · exact .inl h
          · exact .inr z
    · rw [if_neg h]
      simp only [List.mem_append, List.mem_cons, List.not_mem_nil, or_false]
      constructor
      · rintro ((z | z) | z)
        · exact .inl z
        · exact .inr (.inl z)
        · exact .inr (.inr z)
      · rintro (z | z | z)
        · exact .inl (.inl z)
        · exact .inl (.inr z)
        · exact .inr z
theorem dedup_snoc {a : List Nat} : ∀ {l acc : List (List Nat)}, dedup acc (l ++ [a]) = if a ∈ dedup acc l then dedup acc l else dedup acc l ++ [a]
  | [], acc => rfl
  | b :: l, acc => by
    simp only [List.cons_append]
    unfold dedup
    exact dedup_snoc
theorem dedup_len : ∀ {l acc : List (List Nat)}, (dedup acc l).length ≤ acc.length + l.length
  | [], acc => by simp [dedup]
  | b :: l, acc => by
    unfold dedup
    refine Nat.le_trans dedup_len ?_
    split <;> simp <;> omega
def fresh (s t : List Nat) : List Nat := (List.range s.length).filter fun k => !decide (s[k]? = some 46) && decide (t[k]? = some 46)
def fits (s r t : List Nat) : Bool := !(fresh s t).isEmpty && ((fresh s t).filter fun k => !decide (r[k]? = s[k]?)).isEmpty
def ready (S : List (List Nat)) (r t : List Nat) : List (List Nat) := S.filter fun s => fits s r t
def lfStep (S : List (List Nat)) (r t : List Nat) : List Nat := match (ready S r t).getLast? with
  | none => t
  | some s => uni t (lot s)
def lfN (S : List (List Nat)) (r : List Nat) : Nat → List Nat
  | 0 => List.replicate r.length 46
  | n + 1 => lfStep S r (lfN S r n)
theorem lfStep_len {S : List (List Nat)} {r t : List Nat} (hS : ∀ s ∈ S, s.length = r.length) (h : t.length = r.length) : (lfStep S r t).length = r.length := by
  unfold lfStep
  split
  · exact h
  · rename_i s hs
    have := hS s (List.mem_filter.mp (List.mem_of_getLast? hs)).1
    rw [uni_len (by rw [lot_len]; omega)]
    exact h
theorem lfN_len {S : List (List Nat)} {r : List Nat} (hS : ∀ s ∈ S, s.length = r.length) : ∀ n, (lfN S r n).length = r.length
  | 0 => by simp [lfN]
  | n + 1 => lfStep_len hS (lfN_len hS n)
def takeF : D → D
  | .tup [_, e] => e
  | _ => .non
section
variable {P : Program} {w : World} {K : PySem.W.Frag} {mg : Str → Option Value} {base : Heap}
theorem rep46 (n : Nat) : (List.replicate n [46]).flatten = List.replicate n 46 := by
  induction n with
  | zero => rfl
  | succ n ih => simp [List.replicate_succ]
theorem fresh_len (s t : List Nat) : (fresh s t).length ≤ s.length := by
  unfold fresh
  refine Nat.le_trans (List.length_filter_le _ _) (by simp)
theorem fresh_lt {s t : List Nat} {k : Nat} (h : k ∈ fresh s t) : k < s.length := by simpa using (List.mem_filter.mp h).1
end

def sgs (m : Nat) : List Nat := ([46, 48, 49, 50, 51] : List Nat).take (m + 1)
theorem isRow_iff {fr : List (List Nat × Nat)} {l : List Nat} : isRow fr l = true ↔ l.length = fr.length ∧ ∀ (k c : Nat) (p : List Nat × Nat), l[k]? = some c → fr[k]? = some p → c ∈ sgs p.2 := by
  unfold isRow sgs
  rw [Bool.and_eq_true, decide_eq_true_eq, List.all_eq_true]
  constructor
  · rintro ⟨h1, h2⟩
    refine ⟨h1, fun k c p hc hp => ?_⟩
    have hz : (l.zip fr)[k]? = some (c, p) := List.getElem?_zip_eq_some.mpr ⟨hc, hp⟩
    exact of_decide_eq_true (h2 _ (List.mem_of_getElem? hz))
  · rintro ⟨h1, h2⟩
    refine ⟨h1, fun x hx => ?_⟩
    obtain ⟨k, hk⟩ := List.getElem?_of_mem hx
    obtain ⟨a, b⟩ := x
    obtain ⟨ha, hb⟩ := List.getElem?_zip_eq_some.mp hk
    exact decide_eq_true (h2 k a b ha hb)
theorem sgs_dot (m : Nat) : 46 ∈ sgs m := by simp [sgs]
theorem sgs_k {m k : Nat} (h : k < m) (hm : m ≤ 4) : 48 + k ∈ sgs m := by
  have e : ∀ m : Fin 5, ∀ k : Fin 5, k.val < m.val → 48 + k.val ∈ sgs m.val := by decide
  exact e ⟨m, by omega⟩ ⟨k, by omega⟩ h
theorem sgs_lt {m c : Nat} (h : c ∈ sgs m) : c < 128 := by
  have := List.mem_of_mem_take h
  simp at this
  omega
def setAt (l : List Nat) (k c : Nat) : List Nat := l.take k ++ [c] ++ l.drop (k + 1)
theorem setAt_set {l : List Nat} {k c : Nat} (h : k < l.length) : setAt l k c = l.set k c := by
  unfold setAt
  rw [List.set_eq_take_append_cons_drop, if_pos h]
  simp
theorem setAt_row {fr : List (List Nat × Nat)} {l : List Nat} {k c : Nat} {p : List Nat × Nat} (h : isRow fr l = true) (hp : fr[k]? = some p) (hc : c ∈ sgs p.2) : isRow fr (setAt l k c) = true := by
  obtain ⟨h1, h2⟩ := isRow_iff.mp h
  have hk := (List.getElem?_eq_some_iff.mp hp).1
  rw [setAt_set (by omega)]
  refine isRow_iff.mpr ⟨by simp [h1], fun j d q hd hq => ?_⟩
  rw [List.getElem?_set] at hd
  by_cases e : k = j
  · subst e
    rw [if_pos rfl, if_pos (by omega)] at hd
    cases hd
    rw [hp] at hq
    cases hq
    exact hc
  · rw [if_neg e] at hd
    exact h2 j d q hd hq
section
variable {P : Program} {w : World} {K : PySem.W.Frag} {mg : Str → Option Value} {base : Heap}
end

/-! ### stacks that tell every cell -/
abbrev Mk0 (s : List Nat) (k : Nat) : Prop := ∃ c, s[k]? = some c ∧ c ≠ 46
def Rw (fr : List (List Nat × Nat)) (s : List Nat) : Prop := isRow fr s = true ∧ ∃ k, Mk0 s k
structure GoodS (fr : List (List Nat × Nat)) (S : List (List Nat)) : Prop where
  rw : ∀ s ∈ S, Rw fr s
  nd : S.Nodup
  all : ∀ k, k < fr.length → ∃ s ∈ S, Mk0 s k
theorem not_blank {l : List Nat} (h : ¬ lot l = List.replicate l.length 46) : ∃ k, Mk0 l k := by
  apply Classical.byContradiction
  intro hn
  apply h
  refine List.ext_getElem (by rw [lot_len]; simp) fun k h1 h2 => ?_
  rw [List.getElem_replicate]
  have hk : k < l.length := by simpa using h2
  have : l[k] = 46 := by
    apply Classical.byContradiction
    intro hc
    exact hn ⟨k, l[k], by simp [hk], hc⟩
  simp [lot, this]
theorem mk_set {l : List Nat} {k c : Nat} (h : k < l.length) (hc : c ≠ 46) : Mk0 (setAt l k c) k := by
  rw [setAt_set h]
  exact ⟨c, by simp [h], hc⟩
theorem mk_set2 {l : List Nat} {k j c : Nat} (h : k < l.length) (hj : j ≠ k) (hm : Mk0 l j) : Mk0 (setAt l k c) j := by
  rw [setAt_set h]
  obtain ⟨d, h1, h2⟩ := hm
  exact ⟨d, by rw [List.getElem?_set_ne (Ne.symm hj)]; exact h1, h2⟩
theorem dedup_nd : ∀ {l acc : List (List Nat)}, acc.Nodup → (dedup acc l).Nodup
  | [], acc, h => by unfold dedup; exact h
  | a :: l, acc, h => by
    unfold dedup
    split
    · exact dedup_nd h
    · rename_i hm
      exact dedup_nd (List.nodup_append.mpr ⟨h, by simp, fun x hx y hy => by rw [List.mem_singleton.mp hy]; exact fun e => hm (e ▸ hx)⟩)
/-! ### the stack of seeds -/
section
variable {P : Program} {w : World} {K : PySem.W.Frag} {mg : Str → Option Value} {base : Heap}
theorem flat_S {ls : List (List Nat)} (h : ∀ s ∈ ls, ∀ c ∈ s, c < 128) : ∀ d ∈ ls.map eS, Flat d := by
  intro d hd
  obtain ⟨s, hs, rfl⟩ := List.mem_map.mp hd
  exact ok_T (h s hs)
theorem row_lt {fr : List (List Nat × Nat)} {s : List Nat} (h : isRow fr s = true) : ∀ c ∈ s, c < 128 := by
  intro c hc
  obtain ⟨h1, h2⟩ := isRow_iff.mp h
  obtain ⟨k, hk, e⟩ := List.getElem_of_mem hc
  have hk2 : k < fr.length := by omega
  exact sgs_lt (h2 k c fr[k] (by simp [hk, e]) (by simp [hk2]))
theorem pop_mut {M : Addr → Prop} {I : Hp → Prop} {H : Hp} {p : Addr} {xs : List V} {y : V} {Q : VK} (hw : Wf M I) (hp : ¬ M p) (hI : Iq I p (.lst (xs ++ [y])) H) (q : ∀ H', Ex (Mq M p) H H' → Wf (Mq M p) (Iq I p (.lst xs)) → Iq I p (.lst xs) H' → Q y H') : rPop (.ref p) [] H Q := by
  refine ⟨p, _, y, rfl, rfl, hI.2, by simp, ?_⟩
  rw [List.dropLast_concat]
  obtain ⟨i, e⟩ := hw.put (o' := .lst xs) hp hI
  exact q _ e (hw.add _ _) i
theorem map_snocS {ls : List (List Nat)} {l : List Nat} : (ls.map fun l => V.str (T l)) ++ [V.str (T l)] = (ls ++ [l]).map fun l => V.str (T l) := by simp
theorem reps_S {M : Addr → Prop} {H : Hp} : ∀ (ls : List (List Nat)), Reps K M H (ls.map fun l => V.str (T l)) (ls.map eS)
  | [] => .nil
  | _ :: ls => .cons (.str _) (reps_S ls)
end

/-! ### rows, plain -/
def inB (x y : List Nat) : Bool := (x.zip y).all fun p => decide (p.1 = 46) || decide (p.2 = 43)
def agB (x y : List Nat) : Bool := (x.zip y).all fun p => decide (p.1 = 46) || decide (p.2 = 46) || decide (p.1 = p.2)
def cutF (l ks : List Nat) : List Nat := ks.map fun k => l.getD k 46
def laidF : List (List Nat) → List Nat
  | [] => []
  | r :: rs => rs.foldl (fun a r => lay r a) r
def LotS (l : List Nat) : Prop := ∀ c ∈ l, c = 46 ∨ c = 43
theorem lotS_lot (l : List Nat) : LotS (lot l) := fun c hc => by
  obtain ⟨d, _, rfl⟩ := List.mem_map.mp hc
  split
  · exact .inl rfl
  · exact .inr rfl
theorem lotS_uni (l m : List Nat) : LotS (uni l m) := fun c hc => by
  obtain ⟨d, _, rfl⟩ := List.mem_map.mp hc
  split
  · exact .inr rfl
  · exact .inl rfl
theorem LotS.lt {l : List Nat} (h : LotS l) : ∀ c ∈ l, c < 128 := fun c hc => by
  rcases h c hc with rfl | rfl <;> decide
theorem all_zip {x y : List Nat} {f : Nat × Nat → Bool} (hl : x.length = y.length) : (x.zip y).all f = ((List.range x.length).filter fun k => !f (x.getD k 46, y.getD k 46)).isEmpty := by
  rw [Bool.eq_iff_iff, List.all_eq_true]
  constructor
  · intro h
    rw [List.isEmpty_iff, List.filter_eq_nil_iff]
    intro k hk
    have hk := List.mem_range.mp hk
    have h2 : k < y.length := by omega
    have := h (x[k], y[k]) (List.mem_iff_getElem?.mpr ⟨k, by rw [List.getElem?_zip_eq_some]; exact ⟨by simp [hk], by simp [h2]⟩⟩)
    simp [List.getD_eq_getElem?_getD, hk, h2, this]
  · intro h p hp
    rw [List.isEmpty_iff, List.filter_eq_nil_iff] at h
    obtain ⟨k, hk⟩ := List.mem_iff_getElem?.mp hp
    rw [List.getElem?_zip_eq_some] at hk
    have hk1 := (List.getElem?_eq_some_iff.mp hk.1).1
    have := h k (List.mem_range.mpr hk1)
    simpa [List.getD_eq_getElem?_getD, hk.1, hk.2] using this
section
variable {P : Program} {w : World} {K : PySem.W.Frag} {mg : Str → Option Value} {base : Heap}
theorem sl_E1 {M : Addr → Prop} {I : Hp → Prop} {H : Hp} {x : V} {d : D} {ds : List D} {n : Nat} {Q : VK} (hw : Wf M I) (hI : I H) (hx : Rep K M H x d) (hd : d = .lst ds ∨ d = .tup ds) (q : ∀ v d2 H', Ex M H H' → I H' → Rep K M H' v d2 → (d2 = .lst (ds.drop n) ∨ d2 = .tup (ds.drop n)) → Q v H') : rSlU K x (some (n : Nat)) none H Q := by
  rcases hd with rfl | rfl
  · exact sl_Lfrom hw hI hx fun v H' e i r => q v _ H' e i r (.inl rfl)
  · cases hx with
    | tup h n1 r =>
      refine .inr (.inl ⟨_, _, rfl, SqT.of h, fun hc => ?_, fun hc p hp => ?_⟩)
      · have e : ds.drop n = ds := by
          have h1 := hc.1
          rw [HT.sIx_nat, r.length] at h1
          by_cases hn : n = 0
          · rw [hn]; rfl
          · rw [List.length_eq_zero_iff.mp (show ds.length = 0 by omega)]; simp
        exact q _ (.tup ds) H (Ex.refl _) hI (.tup h n1 r) (.inr (by rw [e]))
      · rw [cut_from]
        exact q _ _ _ (Ex.of (same_upd hp)) (hw.same (same_upd hp) hI) (.tup upd_same (hw.fresh hI hp) ((r.drop n).same (same_upd hp))) (.inr rfl)
theorem not_in {l m : List Nat} (h1 : LotS l) (h2 : LotS m) {k : Nat} (hl : k < l.length) (hm : k < m.length) : (!(decide (l.getD k 46 = 46) || decide (m.getD k 46 = 43))) = (decide (l[k] = 43) && decide (m[k] = 46)) := by
  rw [List.getD_eq_getElem?_getD, List.getD_eq_getElem?_getD, List.getElem?_eq_getElem hl, List.getElem?_eq_getElem hm]
  simp only [Option.getD_some]
  rcases h1 _ (List.getElem_mem hl) with e | e <;> rcases h2 _ (List.getElem_mem hm) with e2 | e2 <;> rw [e, e2] <;> rfl
theorem not_ag {l m : List Nat} {k : Nat} (hl : k < l.length) (hm : k < m.length) : (!(decide (l.getD k 46 = 46) || decide (m.getD k 46 = 46) || decide (l.getD k 46 = m.getD k 46))) = ((!decide (l[k] = 46)) && ((!decide (m[k] = 46)) && (!decide (l[k] = m[k])))) := by
  rw [List.getD_eq_getElem?_getD, List.getD_eq_getElem?_getD, List.getElem?_eq_getElem hl, List.getElem?_eq_getElem hm]
  simp only [Option.getD_some, Bool.not_or, Bool.and_assoc]
end

/-! ### an order by size, then by signs -/
theorem ltT (a b : List Nat) (g : List Nat → Int) : leP g a b = decide (g a < g b ∨ (g a = g b ∧ ¬ b < a)) := by
  show (!PySem.W.dataLt (PyData.tuple [.int (g b), .str (T b)]) (PyData.tuple [.int (g a), .str (T a)])) = _
  rw [PySem.W.dataLt_pair (by simp [PySem.W.alike]) (by simp [PySem.W.alike]), PySem.W.dataLt_int, PySem.W.dataLt_str]
  simp only [PyData.eqv, beq_iff_eq]
  have et : (T b = T a) ↔ b = a := ⟨fun e => T_inj e, fun e => by rw [e]⟩
  have ec : ∀ l : List Nat, (T l).cps.toList = l := fun l => by rw [T_cps]
  rw [ec, ec]
  by_cases h1 : g b = g a
  · rw [if_pos h1]
    by_cases h2 : T b = T a
    · rw [if_pos h2]
      have := et.mp h2
      subst this
      simp [h1]
    · rw [if_neg h2]
      by_cases h3 : b < a
      · rw [decide_eq_true h3, decide_eq_false (by rintro (z | ⟨_, z⟩); omega; exact z h3)]; rfl
      · rw [decide_eq_false h3, decide_eq_true (.inr ⟨h1.symm, h3⟩)]; rfl
  · rw [if_neg h1]
    rw [Bool.eq_iff_iff]
    simp
    omega
def LeT (g : List Nat → Int) (a b : List Nat) : Prop := g a < g b ∨ (g a = g b ∧ ¬ b < a)
instance (g : List Nat → Int) (a b : List Nat) : Decidable (LeT g a b) := by unfold LeT; infer_instance
theorem LeT.trans {g : List Nat → Int} {a b c : List Nat} (h1 : LeT g a b) (h2 : LeT g b c) : LeT g a c := by
  rcases h1 with h1 | ⟨h1, k1⟩ <;> rcases h2 with h2 | ⟨h2, k2⟩
  · exact .inl (by omega)
  · exact .inl (by omega)
  · exact .inl (by omega)
  · exact .inr ⟨by omega, List.not_lt.mpr (List.le_trans (List.not_lt.mp k1) (List.not_lt.mp k2))⟩
theorem LeT.total {g : List Nat → Int} (a b : List Nat) : LeT g a b ∨ LeT g b a := by
  by_cases h : g a < g b
  · exact .inl (.inl h)
  by_cases h2 : g b < g a
  · exact .inr (.inl h2)
  have e : g a = g b := by omega
  by_cases k : b < a
  · exact .inr (.inr ⟨e.symm, List.not_lt.mpr (List.le_of_lt k)⟩)
  · exact .inl (.inr ⟨e, k⟩)
theorem LeT.anti {g : List Nat → Int} {a b : List Nat} (h1 : LeT g a b) (h2 : LeT g b a) : a = b := by
  rcases h1 with h1 | ⟨h1, k1⟩ <;> rcases h2 with h2 | ⟨h2, k2⟩
  · omega
  · omega
  · omega
  · exact List.le_antisymm (List.not_lt.mp k1) (List.not_lt.mp k2)
theorem sort_two {g : List Nat → Int} : ∀ {A B : List (List Nat)}, A.Pairwise (LeT g) → B.Pairwise (LeT g) → A.Nodup → B.Nodup → (∀ r, r ∈ A ↔ r ∈ B) → A = B
  | [], [], _, _, _, _, _ => rfl
  | [], b :: B, _, _, _, _, h => by have := (h b).mpr List.mem_cons_self; cases this
  | a :: A, [], _, _, _, _, h => by have := (h a).mp List.mem_cons_self; cases this
  | a :: A, b :: B, h1, h2, n1, n2, h => by
    obtain ⟨r1, p1⟩ := List.pairwise_cons.mp h1
    obtain ⟨r2, p2⟩ := List.pairwise_cons.mp h2
    have e : a = b := by
      rcases List.mem_cons.mp ((h a).mp List.mem_cons_self) with e | ha
      · exact e
      rcases List.mem_cons.mp ((h b).mpr List.mem_cons_self) with e | hb
      · exact e.symm
      exact (r1 b hb).anti (r2 a ha)
    subst e
    obtain ⟨m1, n1⟩ := List.nodup_cons.mp n1
    obtain ⟨m2, n2⟩ := List.nodup_cons.mp n2
    have e2 : A = B := sort_two p1 p2 n1 n2 fun r => by
      constructor
      · intro hr
        rcases List.mem_cons.mp ((h r).mp (List.mem_cons_of_mem _ hr)) with rfl | z
        · exact absurd hr m1
        · exact z
      · intro hr
        rcases List.mem_cons.mp ((h r).mpr (List.mem_cons_of_mem _ hr)) with rfl | z
        · exact absurd hr m2
        · exact z
    rw [e2]
theorem two_sub {α : Type} {a b : α} : ∀ {r : List α}, r.Nodup → [a, b].Sublist r → [b, a].Sublist r → False
  | [], _, h, _ => by cases h
  | x :: r, hn, h1, h2 => by
    obtain ⟨m, hn⟩ := List.nodup_cons.mp hn
    cases h1 with
    | cons _ h1 => cases h2 with
      | cons _ h2 => exact two_sub hn h1 h2
      | cons_cons _ h2 => exact m (h1.subset (by simp))
    | cons_cons _ h1 => cases h2 with
      | cons _ h2 => exact m (h2.subset (by simp))
      | cons_cons _ h2 => exact m (h2.subset (by simp))
theorem sub_two {α : Type} {a b : α} : ∀ {r : List α}, a ∈ r → b ∈ r → a ≠ b → [a, b].Sublist r ∨ [b, a].Sublist r
  | [], h, _, _ => by cases h
  | x :: r, h1, h2, h3 => by
    rcases List.mem_cons.mp h1 with rfl | k1
    · rcases List.mem_cons.mp h2 with rfl | k2
      · exact absurd rfl h3
      · exact .inl (List.Sublist.cons_cons _ (List.singleton_sublist.mpr k2))
    · rcases List.mem_cons.mp h2 with rfl | k2
      · exact .inr (List.Sublist.cons_cons _ (List.singleton_sublist.mpr k1))
      · exact (sub_two k1 k2 h3).imp (List.Sublist.cons _) (List.Sublist.cons _)
theorem rise_pw : ∀ {l : List (List Nat)}, sortedS (l.map T) = true → l.Pairwise fun a b => ¬ b < a
  | [], _ => .nil
  | a :: l, h => by
    have key : ∀ {l : List (List Nat)} {p : List Nat}, risingS (T p) (l.map T) = true → ∀ x ∈ l, ¬ x < p := by
      intro l
      induction l with
      | nil => intro p _ x h; cases h
      | cons a l ih =>
        intro p hr x hx
        have h : (!ltCps (T a).cps.toList (T p).cps.toList && risingS (T a) (l.map T)) = true := hr
        obtain ⟨h1, h2⟩ := Bool.and_eq_true_iff.mp h
        have h3 : ¬ a < p := by
          have h5 : ltCps (T a).cps.toList (T p).cps.toList = false := by simpa using h1
          have : ltCps a p = false := h5
          rw [ltCps_eq] at this
          exact of_decide_eq_false this
        rcases List.mem_cons.mp hx with rfl | hx
        · exact h3
        · exact List.not_lt.mpr (List.le_trans (List.not_lt.mp h3) (List.not_lt.mp (ih h2 x hx)))
    refine List.pairwise_cons.mpr ⟨key h, rise_pw ?_⟩
    cases l with
    | nil => rfl
    | cons b l => exact (Bool.and_eq_true_iff.mp (show (!ltCps (T b).cps.toList (T a).cps.toList && risingS (T b) (l.map T)) = true from h)).2
theorem size_sort {g : List Nat → Int} {ys : List (List Nat)} (hs : ys.Pairwise fun a b => ¬ b < a) (hn : ys.Nodup) : (ys.mergeSort fun a b => decide (g a ≤ g b)).Pairwise (LeT g) := by
  have hp := List.mergeSort_perm ys fun a b => decide (g a ≤ g b)
  have ht : ∀ a b c : List Nat, decide (g a ≤ g b) = true → decide (g b ≤ g c) = true → decide (g a ≤ g c) = true := fun a b c h1 h2 => by
    simp only [decide_eq_true_eq] at *; omega
  have ho : ∀ a b : List Nat, (decide (g a ≤ g b) || decide (g b ≤ g a)) = true := fun a b => by
    simp only [Bool.or_eq_true, decide_eq_true_eq]; omega
  have hw := List.pairwise_mergeSort ht ho ys
  have hr : (ys.mergeSort fun a b => decide (g a ≤ g b)).Nodup := hp.nodup_iff.mpr hn
  rw [List.pairwise_iff_forall_sublist]
  intro a b hab
  have h1 : g a ≤ g b := of_decide_eq_true (List.pairwise_iff_forall_sublist.mp hw hab)
  by_cases h2 : g a < g b
  · exact .inl h2
  have e : g a = g b := by omega
  have hne : a ≠ b := List.pairwise_iff_forall_sublist.mp hr hab
  have ma : a ∈ ys := hp.mem_iff.mp (hab.subset (by simp))
  have mb : b ∈ ys := hp.mem_iff.mp (hab.subset (by simp))
  rcases sub_two ma mb hne with h | h
  · exact .inr ⟨e, List.pairwise_iff_forall_sublist.mp hs h⟩
  · have h3 := List.pair_sublist_mergeSort ht ho (a := b) (b := a) (decide_eq_true (by omega)) h
    exact (two_sub hr hab h3).elim
theorem dedup_sub : ∀ {l acc : List (List Nat)}, ∃ z, dedup acc l = acc ++ z ∧ z.Sublist l
  | [], acc => ⟨[], by simp [dedup], .slnil⟩
  | a :: l, acc => by
    unfold dedup
    split
    · obtain ⟨z, h1, h2⟩ := dedup_sub (l := l) (acc := acc)
      exact ⟨z, h1, h2.cons a⟩
    · obtain ⟨z, h1, h2⟩ := dedup_sub (l := l) (acc := acc ++ [a])
      exact ⟨a :: z, by rw [h1]; simp, h2.cons_cons a⟩
def ordF (g : List Nat → Int) (L : List (List Nat)) : List (List Nat) := dedup [] (L.mergeSort (leP g))
theorem ordF_pw (g : List Nat → Int) (L : List (List Nat)) : (ordF g L).Pairwise (LeT g) := by
  obtain ⟨z, h1, h2⟩ := dedup_sub (l := L.mergeSort (leP g)) (acc := [])
  unfold ordF
  rw [h1, List.nil_append]
  have hf : leP g = fun a b => decide (LeT g a b) := by
    funext a b
    exact ltT a b g
  refine List.Pairwise.sublist h2 ?_
  have ht : ∀ a b c : List Nat, leP g a b = true → leP g b c = true → leP g a c = true := fun a b c h1 h2 => by
    rw [ltT] at *
    exact decide_eq_true (LeT.trans (of_decide_eq_true h1) (of_decide_eq_true h2))
  have ho : ∀ a b : List Nat, (leP g a b || leP g b a) = true := fun a b => by
    rw [ltT, ltT, Bool.or_eq_true, decide_eq_true_eq, decide_eq_true_eq]
    exact LeT.total a b
  exact (List.pairwise_mergeSort ht ho L).imp fun {a b} h => by rw [ltT] at h; exact of_decide_eq_true h
theorem ordF_nd (g : List Nat → Int) (L : List (List Nat)) : (ordF g L).Nodup := dedup_nd (by simp)
theorem ordF_mem {g : List Nat → Int} {L : List (List Nat)} {r : List Nat} : r ∈ ordF g L ↔ r ∈ L := by
  unfold ordF
  rw [dedup_mem, List.mem_mergeSort]
  simp
theorem ordF_len (g : List Nat → Int) (L : List (List Nat)) : (ordF g L).length ≤ L.length := by
  have := dedup_len (l := L.mergeSort (leP g)) (acc := [])
  rw [List.length_mergeSort] at this
  unfold ordF
  simpa using this
theorem ord_one {g : List Nat → Int} {L ys : List (List Nat)} (hs : sortedS (ys.map T) = true) (hn : ys.Nodup) (hm : ∀ r, r ∈ ys ↔ r ∈ L) : (ys.mergeSort fun a b => decide (g a ≤ g b)) = ordF g L :=
  sort_two (size_sort (rise_pw hs) hn) (ordF_pw g L) ((List.mergeSort_perm _ _).nodup_iff.mpr hn) (ordF_nd g L) fun r => by rw [List.mem_mergeSort, hm, ordF_mem]
theorem ordF_self (g : List Nat → Int) (L : List (List Nat)) : ordF g (ordF g L) = ordF g L :=
  sort_two (ordF_pw g _) (ordF_pw g L) (ordF_nd g _) (ordF_nd g L) fun r => by rw [ordF_mem]
theorem ms_map (g : List Nat → Int) (h : Str → Int) (e : ∀ l, h (T l) = g l) (ys : List (List Nat)) : (ys.map T).mergeSort (leK h) = (ys.mergeSort fun a b => decide (g a ≤ g b)).map T := by
  refine (List.map_mergeSort (f := T) (r := fun a b => decide (g a ≤ g b)) (s := leK h) (l := ys) ?_).symm
  intro a _ b _
  show _ = decide (h (T a) ≤ h (T b))
  rw [e, e]


/-! ### the rows that seeds make -/
inductive Cl (S : List (List Nat)) (n : Nat) : List Nat → Prop
  | base : Cl S n (List.replicate n 46)
  | step {s r : List Nat} : s ∈ S → Cl S n r → Cl S n (lay s r)
section
variable {S S2 : List (List Nat)} {n : Nat} {r t u : List Nat}
theorem Cl.len (hS : ∀ s ∈ S, s.length = n) (h : Cl S n r) : r.length = n := by
  induction h with
  | base => simp
  | @step s r hs _ ih => rw [lay_len (by rw [ih, hS s hs]), hS s hs]
theorem Cl.mono (h0 : ∀ s ∈ S, s ∈ S2) (h : Cl S n r) : Cl S2 n r := by
  induction h with
  | base => exact .base
  | step hs _ ih => exact .step (h0 _ hs) ih
theorem cl_fold (X : List (List Nat)) (h : ∀ s ∈ X, s ∈ S) : Cl S n (X.foldr lay (List.replicate n 46)) := by
  induction X with
  | nil => exact .base
  | cons a X ih => exact .step (h a List.mem_cons_self) (ih fun s hs => h s (List.mem_cons_of_mem _ hs))
theorem lay_blank : ∀ {s : List Nat}, lay s (List.replicate s.length 46) = s
  | [] => rfl
  | c :: s => by
    have ih := lay_blank (s := s)
    unfold lay at ih ⊢
    rw [List.length_cons, List.replicate_succ, List.zip_cons_cons, List.map_cons, ih]
    by_cases h : c = 46
    · subst h; simp
    · simp [h]
theorem cl_self (hS : ∀ s ∈ S, s.length = n) {s : List Nat} (hs : s ∈ S) : Cl S n s := by
  have h := Cl.step hs (Cl.base (S := S) (n := n))
  rw [← hS s hs, lay_blank, hS s hs] at h
  exact h
end
theorem lay_assoc : ∀ {s u b : List Nat}, s.length = u.length → b.length = u.length → lay (lay s u) b = lay s (lay u b)
  | [], [], [], _, _ => rfl
  | [], _ :: _, _, h, _ => by simp at h
  | _ :: _, [], _, h, _ => by simp at h
  | [], [], _ :: _, _, h => by simp at h
  | _ :: _, _ :: _, [], _, h => by simp at h
  | c :: s, d :: u, e :: b, h1, h2 => by
    have ih := lay_assoc (s := s) (u := u) (b := b) (by simpa using h1) (by simpa using h2)
    have e1 : ∀ (a : Nat) (x : List Nat) (a2 : Nat) (x2 : List Nat), lay (a :: x) (a2 :: x2) = (if a = 46 then a2 else a) :: lay x x2 := fun _ _ _ _ => rfl
    rw [e1, e1, e1, e1, ih]
    congr 1
    by_cases hc : c = 46
    · simp [hc]
    · simp [hc]
theorem cl_lay {S : List (List Nat)} {n : Nat} (hS : ∀ s ∈ S, s.length = n) {a b : List Nat} (ha : Cl S n a) (hb : Cl S n b) : Cl S n (lay a b) := by
  induction ha with
  | base =>
    have hl := hb.len hS
    have : lay (List.replicate n 46) b = b := by
      have key : ∀ (n : Nat) (b : List Nat), b.length = n → lay (List.replicate n 46) b = b := by
        intro n
        induction n with
        | zero => intro b h; rw [List.length_eq_zero_iff.mp h]; rfl
        | succ n ih =>
          intro b h
          cases b with
          | nil => simp at h
          | cons c b =>
            have e1 : lay (List.replicate (n + 1) 46) (c :: b) = (if 46 = 46 then c else 46) :: lay (List.replicate n 46) b := rfl
            rw [e1, if_pos rfl, ih b (by simpa using h)]
      exact key n b hl
    rw [this]
    exact hb
  | @step s u hs hu ih =>
    rw [lay_assoc (by rw [hS s hs, hu.len hS]) (by rw [hb.len hS, hu.len hS])]
    exact .step hs ih
theorem lay_row {fr : List (List Nat × Nat)} {s l : List Nat} (hs : isRow fr s = true) (hl : isRow fr l = true) : isRow fr (lay s l) = true := by
  obtain ⟨h1, h2⟩ := isRow_iff.mp hs
  obtain ⟨h3, h4⟩ := isRow_iff.mp hl
  have hlen : (lay s l).length = fr.length := by rw [lay_len (by omega)]; exact h1
  refine isRow_iff.mpr ⟨hlen, fun k c p hc hp => ?_⟩
  have hk := (List.getElem?_eq_some_iff.mp hp).1
  obtain ⟨a, ha⟩ := get_some (t := s) (k := k) (by omega)
  obtain ⟨b, hb⟩ := get_some (t := l) (k := k) (by omega)
  rw [lay_get ha hb] at hc
  by_cases e : a = 46
  · rw [if_pos e] at hc
    cases hc
    exact h4 k _ p hb hp
  · rw [if_neg e] at hc
    cases hc
    exact h2 k _ p ha hp
theorem blank_row {fr : List (List Nat × Nat)} : isRow fr (List.replicate fr.length 46) = true := by
  refine isRow_iff.mpr ⟨by simp, fun k c p hc hp => ?_⟩
  have := List.eq_of_mem_replicate (List.mem_of_getElem? hc)
  rw [this]
  exact sgs_dot _
def unS : D → List Nat
  | .str z => z.cps.toList
  | _ => []
theorem un_map (l : List (List Nat)) : (l.map eS).map unS = l := by
  rw [List.map_map]
  conv => rhs; rw [← List.map_id l]
  rfl
theorem perm_map {es : List D} {S : List (List Nat)} (h : es.Perm (S.map eS)) : ∃ o : List (List Nat), es = o.map eS ∧ o.Perm S := by
  refine ⟨es.map unS, ?_, by have := h.map unS; rw [un_map] at this; exact this⟩
  have hm : ∀ d ∈ es, eS (unS d) = d := by
    intro d hd
    obtain ⟨s, _, rfl⟩ := List.mem_map.mp (h.mem_iff.mp hd)
    rfl
  rw [List.map_map]
  conv => lhs; rw [← List.map_id es]
  refine List.map_congr_left fun d hd => (hm d hd).symm
/-! ### all rows that seeds make -/
theorem le_t {a b c : List Nat} (h1 : ¬ b < a) (h2 : ¬ c < b) : ¬ c < a := List.not_lt.mpr (List.le_trans (List.not_lt.mp h1) (List.not_lt.mp h2))
theorem le_a {a b : List Nat} (h1 : ¬ b < a) (h2 : ¬ a < b) : a = b := List.le_antisymm (List.not_lt.mp h1) (List.not_lt.mp h2)
theorem rising_all : ∀ {l : List (List Nat)} {p : List Nat}, risingS (T p) (l.map T) = true → ∀ x ∈ l, ¬ x < p
  | [], _, _, x, h => by cases h
  | a :: l, p, hr, x, hx => by
    have h : (!ltCps (T a).cps.toList (T p).cps.toList && risingS (T a) (l.map T)) = true := hr
    obtain ⟨h1, h2⟩ := Bool.and_eq_true_iff.mp h
    have h3 : ¬ a < p := by
      have h5 : ltCps (T a).cps.toList (T p).cps.toList = false := by simpa using h1
      have : ltCps a p = false := h5
      rw [ltCps_eq] at this
      exact of_decide_eq_false this
    rcases List.mem_cons.mp hx with rfl | hx
    · exact h3
    · exact le_t h3 (rising_all h2 x hx)
theorem rising_tail {l : List (List Nat)} {p : List Nat} (h : risingS (T p) (l.map T) = true) : sortedS (l.map T) = true := by
  cases l with
  | nil => rfl
  | cons a l => exact (Bool.and_eq_true_iff.mp (show (!ltCps (T a).cps.toList (T p).cps.toList && risingS (T a) (l.map T)) = true from h)).2
theorem sort_one : ∀ {A B : List (List Nat)}, sortedS (A.map T) = true → sortedS (B.map T) = true → A.Nodup → B.Nodup → (∀ r, r ∈ A ↔ r ∈ B) → A = B
  | [], [], _, _, _, _, _ => rfl
  | [], b :: B, _, _, _, _, h => by have := (h b).mpr List.mem_cons_self; cases this
  | a :: A, [], _, _, _, _, h => by have := (h a).mp List.mem_cons_self; cases this
  | a :: A, b :: B, h1, h2, n1, n2, h => by
    have r1 : risingS (T a) (A.map T) = true := h1
    have r2 : risingS (T b) (B.map T) = true := h2
    have e : a = b := by
      have ha := (h a).mp List.mem_cons_self
      have hb := (h b).mpr List.mem_cons_self
      rcases List.mem_cons.mp ha with e | ha
      · exact e
      rcases List.mem_cons.mp hb with e | hb
      · exact e.symm
      exact le_a (rising_all r1 b hb) (rising_all r2 a ha)
    subst e
    obtain ⟨m1, n1⟩ := List.nodup_cons.mp n1
    obtain ⟨m2, n2⟩ := List.nodup_cons.mp n2
    have e2 : A = B := sort_one (rising_tail r1) (rising_tail r2) n1 n2 fun r => by
      constructor
      · intro hr
        rcases List.mem_cons.mp ((h r).mp (List.mem_cons_of_mem _ hr)) with rfl | z
        · exact absurd hr m1
        · exact z
      · intro hr
        rcases List.mem_cons.mp ((h r).mpr (List.mem_cons_of_mem _ hr)) with rfl | z
        · exact absurd hr m2
        · exact z
    rw [e2]
def Big (S : List (List Nat)) (n : Nat) : Prop := ∃ F : List (List Nat), F.Nodup ∧ 40 < F.length ∧ ∀ r ∈ F, Cl S n r
structure RowsOf (S : List (List Nat)) (n : Nat) (Y : List (List Nat)) : Prop where
  nd : Y.Nodup
  so : sortedS (Y.map T) = true
  len : Y.length ≤ 40
  mem : ∀ r, r ∈ Y ↔ Cl S n r
theorem not_big {S : List (List Nat)} {n : Nat} {Y : List (List Nat)} (h : RowsOf S n Y) : ¬ Big S n := by
  rintro ⟨F, h1, h2, h3⟩
  have := nodup_len h1 fun r hr => (h.mem r).mpr (h3 r hr)
  have := h.len
  omega
def keyT (r : List Nat) : Key × V := (.inr (T r), .bl true)
theorem valV_key {F : List (List Nat)} {r : List Nat} : (valV (F.map keyT) (.inr (T r))).isSome = decide (r ∈ F) := by
  unfold valV
  rw [Bool.eq_iff_iff, decide_eq_true_eq]
  induction F with
  | nil => simp
  | cons a F ih =>
    rw [List.map_cons, List.find?_cons]
    by_cases h : T a = T r
    · have e := T_inj h
      subst e
      simp [keyT]
    · have h2 : ¬ r = a := fun e => h (by rw [e])
      simp only [keyT, Sum.inr.injEq, h, decide_false]
      rw [List.mem_cons]
      simp only [h2, false_or]
      exact ih
theorem putK_key {F : List (List Nat)} {r : List Nat} (h : r ∉ F) : putK (F.map keyT) (.inr (T r)) (.bl true) = (F ++ [r]).map keyT := by
  have h2 : ((F.map keyT).any fun kv => decide (kv.1 = (Sum.inr (T r) : Key))) = false := by
    rw [List.any_eq_false]
    intro kv hkv
    obtain ⟨a, ha, rfl⟩ := List.mem_map.mp hkv
    simp only [keyT, decide_eq_true_eq, Sum.inr.injEq]
    intro e
    exact h (by rw [← T_inj e]; exact ha)
  unfold putK
  rw [if_neg (by rw [h2]; exact Bool.false_ne_true), List.map_append]
  rfl
theorem get_app {α : Type} {l m : List α} {i : Nat} {a : α} (h : l[i]? = some a) : (l ++ m)[i]? = some a := by
  rw [List.getElem?_append_left (List.getElem?_eq_some_iff.mp h).1]
  exact h
theorem cl_in {S F : List (List Nat)} {n : Nat} (h0 : List.replicate n 46 ∈ F) (h : ∀ r ∈ F, ∀ s ∈ S, lay s r ∈ F) : ∀ r, Cl S n r → r ∈ F := fun r hr => by
  induction hr with
  | base => exact h0
  | step hs _ ih => exact h _ ih _ hs
section
variable {P : Program} {w : World} {K : PySem.W.Frag} {mg : Str → Option Value} {base : Heap}
end

/-! ### all fillings -/
theorem flat_len {α β : Type} {f : α → List β} {n : Nat} (h : ∀ a, (f a).length ≤ n) : ∀ l : List α, (l.flatMap f).length ≤ l.length * n
  | [] => by simp
  | a :: l => by
    rw [List.flatMap_cons, List.length_append, List.length_cons, Nat.add_mul, Nat.one_mul]
    have := flat_len h l
    have := h a
    omega
theorem pw_flat {α β : Type} {f : α → List β} {P : α → α → Prop} {R : β → β → Prop} (h1 : ∀ a, (f a).Pairwise R) (h2 : ∀ a b, P a b → ∀ x ∈ f a, ∀ y ∈ f b, R x y) : ∀ {l : List α}, l.Pairwise P → (l.flatMap f).Pairwise R
  | [], _ => .nil
  | a :: l, h => by
    obtain ⟨h3, h4⟩ := List.pairwise_cons.mp h
    rw [List.flatMap_cons]
    refine List.pairwise_append.mpr ⟨h1 a, pw_flat h1 h2 h4, fun x hx y hy => ?_⟩
    obtain ⟨b, hb, hy⟩ := List.mem_flatMap.mp hy
    exact h2 a b (h3 b hb) x hx y hy
theorem up_sorted : ∀ {l : List (List Nat)}, l.Pairwise (· < ·) → sortedS (l.map T) = true
  | [], _ => rfl
  | [a], _ => rfl
  | a :: b :: l, h => by
    obtain ⟨h1, h2⟩ := List.pairwise_cons.mp h
    have key : ∀ {l : List (List Nat)} {p : List Nat}, (p :: l).Pairwise (· < ·) → risingS (T p) (l.map T) = true := by
      intro l
      induction l with
      | nil => intro p _; rfl
      | cons b l ih =>
        intro p h
        obtain ⟨h1, h2⟩ := List.pairwise_cons.mp h
        show (!ltCps (T b).cps.toList (T p).cps.toList && risingS (T b) (l.map T)) = true
        rw [ih h2, Bool.and_true, T_cps, T_cps, ltCps_eq, decide_eq_false (List.lt_asymm (h1 b List.mem_cons_self))]
        rfl
    exact key h
section
variable {P : Program} {w : World} {K : PySem.W.Frag} {mg : Str → Option Value} {base : Heap}
end

/-! ### rows laid over, plainly -/
theorem ext_D {l m : List Nat} (h : l.length = m.length) (e : ∀ k, l.getD k 46 = m.getD k 46) : l = m := by
  refine List.ext_getElem h fun k h1 h2 => ?_
  have := e k
  rw [List.getD_eq_getElem?_getD, List.getD_eq_getElem?_getD, List.getElem?_eq_getElem h1, List.getElem?_eq_getElem h2] at this
  exact this
theorem get_out {l : List Nat} {k : Nat} (h : l.length ≤ k) : l.getD k 46 = 46 := by
  rw [List.getD_eq_getElem?_getD, List.getElem?_eq_none h]
  rfl
theorem zip_D {f : Nat × Nat → Nat} {t u : List Nat} {k : Nat} (h : u.length = t.length) (h0 : f (46, 46) = 46) : ((t.zip u).map f).getD k 46 = f (t.getD k 46, u.getD k 46) := by
  by_cases hk : k < t.length
  · have hk2 : k < u.length := by omega
    have e : (t.zip u)[k]? = some (t[k], u[k]) := List.getElem?_zip_eq_some.mpr ⟨by simp [hk], by simp [hk2]⟩
    simp [List.getD_eq_getElem?_getD, hk, hk2, e]
  · rw [get_out (l := t) (by omega), get_out (l := u) (by omega), get_out (by simp; omega), h0]
theorem lay_D {t u : List Nat} {k : Nat} (h : u.length = t.length) : (lay t u).getD k 46 = if t.getD k 46 = 46 then u.getD k 46 else t.getD k 46 := zip_D h rfl
theorem uni_D {t u : List Nat} {k : Nat} (h : u.length = t.length) : (uni t u).getD k 46 = if 43 = t.getD k 46 ∨ 43 = u.getD k 46 then 43 else 46 := zip_D (f := fun p => if 43 = p.1 ∨ 43 = p.2 then 43 else 46) h rfl
theorem lot_D {t : List Nat} {k : Nat} : (lot t).getD k 46 = if t.getD k 46 = 46 then 46 else 43 := by
  by_cases hk : k < t.length
  · unfold lot
    simp [List.getD_eq_getElem?_getD, hk]
  · rw [get_out (l := t) (by omega), get_out (by rw [lot_len]; omega)]
    rfl
theorem all_D {f : Nat × Nat → Bool} {x y : List Nat} (hl : x.length = y.length) (h : ∀ k, f (x.getD k 46, y.getD k 46) = true) : (x.zip y).all f = true := by
  rw [all_zip hl, List.isEmpty_iff, List.filter_eq_nil_iff]
  intro k _
  rw [h k]
  exact Bool.false_ne_true
section
variable {x y z : List Nat} {n : Nat}
theorem lay_self (x : List Nat) : lay x x = x := ext_D (by rw [lay_len rfl]) fun k => by
  rw [lay_D rfl]
  split <;> rfl
theorem lay_back (h : y.length = x.length) : lay (lay x y) x = lay x y := ext_D (by rw [lay_len (by rw [lay_len h])]) fun k => by
  rw [lay_D (by rw [lay_len h]), lay_D h]
  generalize x.getD k 46 = a
  generalize y.getD k 46 = b
  by_cases e : a = 46 <;> by_cases e2 : b = 46 <;> simp [e, e2]
theorem lot_lay (h : y.length = x.length) : lot (lay x y) = uni (lot x) (lot y) := ext_D (by rw [lot_len, lay_len h, uni_len (by rw [lot_len, lot_len, h]), lot_len]) fun k => by
  rw [lot_D, lay_D h, uni_D (by rw [lot_len, lot_len, h]), lot_D, lot_D]
  generalize x.getD k 46 = a
  generalize y.getD k 46 = b
  by_cases e : a = 46 <;> by_cases e2 : b = 46 <;> simp [e, e2]
theorem in_uni (h : y.length = x.length) : inB (lot x) (uni (lot y) (lot x)) = true := all_D (by rw [uni_len (by rw [lot_len, lot_len, h]), lot_len, lot_len, h]) fun k => by
  show (decide ((lot x).getD k 46 = 46) || decide ((uni (lot y) (lot x)).getD k 46 = 43)) = true
  rw [uni_D (by rw [lot_len, lot_len, h]), lot_D, lot_D]
  generalize x.getD k 46 = a
  generalize y.getD k 46 = b
  by_cases e : a = 46 <;> by_cases e2 : b = 46 <;> simp [e, e2]
theorem ag_lay (h : y.length = x.length) : agB x (lay x y) = true := all_D (by rw [lay_len h]) fun k => by
  show (decide (x.getD k 46 = 46) || decide ((lay x y).getD k 46 = 46) || decide (x.getD k 46 = (lay x y).getD k 46)) = true
  rw [lay_D h]
  generalize x.getD k 46 = a
  by_cases e : a = 46 <;> simp [e]
theorem lay_ass (h1 : y.length = x.length) (h2 : z.length = x.length) : lay (lay x y) z = lay x (lay y z) := by
  have l1 : (lay x y).length = x.length := lay_len h1
  have l2 : (lay y z).length = x.length := by rw [lay_len (by omega)]; exact h1
  refine ext_D (by rw [lay_len (by omega), l1, lay_len (by omega)]) fun k => ?_
  rw [lay_D (by omega), lay_D h1, lay_D (by omega), lay_D (by omega)]
  generalize x.getD k 46 = a
  by_cases e : a = 46 <;> simp [e]
theorem lay_five (h1 : y.length = x.length) (h2 : z.length = x.length) : lay z (lay x (lay y (lay z x))) = lay z (lay x y) := by
  have l1 : (lay z x).length = x.length := by rw [lay_len (by omega)]; exact h2
  have l2 : (lay y (lay z x)).length = x.length := by rw [lay_len (by omega)]; exact h1
  have l3 : (lay x (lay y (lay z x))).length = x.length := by rw [lay_len (by omega)]
  have l4 : (lay x y).length = x.length := lay_len h1
  refine ext_D (by rw [lay_len (by omega), lay_len (by omega)]) fun k => ?_
  rw [lay_D (by omega), lay_D (by omega), lay_D (by omega), lay_D (by omega), lay_D (by omega), lay_D (by omega)]
  generalize x.getD k 46 = a
  generalize y.getD k 46 = b
  generalize z.getD k 46 = c
  by_cases e : a = 46 <;> by_cases e2 : b = 46 <;> by_cases e3 : c = 46 <;> simp [e, e2, e3]
theorem cut_all (x : List Nat) : cutF x (List.range x.length) = x := by
  refine ext_D (by simp [cutF]) fun k => ?_
  by_cases hk : k < x.length
  · simp [cutF, List.getD_eq_getElem?_getD, hk]
  · rw [get_out (l := x) (by omega), get_out (by simp [cutF]; omega)]
theorem cut_lot {x ks : List Nat} : cutF (lot x) ks = lot (cutF x ks) := by
  unfold cutF lot
  rw [List.map_map]
  refine List.map_congr_left fun k _ => ?_
  exact lot_D (t := x) (k := k)
end
theorem sg_rep (n : Nat) (c : Nat) (h : c = 46 ∨ c = 43) : LotS (List.replicate n c) := fun d hd => by rw [List.eq_of_mem_replicate hd]; exact h
def unI : D → Nat
  | .int z => z.toNat
  | _ => 0
theorem unI_map (l : List Nat) : (l.map eI).map unI = l := by
  rw [List.map_map]
  conv => rhs; rw [← List.map_id l]
  rfl
theorem permI {es : List D} {S : List Nat} (h : es.Perm (S.map eI)) : ∃ o : List Nat, es = o.map eI ∧ o.Perm S := by
  refine ⟨es.map unI, ?_, by have := h.map unI; rw [unI_map] at this; exact this⟩
  have hm : ∀ d ∈ es, eI (unI d) = d := by
    intro d hd
    obtain ⟨s, _, rfl⟩ := List.mem_map.mp (h.mem_iff.mp hd)
    rfl
  rw [List.map_map]
  conv => lhs; rw [← List.map_id es]
  refine List.map_congr_left fun d hd => (hm d hd).symm





/-! ### the last item, all but the last -/
section
variable {K : PySem.W.Frag} {M : Addr → Prop} {I : Hp → Prop} {H : Hp} {x : V} {Q : VK}
theorem reps_snoc : ∀ {xs : List V} {ds : List D} {e : D}, Reps K M H xs (ds ++ [e]) → ∃ xs0 v, xs = xs0 ++ [v] ∧ Reps K M H xs0 ds ∧ Rep K M H v e
  | _, [], _, .cons r .nil => ⟨[], _, rfl, .nil, r⟩
  | _, _ :: _, _, .cons r rs => by
    obtain ⟨xs0, v, rfl, r1, r2⟩ := reps_snoc rs
    exact ⟨_ :: xs0, v, rfl, .cons r r1, r2⟩
theorem atI_m1 {xs : List V} {y : V} : atI (xs ++ [y]) (-1) = some y := by
  unfold atI ixN
  rw [if_neg (by decide), if_pos (by simp; omega)]
  have e : ((-1 : Int) + ((xs ++ [y]).length : Nat)).toNat = xs.length := by simp; omega
  show (xs ++ [y])[((-1 : Int) + ((xs ++ [y]).length : Nat)).toNat]? = some y
  rw [e]
  simp
theorem ix_last {ds : List D} {e : D} (hx : Rep K M H x (.lst (ds ++ [e]))) (q : ∀ v, Rep K M H v e → Q v H) : rIx K x (.int (-1)) H Q := by
  cases hx with
  | lst h n r =>
    obtain ⟨xs0, v, rfl, _, r2⟩ := reps_snoc r
    exact .inl ⟨_, _, _, v, rfl, rfl, SqL.of h, atI_m1, q v r2⟩
theorem cut_but {xs : List V} {v : V} : cutV (xs ++ [v]) none (some (-1)) = xs := by
  unfold cutV
  rw [HT.sIx_none]
  have e : HT.sIx (xs ++ [v]).length (xs ++ [v]).length (some (-1)) = xs.length := by
    show (if (-1 : Int) < 0 then ((-1 : Int) + ((xs ++ [v]).length : Int)).toNat else min (-1 : Int).toNat (xs ++ [v]).length) = _
    rw [if_pos (by decide)]
    simp
    omega
  rw [e]
  simp
theorem sl_Lbut {ds : List D} {e : D} (hw : Wf M I) (hI : I H) (hx : Rep K M H x (.lst (ds ++ [e]))) (q : ∀ v H', Ex M H H' → I H' → Rep K M H' v (.lst ds) → Q v H') : rSlU K x none (some (-1)) H Q := by
  cases hx with
  | lst h n r =>
    obtain ⟨xs0, v, rfl, r1, _⟩ := reps_snoc r
    refine .inl ⟨_, _, rfl, SqL.of h, fun p hp => ?_⟩
    rw [cut_but]
    exact q _ _ (Ex.of (same_upd hp)) (hw.same (same_upd hp) hI) (.lst upd_same (hw.fresh hI hp) (r1.same (same_upd hp)))
end
abbrev d4 : List Nat := [48, 49, 50, 51]
theorem d4_get {m : Nat} (h : m < 4) : d4[m]? = some (48 + m) := by
  have e : ∀ m : Fin 4, d4[m.val]? = some (48 + m.val) := by decide
  exact e ⟨m, h⟩
section
variable {P : Program} {w : World} {K : PySem.W.Frag} {mg : Str → Option Value} {base : Heap}
def spSeed (K : PySem.W.Frag) : Sp := fun vs H Q _ => ∃ (M : Addr → Prop) (I : Hp → Prop) (b : Addr) (c : V) (fr : List (List Nat × Nat)) (sh : Int), Wf M I ∧ I H ∧ HasBag M I b ∧ vs = [.ref b, c, .int sh] ∧ Rep K M H c (.lst (fr.map eC)) ∧ FrOk fr ∧ 1 ≤ fr.length ∧ fr.length ≤ 12 ∧ ∀ t H', Rw fr t → Ex M H H' → I H' → Q (.str (T t)) H'
theorem ok_seed (B : Bl mg) (G1 : Df P w K mg base 1 "_law_draw" ["_law_bag_here", "_law_top"] [] (spDraw K)) : Bok P w K mg base 2 "_law_seed" s__law_seed ["_law_bag_here", "_law_frame_here", "_law_share"] (spSeed K) := by
  refine Bok.mk sc__law_seed (fun vs H Q E h => ?_) (fun f cdv A outer s H vs Q E hr h => ⟨_, w__law_seed B G1 hr, ?_⟩)
  · obtain ⟨M, I, b, c, fr, sh, _, _, _, rfl, _⟩ := h
    rfl
  · obtain ⟨M, I, b, c, fr, sh, hw, hI, hB, rfl, hc, hfr, hf1, hf2, q⟩ := h
    unfold t__law_seed
    refine st_eq (σ' := [some (.ref b), some c, some (.int sh), none, none, none, none, none, none]) rfl ?_
    walk_at "sx"
    refine ⟨M, I, b, _, hw, hI, hB, rfl, by decide, by decide, fun k1 H1 _ e1 i1 => ?_⟩
    walk_at "sx"
    generalize decide (((k1 : Nat) : Int) = 15) = full
    refine len_R (hc.ex e1) (.inl rfl) ?_
    rw [List.length_map]
    walk_at "sx"
    refine ⟨M, I, b, _, hw, i1, hB, rfl, by omega, by omega, fun sp H2 hsp e2 i2 => ?_⟩
    have hsp : sp < fr.length := by omega
    have e02 := e1.trans e2
    walk_at "sx"
    dsimp only [List.set_cons_zero, List.set_cons_succ]
    refine len_R (hc.ex e02) (.inl rfl) ?_
    rw [List.length_map]
    walk_at "sx"
    refine ⟨_, rfl, by omega, by omega, ?_⟩
    rw [Int.toNat_natCast]
    refine for_rng (fun k σ H3 => ∃ t u6 u7 u8, σ = [some (.ref b), some c, some (.int sh), some (.bl full), some (.int (sp : Nat)), some (.str (T t)), u6, u7, u8] ∧ t.length = k ∧ (∀ (j d : Nat) (p : List Nat × Nat), t[j]? = some d → fr[j]? = some p → d ∈ sgs p.2) ∧ (sp < k → Mk0 t sp) ∧ I H3 ∧ Ex M H2 H3)
      ⟨[], _, _, _, rfl, rfl, (fun j d p h => by simp at h), (fun h => absurd h (by omega)), i2, Ex.refl _⟩ ?_ ?_
    · rintro k σ H3 hk ⟨t, u6, u7, u8, rfl, hl, hs, hm, i3, e3⟩
      dsimp only [List.set_cons_zero, List.set_cons_succ]
      have hp : fr[k]? = some fr[k] := by simp [hk]
      have ok := hfr fr[k] (List.getElem_mem _)
      walk_at "sx"
      rw [Int.zero_add]
      refine ix_R (n := k) ((hc.ex e02).ex e3) (.inl rfl) (by rw [List.getElem?_map, hp]; rfl) fun v4 r4 => ?_
      walk_at "sx"
      refine ix_R (n := 1) r4 (.inr rfl) rfl fun v5 r5 => ?_
      cases rep_int r5
      walk_at "sx"
      refine ⟨M, I, b, _, hw, i3, hB, rfl, by omega, by omega, fun d H4 hd e4 i4 => ?_⟩
      have hd : d < fr[k].2 := by omega
      refine ix_T (n := d) (z := 48 + d) (szOk (by decide)) (d4_get (by omega)) ?_
      with_reducible refine gs_name ?_
      with_reducible refine sx_seq ?_
      dsimp only [List.set_cons_zero, List.set_cons_succ]
      with_reducible refine sx_asgJ (fun v H' => ∃ bl, v = .bl bl ∧ (k = sp → bl = false) ∧ I H' ∧ Ex M H4 H') (fun Q' hQ => ?_) ?_
      · walk_at "sx"
        cases full with
        | true =>
          walk_at "sx"
          exact hQ _ _ ⟨false, rfl, fun _ => rfl, i4, Ex.refl _⟩
        | false =>
          walk_at "sx"
          refine ifB (fun h => ?_) (fun h => ?_)
          · walk_at "sx"
            refine ⟨M, I, b, _, hw, i4, hB, rfl, by decide, by decide, fun d2 H5 _ e5 i5 => ?_⟩
            walk_at "sx"
            refine hQ _ _ ⟨_, rfl, fun e => ?_, i5, e5⟩
            subst e
            simp at h
          · walk_at "sx"
            exact hQ _ _ ⟨false, rfl, fun _ => rfl, i4, Ex.refl _⟩
      · rintro _ H5 ⟨bl, rfl, hbl, i5, e5⟩
        walk_at "sx"
        refine ⟨bl, rfl, ?_⟩
        have fin : ∀ ch, ch ∈ sgs fr[k].2 → (k = sp → ch ≠ 46) → ∃ t' u6 u7 u8, [some (V.ref b), some c, some (.int sh), some (.bl full), some (.int (sp : Nat)), some (.str (T (t ++ [ch]))), some (.int (k : Nat)), some (.str (T [48 + d])), some (.bl bl)] = [some (.ref b), some c, some (.int sh), some (.bl full), some (.int (sp : Nat)), some (.str (T t')), u6, u7, u8] ∧ t'.length = k + 1 ∧ (∀ (j d : Nat) (p : List Nat × Nat), t'[j]? = some d → fr[j]? = some p → d ∈ sgs p.2) ∧ (sp < k + 1 → Mk0 t' sp) ∧ I H5 ∧ Ex M H2 H5 := by
          intro ch hch hsp2
          refine ⟨t ++ [ch], _, _, _, rfl, by simp [hl], fun j d p h1 h2 => ?_, fun hlt => ?_, i5, e3.trans (e4.trans e5)⟩
          · by_cases hj : j < t.length
            · rw [List.getElem?_append_left hj] at h1
              exact hs j d p h1 h2
            · have hj2 : j = k := by
                have := (List.getElem?_eq_some_iff.mp h1).1
                simp at this
                omega
              subst hj2
              rw [List.getElem?_append_right (by omega), show j - t.length = 0 by omega] at h1
              cases h1
              rw [hp] at h2
              cases h2
              exact hch
          · by_cases hlt2 : sp < k
            · obtain ⟨c2, h1, h2⟩ := hm hlt2
              exact ⟨c2, by rw [List.getElem?_append_left (by omega)]; exact h1, h2⟩
            · have e : sp = k := by omega
              exact ⟨ch, by rw [List.getElem?_append_right (by omega), show sp - t.length = 0 by omega]; rfl, hsp2 e.symm⟩
        cases bl with
        | true =>
          walk_at "sx"
          exact fin 46 (sgs_dot _) fun e => absurd (hbl e) (by decide)
        | false =>
          walk_at "sx"
          exact fin (48 + d) (sgs_k hd ok.2.1) fun _ => by omega
    · rintro σ H3 ⟨t, u6, u7, u8, rfl, hl, hs, hm, i3, e3⟩
      walk_at "sx"
      exact q t H3 ⟨isRow_iff.mpr ⟨hl, hs⟩, sp, hm hsp⟩ (e02.trans e3) i3
def spMend (K : PySem.W.Frag) : Sp := fun vs H Q _ => ∃ (M : Addr → Prop) (I : Hp → Prop) (c y : V) (fr : List (List Nat × Nat)) (S : List (List Nat)), Wf M I ∧ I H ∧ vs = [c, y] ∧ Rep K M H c (.lst (fr.map eC)) ∧ FrOk fr ∧ fr.length ≤ 12 ∧ Rep K M H y (.lst (S.map eS)) ∧ S ≠ [] ∧ S.length ≤ 20 ∧ (∀ s ∈ S, Rw fr s) ∧ S.Nodup ∧
  ∀ y' S' H', GoodS fr S' → S'.length = S.length → Rep K M H' y' (.lst (S'.map eS)) → Ex M H H' → I H' → Q y' H'
theorem ok_mended (B : Bl mg) : Bok P w K mg base 1 "_law_mended" s__law_mended ["_law_frame_here", "_law_sown"] (spMend K) := by
  refine Bok.mk sc__law_mended (fun vs H Q E h => ?_) (fun f cdv A outer s H vs Q E hr h => ⟨_, w__law_mended B hr, ?_⟩)
  · obtain ⟨M, I, c, y, fr, S, _, _, rfl, _⟩ := h
    rfl
  · obtain ⟨M, I, c, y, fr, S, hw, hI, rfl, hc, hfr, hf, hy, hne, hSl, hS, hnd, q⟩ := h
    obtain ⟨S0, z, rfl⟩ : ∃ S0 z, S = S0 ++ [z] := ⟨S.dropLast, S.getLast hne, (List.dropLast_concat_getLast hne).symm⟩
    have hy2 : Rep K M H y (.lst (S0.map eS ++ [eS z])) := by simpa using hy
    have hz : Rw fr z := hS z (by simp)
    have hnd0 := List.nodup_append.mp hnd
    have lnS : ∀ s ∈ S0 ++ [z], s.length = fr.length := fun s h => isRow_len (hS s h).1
    unfold t__law_mended
    refine st_eq (σ' := [some c, some y, none, none, none]) rfl ?_
    walk_at "sx"
    refine ix_last hy2 fun v1 r1 => ?_
    cases rep_str r1
    walk_at "sx"
    refine len_R hc (.inl rfl) ?_
    rw [List.length_map]
    walk_at "sx"
    refine ⟨_, rfl, by omega, by omega, ?_⟩
    rw [Int.toNat_natCast]
    refine for_rng (fun k σ H3 => ∃ t u3, σ = [some c, some y, some (.str (T t)), u3, none] ∧ isRow fr t = true ∧ (∀ j, Mk0 z j → Mk0 t j) ∧ t ∉ S0 ∧ (∀ j, j < k → ∃ s ∈ S0 ++ [t], Mk0 s j) ∧ I H3 ∧ Ex M H H3)
      ⟨z, _, rfl, hz.1, (fun _ h => h), (fun h => hnd0.2.2 z h z (by simp) rfl), (fun j h => absurd h (by omega)), hI, Ex.refl _⟩ ?_ ?_
    · rintro k σ H3 hk ⟨t, u3, rfl, hrow, hzt, hnt, hall, i3, e3⟩
      dsimp only [List.set_cons_zero, List.set_cons_succ]
      have htl := isRow_len hrow
      have hp : fr[k]? = some fr[k] := by simp [hk]
      have ok := hfr fr[k] (List.getElem_mem _)
      rw [Int.zero_add]
      walk_at "sx"
      refine lc_srcM (as := S0 ++ [z]) (enc := eS) (fun s => .bl (decide (s.getD k 46 = 46))) hw i3 (hy.ex e3) rfl (szOk (by omega)) (fun _ => rfl) ?_ ?_
      · intro L acc k2 s v H6 hL ha rv wf hi ex Qe qe
        cases rep_str rv
        have hsl := lnS s (List.mem_of_getElem? ha)
        walk_at "sx"
        refine ix_T (z := s.getD k 46) (szOk (by omega)) (by simp [List.getD_eq_getElem?_getD, show k < s.length by omega]) ?_
        walk_at "sx"
        (try rw [dec1])
        exact qe _ _ (.bl _) hi (Ex.refl _)
      intro y4 H4 r4 e4 i4
      walk_at "sx"
      refine all_M (as := S0 ++ [z]) (fun s => decide (s.getD k 46 = 46)) r4 ?_
      walk_at "sx"
      refine ifB (fun h => ?_) (fun h => ?_)
      · walk_at "sx"
        refine sl_Tto (n := k) (szOk (by omega)) ?_
        walk_at "sx"
        refine ix_R (n := k) (hc.ex (e3.trans e4)) (.inl rfl) (by rw [List.getElem?_map, hp]; rfl) fun v5 r5 => ?_
        walk_at "sx"
        refine ix_R (n := 1) r5 (.inr rfl) rfl fun v6 r6 => ?_
        cases rep_int r6
        walk_at "sx"
        have en : ((fr[k].2 : Nat) : Int) - 1 = ((fr[k].2 - 1 : Nat) : Int) := by omega
        rw [en]
        refine ix_T (n := fr[k].2 - 1) (z := 48 + (fr[k].2 - 1)) (szOk (by decide)) (d4_get (by omega)) ?_
        walk_at "sx"
        have ek : ((k : Nat) : Int) + 1 = ((k + 1 : Nat) : Int) := by omega
        rw [ek]
        refine sl_Tfrom (n := k + 1) (szOk (by omega)) ?_
        refine add_TT (szOk (by simp; omega)) ?_
        walk_at "sx"
        have hk2 : k < t.length := by omega
        have hch : 48 + (fr[k].2 - 1) ≠ 46 := by omega
        refine ⟨setAt t k (48 + (fr[k].2 - 1)), _, rfl, setAt_row hrow hp (sgs_k (by omega) ok.2.1), fun j hj => ?_, fun hm => ?_, fun j hj => ?_, i4, e3.trans e4⟩
        · by_cases e : j = k
          · subst e; exact mk_set hk2 hch
          · exact mk_set2 hk2 e (hzt j hj)
        · have h1 := List.all_eq_true.mp h _ (List.mem_append_left _ hm)
          obtain ⟨d, g1, g2⟩ := mk_set (l := t) (c := 48 + (fr[k].2 - 1)) hk2 hch
          have h2 : (setAt t k (48 + (fr[k].2 - 1))).getD k 46 = 46 := of_decide_eq_true h1
          rw [List.getD_eq_getElem?_getD, g1] at h2
          exact g2 h2
        · by_cases e : j = k
          · subst e
            exact ⟨_, List.mem_append_right _ (List.mem_singleton.mpr rfl), mk_set hk2 hch⟩
          · obtain ⟨s, hs, hm⟩ := hall j (by omega)
            rcases List.mem_append.mp hs with hs | hs
            · exact ⟨s, List.mem_append_left _ hs, hm⟩
            · rw [List.mem_singleton.mp hs] at hm
              exact ⟨_, List.mem_append_right _ (List.mem_singleton.mpr rfl), mk_set2 hk2 e hm⟩
      · walk_at "sx"
        refine ⟨t, _, rfl, hrow, hzt, hnt, fun j hj => ?_, i4, e3.trans e4⟩
        by_cases e : j = k
        · subst e
          obtain ⟨s, hs, hne⟩ := List.all_eq_false.mp h
          have hsl := lnS s hs
          have hmk : Mk0 s j := by
            obtain ⟨d, hd⟩ := get_some (t := s) (k := j) (by omega)
            exact ⟨d, hd, fun e => hne (decide_eq_true (by rw [List.getD_eq_getElem?_getD, hd]; exact e))⟩
          rcases List.mem_append.mp hs with hs | hs
          · exact ⟨s, List.mem_append_left _ hs, hmk⟩
          · rw [List.mem_singleton.mp hs] at hmk
            exact ⟨t, by simp, hzt j hmk⟩
        · exact hall j (by omega)
    · rintro σ H3 ⟨t, u3, rfl, hrow, hzt, hnt, hall, i3, e3⟩
      walk_at "sx"
      refine sl_Lbut hw i3 (hy2.ex e3) fun v4 H4 e4 i4 r4 => ?_
      walk_at "sx"
      refine lst_end (K := K) (ds := [eS t]) hw i4 (.cons (.str _) .nil) (szOk (by simp)) fun v5 H5 e5 i5 r5 => ?_
      refine add_LL hw i5 (r4.ex e5) r5 (szOk (by simp at *; omega)) fun v6 H6 e6 i6 r6 => ?_
      refine q v6 (S0 ++ [t]) H6 ⟨fun s hs => ?_, ?_, fun k hk => hall k hk⟩ (by simp) (by simpa using r6) (e3.trans (e4.trans (e5.trans e6))) i6
      · rcases List.mem_append.mp hs with hs | hs
        · exact hS s (List.mem_append_left _ hs)
        · rw [List.mem_singleton.mp hs]
          obtain ⟨j, hj⟩ := hz.2
          exact ⟨hrow, j, hzt j hj⟩
      · exact List.nodup_append.mpr ⟨hnd0.1, by simp, fun a ha b hb => by rw [List.mem_singleton.mp hb]; exact fun e => hnt (by rw [← e]; exact ha)⟩
def spOver (K : PySem.W.Frag) : Sp := fun vs H Q _ => ∃ (M : Addr → Prop) (I : Hp → Prop) (l m : List Nat), Wf M I ∧ I H ∧ vs = [.str (T l), .str (T m)] ∧ m.length = l.length ∧ l.length ≤ 1000 ∧ ∀ H', Ex M H H' → I H' → Q (.str (T (lay l m))) H'
theorem ok_over2 (B : Bl mg) : Bok P w K mg base 1 "_law_over" s__law_over ["_law_one", "_law_two"] (spOver K) := by
  refine Bok.mk sc__law_over (fun vs H Q E h => ?_) (fun f cdv A outer s H vs Q E hr h => ⟨_, w__law_over B hr, ?_⟩)
  · obtain ⟨M, I, l, m, _, _, rfl, _⟩ := h
    rfl
  · obtain ⟨M, I, l, m, hw, hI, rfl, hm, hl, q⟩ := h
    unfold t__law_over
    refine st_eq (σ' := [some (.str (T l)), some (.str (T m)), none]) rfl ?_
    walk_at "sx"
    refine ⟨_, rfl, by omega, by omega, ?_⟩
    rw [Int.toNat_natCast]
    refine lc_rngF (K := K) (fun _ => true) (fun k => .str (T [if l.getD k 46 = 46 then m.getD k 46 else l.getD k 46])) hw hI (szOk (by omega)) (fun _ => rfl) ?_ ?_ ?_
    · intro L acc k H3 hL hk wf hi ex Qt qt
      walk_at "sx"
      exact qt _ hi (Ex.refl _)
    · intro L acc k H3 hL hk _ wf hi ex Qe qe
      rw [Int.zero_add]
      walk_at "sx"
      refine ix_T (n := k) (z := l.getD k 46) (szOk (by omega)) (by simp [List.getD_eq_getElem?_getD, hk]) ?_
      walk_at "sx"
      (try rw [dec1])
      by_cases e : l.getD k 46 = 46
      · rw [if_pos e] at qe
        rw [show (!decide (l.getD k 46 = 46)) = false by rw [decide_eq_true e]; rfl]
        walk_at "sx"
        refine ix_T (n := k) (z := m.getD k 46) (szOk (by omega)) (by simp [List.getD_eq_getElem?_getD, show k < m.length by omega]) ?_
        exact qe _ _ (.str _) hi (Ex.refl _)
      · rw [if_neg e] at qe
        rw [show (!decide (l.getD k 46 = 46)) = true by rw [decide_eq_false e]; rfl]
        walk_at "sx"
        refine ix_T (n := k) (z := l.getD k 46) (szOk (by omega)) (by simp [List.getD_eq_getElem?_getD, hk]) ?_
        exact qe _ _ (.str _) hi (Ex.refl _)
    · intro y H3 r3 e3 i3
      rw [filter_tt] at r3
      refine join_1 (as := List.range l.length) (fun k => if l.getD k 46 = 46 then m.getD k 46 else l.getD k 46) r3 (by simp; omega) ?_
      have e : (List.range l.length).map (fun k => if l.getD k 46 = 46 then m.getD k 46 else l.getD k 46) = lay l m := by
        refine List.ext_getElem (by rw [lay_len hm]; simp) fun k h1 h2 => ?_
        have hk : k < l.length := by simpa using h1
        have hk2 : k < m.length := by omega
        have g := lay_get (t := l) (u := m) (k := k) (a := l[k]) (b := m[k]) (by simp [hk]) (by simp [hk2])
        rw [List.getElem?_eq_getElem h2] at g
        rw [Option.some.inj g]
        simp [List.getD_eq_getElem?_getD, hk, hk2]
      rw [e]
      exact q H3 e3 i3
end


/-! ### what few seeds make -/
theorem lay_blank_l : ∀ {n : Nat} {b : List Nat}, b.length = n → lay (List.replicate n 46) b = b
  | 0, b, h => by rw [List.length_eq_zero_iff.mp h]; rfl
  | n + 1, c :: b, h => by
    have e1 : lay (List.replicate (n + 1) 46) (c :: b) = (if 46 = 46 then c else 46) :: lay (List.replicate n 46) b := rfl
    rw [e1, if_pos rfl, lay_blank_l (by simpa using h)]
  | n + 1, [], h => by simp at h
section
variable {S F : List (List Nat)} {n : Nat}
theorem fold_len (hS : ∀ s ∈ S, s.length = n) : ∀ l : List (List Nat), (∀ s ∈ l, s ∈ S) → (l.foldr lay (List.replicate n 46)).length = n
  | [], _ => by simp
  | a :: l, h => by
    have ih := fold_len hS l fun s hs => h s (List.mem_cons_of_mem _ hs)
    have ha := hS a (h a List.mem_cons_self)
    rw [List.foldr_cons, lay_len (by omega)]
    exact ha
theorem lay_filter (hS : ∀ s ∈ S, s.length = n) {s : List Nat} (hs : s.length = n) : ∀ l : List (List Nat), (∀ t ∈ l, t ∈ S) → lay s (l.foldr lay (List.replicate n 46)) = lay s ((l.filter fun t => !decide (t = s)).foldr lay (List.replicate n 46))
  | [], _ => rfl
  | t :: l, h => by
    have h2 : ∀ t ∈ l, t ∈ S := fun t ht => h t (List.mem_cons_of_mem _ ht)
    have ih := lay_filter hS hs l h2
    have hl := fold_len hS l h2
    have hl2 := fold_len hS (l.filter fun t => !decide (t = s)) fun t ht => h2 t (List.mem_filter.mp ht).1
    have ht := hS t (h t List.mem_cons_self)
    rw [List.filter_cons]
    by_cases e : t = s
    · subst e
      rw [show (!decide (t = t)) = false by simp, if_neg Bool.false_ne_true, ← ih, List.foldr_cons]
      rw [← lay_ass rfl (by omega), lay_self]
    · rw [show (!decide (t = s)) = true by simp [e], if_pos rfl, List.foldr_cons, List.foldr_cons]
      generalize l.foldr lay (List.replicate n 46) = u at *
      generalize (l.filter fun t => !decide (t = s)).foldr lay (List.replicate n 46) = u' at *
      have l1 : (lay t u).length = n := by rw [lay_len (by omega)]; exact ht
      have l2 : (lay t u').length = n := by rw [lay_len (by omega)]; exact ht
      refine ext_D (by rw [lay_len (by omega), lay_len (by omega)]) fun k => ?_
      have hk := congrArg (fun z => z.getD k 46) ih
      have hk : (lay s u).getD k 46 = (lay s u').getD k 46 := hk
      rw [lay_D (by omega), lay_D (by omega)] at hk
      rw [lay_D (by omega), lay_D (by omega), lay_D (by omega), lay_D (by omega)]
      by_cases e1 : s.getD k 46 = 46
      · rw [if_pos e1, if_pos e1] at hk
        rw [if_pos e1, if_pos e1, hk]
      · rw [if_neg e1, if_neg e1]
theorem cl_seq (hS : ∀ s ∈ S, s.length = n) {r : List Nat} (h : Cl S n r) : ∃ l : List (List Nat), (∀ s ∈ l, s ∈ S) ∧ l.Nodup ∧ r = l.foldr lay (List.replicate n 46) := by
  induction h with
  | base => exact ⟨[], (fun _ h => nomatch h), List.nodup_nil, rfl⟩
  | @step s r hs _ ih =>
    obtain ⟨l, h1, h2, rfl⟩ := ih
    refine ⟨s :: l.filter (fun t => !decide (t = s)), fun t ht => ?_, ?_, ?_⟩
    · rcases List.mem_cons.mp ht with rfl | ht
      · exact hs
      · exact h1 t (List.mem_filter.mp ht).1
    · refine List.nodup_cons.mpr ⟨fun hm => ?_, h2.sublist List.filter_sublist⟩
      have := (List.mem_filter.mp hm).2
      simp at this
    · rw [lay_filter hS (hS s hs) l h1, List.foldr_cons]
def seq3 (S : List (List Nat)) : List (List (List Nat)) := [[]] ++ (S.map fun a => [a]) ++ (S.flatMap fun a => S.map fun b => [a, b]) ++ (S.flatMap fun a => S.flatMap fun b => S.map fun c => [a, b, c])
theorem flat_eq {α β : Type} {f : α → List β} {m : Nat} (h : ∀ a, (f a).length = m) : ∀ l : List α, (l.flatMap f).length = l.length * m
  | [] => by simp
  | a :: l => by
    rw [List.flatMap_cons, List.length_append, flat_eq h l, h a, List.length_cons, Nat.succ_mul]
    omega
theorem few_seeds (hS : ∀ s ∈ S, s.length = n) (hl : S.length ≤ 3) (hF : F.Nodup) (hc : ∀ r ∈ F, Cl S n r) : F.length ≤ 40 := by
  have h1 : ∀ r ∈ F, r ∈ (seq3 S).map fun l => l.foldr lay (List.replicate n 46) := by
    intro r hr
    obtain ⟨l, g1, g2, rfl⟩ := cl_seq hS (hc r hr)
    have g3 := nodup_len g2 g1
    refine List.mem_map.mpr ⟨l, ?_, rfl⟩
    unfold seq3
    match l, g1, g3 with
    | [], _, _ => simp
    | [a], g, _ =>
      have ha := g a (by simp)
      simp [ha]
    | [a, b], g, _ =>
      have ha := g a (by simp)
      have hb := g b (by simp)
      simp [ha, hb]
    | [a, b, c], g, _ =>
      have ha := g a (by simp)
      have hb := g b (by simp)
      have hc := g c (by simp)
      exact List.mem_append_right _ (List.mem_flatMap.mpr ⟨a, ha, List.mem_flatMap.mpr ⟨b, hb, List.mem_map.mpr ⟨c, hc, rfl⟩⟩⟩)
    | _ :: _ :: _ :: _ :: l, _, g3 => exact absurd g3 (by simp; omega)
  have h2 := nodup_len hF h1
  have h3 : (seq3 S).length ≤ 40 := by
    unfold seq3
    rw [List.length_append, List.length_append, List.length_append, flat_eq (fun a => by rw [List.length_map]), flat_eq (fun a => flat_eq (fun b => by rw [List.length_map]) S)]
    simp only [List.length_map, List.length_cons, List.length_nil]
    have hm : S.length = 0 ∨ S.length = 1 ∨ S.length = 2 ∨ S.length = 3 := by omega
    rcases hm with e | e | e | e <;> rw [e] <;> decide
  rw [List.length_map] at h2
  omega
theorem cl_right (hS : ∀ s ∈ S, s.length = n) (hF : ∀ r ∈ F, r.length = n) (h : ∀ r ∈ F, ∀ s ∈ S, lay r s ∈ F) {u : List Nat} (hu : Cl S n u) : ∀ r ∈ F, lay r u ∈ F := by
  induction hu with
  | base =>
    intro r hr
    have := hF r hr
    subst this
    rw [lay_blank]
    exact hr
  | @step s u hs hu ih =>
    intro r hr
    have h1 := hF r hr
    have h2 := hS s hs
    have h3 := hu.len hS
    rw [← lay_ass (by omega) (by omega)]
    exact ih _ (h r hr s hs)
structure CloOf (S : List (List Nat)) (n : Nat) (X : List (List Nat)) : Prop where
  nd : X.Nodup
  len : X.length ≤ 40
  mem : ∀ r, r ∈ X ↔ Cl S n r
  fst : X[0]? = some (List.replicate n 46)
end
section
variable {P : Program} {w : World} {K : PySem.W.Frag} {mg : Str → Option Value} {base : Heap}
def spClosed (K : PySem.W.Frag) : Sp := fun vs H Q _ => ∃ (M : Addr → Prop) (I : Hp → Prop) (y : V) (S : List (List Nat)) (n : Nat), Wf M I ∧ I H ∧ vs = [y, .int 40] ∧ Rep K M H y (.lst (S.map eS)) ∧ S ≠ [] ∧ S.length ≤ 20 ∧ (∀ s ∈ S, s.length = n) ∧ n ≤ 1000 ∧
  (∀ H', 3 < S.length → Ex M H H' → I H' → Q .non H') ∧ ∀ v X H', CloOf S n X → Rep K M H' v (.lst (X.map eS)) → Ex M H H' → I H' → Q v H'
abbrev sV (l : List Nat) : V := .str (T l)
theorem ok_closed (B : Bl mg) (G1 : Df P w K mg base 1 "_law_over" ["_law_one", "_law_two"] [] (spOver K)) : Bok P w K mg base 2 "_law_closed" s__law_closed ["_law_sown", "_law_cap"] (spClosed K) := by
  refine Bok.mk sc__law_closed (fun vs H Q E h => ?_) (fun f cdv A outer s H vs Q E hr h => ⟨_, w__law_closed B G1 hr, ?_⟩)
  · obtain ⟨M, I, y, S, n, _, _, rfl, _⟩ := h
    rfl
  · obtain ⟨M, I, y, S, n, hw, hI, rfl, hy, hne, hSl, hS, hn, q1, q2⟩ := h
    unfold t__law_closed
    refine st_eq (σ' := [some y, some (.int 40), none, none, none, none]) rfl ?_
    walk_at "sx"
    obtain ⟨s0, S1, rfl⟩ : ∃ a l, S = a :: l := by cases S with
      | nil => exact absurd rfl hne
      | cons a l => exact ⟨a, l, rfl⟩
    refine ix_R (n := 0) hy (.inl rfl) rfl fun v1 r1 => ?_
    cases rep_str r1
    have hs0 := hS s0 List.mem_cons_self
    walk_at "sx"
    refine mul_Ti (by omega) (by decide) ?_
    rw [show (List.replicate s0.length [46]).flatten = List.replicate n 46 by rw [hs0, List.flatten_replicate_singleton]]
    generalize hSe : s0 :: S1 = S at *
    with_reducible refine sx_nil ?_
    refine lst_mut hw hI (by show 1 ≤ sizeLine; decide) fun p H1 hp np e1 w1 i1 => ?_
    have hyp := hy.off hp
    walk_at "sx"
    refine ⟨_, rfl, by decide, by decide, ?_⟩
    refine for_rng (n := 41) (fun k σ H3 => ∃ (F : List (List Nat)) (u3 u4 u5 : Option V), σ = [some y, some (.int 40), some (.ref p), u3, u4, u5] ∧ F.Nodup ∧ F.length ≤ 40 ∧ F[0]? = some (List.replicate n 46) ∧ (∀ r ∈ F, Cl S n r) ∧ (∀ (i : Nat) (r : List Nat), i < k → F[i]? = some r → ∀ s ∈ S, lay r s ∈ F) ∧ Iq I p (.lst (F.map sV)) H3 ∧ Ex (Mq M p) H1 H3)
      ⟨[List.replicate n 46], _, _, _, rfl, by simp, by simp, rfl, (fun r hr => by rw [List.mem_singleton.mp hr]; exact .base), (fun i r h => absurd h (by omega)), i1, Ex.refl _⟩ ?_ ?_
    · rintro k σ H3 hk ⟨F, u3, u4, u5, rfl, hnd, hFl, hF0, hFc, hcl, i3, e3⟩
      dsimp only [List.set_cons_zero, List.set_cons_succ]
      rw [Int.zero_add]
      walk_at "sx"
      refine len_raw i3.2 ?_
      rw [List.length_map]
      walk_at "sx"
      refine ifB (fun h => ?_) (fun h => ?_)
      · have hk2 : k < F.length := by have := of_decide_eq_true h; omega
        obtain ⟨r, hr⟩ : ∃ r, F[k]? = some r := ⟨F[k], by simp [hk2]⟩
        have hrF := List.mem_of_getElem? hr
        have hrc := hFc r hrF
        have hrl := hrc.len hS
        walk_at "sx"
        refine for_src (as := S) (enc := eS) ((hyp.ex e1).ex e3) rfl (fun j σ H4 => ∃ (F2 : List (List Nat)) (u4 u5 : Option V), σ = [some y, some (.int 40), some (.ref p), some (.int (k : Nat)), u4, u5] ∧ F2.Nodup ∧ F2.length ≤ 40 + j ∧ (∀ (i : Nat) (r : List Nat), F[i]? = some r → F2[i]? = some r) ∧ (∀ r ∈ F2, Cl S n r) ∧ (∀ s ∈ S.take j, lay r s ∈ F2) ∧ Iq I p (.lst (F2.map sV)) H4 ∧ Ex (Mq M p) H3 H4)
          ⟨F, _, _, rfl, hnd, by omega, (fun _ _ h => h), hFc, (fun s h => by simp at h), i3, Ex.refl _⟩ (fun k σ H h => by obtain ⟨_, _, _, _, _, _, _, _, _, _, h⟩ := h; exact h) ?_ ?_
        · rintro j s v σ H4 hs ⟨F2, u4, u5, rfl, hnd2, hl2, hpre, hc2, hin, i4, e4⟩ rv
          cases rep_str rv
          have hsS := List.mem_of_getElem? hs
          have hsl := hS s hsS
          have hj : j < S.length := (List.getElem?_eq_some_iff.mp hs).1
          have w4 := hw.add p (.lst (F2.map sV))
          dsimp only [List.set_cons_zero, List.set_cons_succ]
          walk_at "sx"
          refine ix_raw (v := sV r) i4.2 (atI_nat' (by rw [List.getElem?_map, hpre _ _ hr]; rfl)) ?_
          walk_at "sx"
          refine ⟨_, _, r, s, w4, i4, rfl, by omega, by omega, fun H5 e5 i5 => ?_⟩
          walk_at "sx"
          have hin5 : Rep K M H5 (.ref p) (.lst (F2.map eS)) := .lst i5.2 np (reps_S F2)
          refine ni_L (ls := F2) hin5 (.inl rfl) ?_
          walk_at "sx"
          have hcl2 : Cl S n (lay r s) := cl_lay hS hrc (cl_self hS hsS)
          refine ifB (fun h => ?_) (fun h => ?_)
          · have hni : lay r s ∉ F2 := by simpa using h
            walk_at "sx"
            refine ⟨tyv_l i5.2, ?_⟩
            walk_at "sx"
            refine app_mut hw np i5 (by rw [List.length_map]; omega) fun H6 e6 w6 i6 => ?_
            rw [map_snocS] at i6
            refine ⟨F2 ++ [lay r s], _, _, rfl, List.nodup_append.mpr ⟨hnd2, by simp, fun a ha b hb => by rw [List.mem_singleton.mp hb]; exact fun e => hni (by rw [← e]; exact ha)⟩, by simp; omega, fun i r h => get_app (hpre i r h), fun x hx => ?_, fun x hx => ?_, i6, e4.trans (e5.trans e6)⟩
            · rcases List.mem_append.mp hx with hx | hx
              · exact hc2 x hx
              · rw [List.mem_singleton.mp hx]; exact hcl2
            · rw [take_snoc hs] at hx
              rcases List.mem_append.mp hx with hx | hx
              · exact List.mem_append_left _ (hin x hx)
              · rw [List.mem_singleton.mp hx]; simp
          · have hi : lay r s ∈ F2 := by simpa using h
            walk_at "sx"
            refine ⟨F2, _, _, rfl, hnd2, by omega, hpre, hc2, fun x hx => ?_, i5, e4.trans e5⟩
            rw [take_snoc hs] at hx
            rcases List.mem_append.mp hx with hx | hx
            · exact hin x hx
            · rw [List.mem_singleton.mp hx]; exact hi
        · rintro σ H4 ⟨F2, u4, u5, rfl, hnd2, hl2, hpre, hc2, hin, i4, e4⟩
          rw [List.take_length] at hin
          walk_at "sx"
          refine len_raw i4.2 ?_
          rw [List.length_map]
          walk_at "sx"
          refine ifB (fun h => ?_) (fun h => ?_)
          · walk_at "sx"
            refine q1 H4 ?_ ((e1.trans (e3.trans e4)).shut hp) i4.1
            apply Classical.byContradiction
            intro hle
            have := few_seeds hS (by omega) hnd2 hc2
            have := of_decide_eq_true h
            omega
          · have h := of_decide_eq_false h
            walk_at "sx"
            refine ⟨F2, _, _, _, rfl, hnd2, by omega, hpre _ _ hF0, hc2, fun i x hi hx s hs => ?_, i4, e3.trans e4⟩
            by_cases e : i = k
            · subst e
              rw [hpre _ _ hr] at hx
              cases hx
              exact hin s hs
            · have hi2 : i < F.length := by omega
              obtain ⟨x2, hx2⟩ : ∃ x, F[i]? = some x := ⟨F[i], by simp [hi2]⟩
              have := hpre _ _ hx2
              rw [this] at hx
              cases hx
              obtain ⟨m, hm⟩ := List.mem_iff_getElem?.mp (hcl i x (by omega) hx2 s hs)
              exact List.mem_of_getElem? (hpre _ _ hm)
      · have h := of_decide_eq_false h
        walk_at "sx"
        refine ⟨F, _, _, _, rfl, hnd, hFl, hF0, hFc, fun i x hi hx s hs => ?_, i3, e3⟩
        have := (List.getElem?_eq_some_iff.mp hx).1
        exact hcl i x (by omega) hx s hs
    · rintro σ H3 ⟨F, u3, u4, u5, rfl, hnd, hFl, hF0, hFc, hcl, i3, e3⟩
      walk_at "sx"
      refine q2 _ F H3 ⟨hnd, hFl, fun r => ⟨hFc r, fun hr => ?_⟩, hF0⟩ (.lst i3.2 np (reps_S F)) ((e1.trans e3).shut hp) i3.1
      have hlen : ∀ r ∈ F, r.length = n := fun r hr => (hFc r hr).len hS
      have hcl2 : ∀ r ∈ F, ∀ s ∈ S, lay r s ∈ F := fun r hr s hs => by
        obtain ⟨i, hi⟩ := List.mem_iff_getElem?.mp hr
        have := (List.getElem?_eq_some_iff.mp hi).1
        exact hcl i r (by omega) hi s hs
      have := cl_right hS hlen hcl2 hr _ (List.mem_of_getElem? hF0)
      rw [lay_blank_l (hr.len hS)] at this
      exact this
end


/-! ### a band's home -/
theorem rot_perm {α : Type} (S : List α) (t : Nat) : (S.drop t ++ S.take t).Perm S := by
  have := List.perm_append_comm (l₁ := S.drop t) (l₂ := S.take t)
  rw [List.take_append_drop] at this
  exact this
theorem GoodS.perm {fr : List (List Nat × Nat)} {S S2 : List (List Nat)} (h : GoodS fr S) (p : S2.Perm S) : GoodS fr S2 where
  rw := fun s hs => h.rw s (p.mem_iff.mp hs)
  nd := p.nodup_iff.mpr h.nd
  all := fun k hk => by obtain ⟨s, hs, hm⟩ := h.all k hk; exact ⟨s, p.mem_iff.mpr hs, hm⟩
theorem CloOf.perm {S S2 X : List (List Nat)} {n : Nat} (h : CloOf S n X) (p : S2.Perm S) : CloOf S2 n X where
  nd := h.nd
  len := h.len
  mem := fun r => (h.mem r).trans ⟨fun c => c.mono fun s hs => p.mem_iff.mpr hs, fun c => c.mono fun s hs => p.mem_iff.mp hs⟩
  fst := h.fst
/-- what a band's home holds -/
structure HomeOk (fr : List (List Nat × Nat)) (S X : List (List Nat)) : Prop where
  ok : FrOk fr
  nd : (fr.map (·.1)).Nodup
  l1 : 1 ≤ fr.length
  l2 : fr.length ≤ 12
  good : GoodS fr S
  s1 : 1 ≤ S.length
  s2 : S.length ≤ 7
  clo : CloOf S fr.length X
section
variable {P : Program} {w : World} {K : PySem.W.Frag} {mg : Str → Option Value} {base : Heap}
def spHome (K : PySem.W.Frag) : Sp := fun vs H Q _ => ∃ (M : Addr → Prop) (I : Hp → Prop) (b : Addr), Wf M I ∧ I H ∧ HasBag M I b ∧ vs = [.ref b] ∧ ∀ v fr S X H', HomeOk fr S X → Rep K M H' v (.lst [.lst (fr.map eC), .lst (S.map eS), .lst (X.map eS)]) → Ex M H H' → I H' → Q v H'
theorem of_int {M : Addr → Prop} {I : Hp → Prop} {H : Hp} {b : Addr} {ns : List Nat} {x : V} {Q : VK} (hw : Wf M I) (hI : I H) (hB : HasBag M I b) (hx : Rep K M H x (.lst (ns.map fun n : Nat => .int n))) (h0 : 0 < ns.length) (h1 : ns.length ≤ 1000) (q : ∀ (n : Nat) H', n ∈ ns → Ex M H H' → I H' → Q (.int n) H') : spOf K [.ref b, x] H Q E0 := by
  refine ⟨M, I, b, x, _, _, hw, hI, hB, rfl, hx, rfl, by rw [List.length_map]; exact h0, by rw [List.length_map]; omega, fun v e H' he rv e1 i1 => ?_⟩
  obtain ⟨n, hn, rfl⟩ := List.mem_map.mp he
  cases rep_int rv
  exact q n H' hn e1 i1
theorem ok_home (B : Bl mg) (G1 : Df P w K mg base 2 "_law_closed" ["_law_sown", "_law_cap"] [] (spClosed K)) (G2 : Df P w K mg base 1 "_law_draw" ["_law_bag_here", "_law_top"] [] (spDraw K)) (G3 : Df P w K mg base 4 "_law_frame" ["_law_bag_here", "_law_count"] [] (spFrame K)) (G4 : Df P w K mg base 1 "_law_mended" ["_law_frame_here", "_law_sown"] [] (spMend K)) (G5 : Df P w K mg base 2 "_law_of" ["_law_bag_here", "_law_some"] [] (spOf K)) (G6 : Df P w K mg base 2 "_law_seed" ["_law_bag_here", "_law_frame_here", "_law_share"] [] (spSeed K)) :
    Bok P w K mg base 5 "_law_home" s__law_home ["_law_bag_here"] (spHome K) := by
  refine Bok.mk sc__law_home (fun vs H Q E h => ?_) (fun f cdv A outer s H vs Q E hr h => ⟨_, w__law_home B G1 G2 G3 G4 G5 G6 hr, ?_⟩)
  · obtain ⟨M, I, b, _, _, _, rfl, _⟩ := h
    rfl
  · obtain ⟨M, I, b, hw, hI, hB, rfl, q⟩ := h
    unfold t__law_home
    refine st_eq (σ' := [some (.ref b), none, none, none, none, none, none, none, none, none]) rfl ?_
    walk_at "sx"
    refine lst_end (K := K) (ds := [3, 4, 4, 5, 3, 5, 2, 4, 6, 5, 4, 12, 1].map fun n : Nat => D.int n) hw hI (.cons (.int _) (.cons (.int _) (.cons (.int _) (.cons (.int _) (.cons (.int _) (.cons (.int _) (.cons (.int _) (.cons (.int _) (.cons (.int _) (.cons (.int _) (.cons (.int _) (.cons (.int _) (.cons (.int _) .nil))))))))))))) (szOk (by simp)) fun v1 H1 e1 i1 r1 => ?_
    walk_at "sx"
    refine of_int hw i1 hB r1 (by simp) (by simp) fun n H2 hn e2 i2 => ?_
    have hn12 : 1 ≤ n ∧ n ≤ 12 := by
      have key : ∀ n ∈ [3, 4, 4, 5, 3, 5, 2, 4, 6, 5, 4, 12, 1], 1 ≤ n ∧ n ≤ 12 := by decide
      exact key n hn
    walk_at "sx"
    refine ⟨M, I, b, n, hw, i2, hB, rfl, hn12.2, fun c fr H3 hfl hfr hnd rc e3 i3 => ?_⟩
    walk_at "sx"
    refine lst_end (K := K) (ds := [1, 3, 1, 2, 0, 1, 0].map fun n : Nat => D.int n) hw i3 (.cons (.int _) (.cons (.int _) (.cons (.int _) (.cons (.int _) (.cons (.int _) (.cons (.int _) (.cons (.int _) .nil))))))) (szOk (by simp)) fun v4 H4 e4 i4 r4 => ?_
    walk_at "sx"
    refine of_int (ns := [1, 3, 1, 2, 0, 1, 0]) hw i4 hB r4 (by simp) (by simp) fun sh H5 _ e5 i5 => ?_
    have rc5 := (rc.ex e4).ex e5
    have e05 := e1.trans (e2.trans (e3.trans (e4.trans e5)))
    clear r1 r4 rc
    walk_at "sx"
    refine lst_mut hw i5 (by decide) fun p H6 hp np e6 w6 i6 => ?_
    have rc6 := (rc5.off hp).ex e6
    have cM : ∀ {H' : Hp}, Ex (Mq M p) H6 H' → Rep K M H' c (.lst (fr.map eC)) := fun e => (rc6.ex e).le fun _ m => .inl m
    walk_at "sx"
    dsimp only [List.set_cons_zero, List.set_cons_succ]
    refine lst_end (K := K) (M := M) (I := I) (ds := [4, 3, 5, 6, 4, 5, 2, 7, 6, 5, 1].map fun n : Nat => D.int n) hw i6.1 (.cons (.int _) (.cons (.int _) (.cons (.int _) (.cons (.int _) (.cons (.int _) (.cons (.int _) (.cons (.int _) (.cons (.int _) (.cons (.int _) (.cons (.int _) (.cons (.int _) .nil))))))))))) (szOk (by simp)) fun v7 H7 e7 i7 r7 => ?_
    walk_at "sx"
    refine of_int hw i7 hB r7 (by simp) (by simp) fun m H8 hm e8 i8 => ?_
    have hm7 : 1 ≤ m ∧ m ≤ 7 := by
      have key : ∀ n ∈ [4, 3, 5, 6, 4, 5, 2, 7, 6, 5, 1], 1 ≤ n ∧ n ≤ 7 := by decide
      exact key m hm
    have i8p : Iq I p (.lst (([] : List (List Nat)).map sV)) H8 := ⟨i8, (e7.trans e8) p _ np i6.2⟩
    have e68 : Ex (Mq M p) H6 H8 := (e7.trans e8).wide
    walk_at "sx"
    refine ⟨_, rfl, by omega, by omega, ?_⟩
    rw [Int.toNat_natCast]
    refine for_rng (fun k σ H9 => ∃ (S : List (List Nat)) (u5 u6 : Option V), σ = [some (.ref b), some c, some (.int (sh : Nat)), some (.ref p), some .non, u5, u6, none, none, none] ∧ S.Nodup ∧ S.length ≤ k ∧ (0 < k → S ≠ []) ∧ (∀ s ∈ S, Rw fr s) ∧ Iq I p (.lst (S.map sV)) H9 ∧ Ex (Mq M p) H6 H9)
      ⟨[], _, _, rfl, List.nodup_nil, by simp, (fun h => absurd h (by omega)), (fun _ h => nomatch h), i8p, e68⟩ ?_ ?_
    · rintro k σ H9 hk ⟨S, u5, u6, rfl, hSn, hSl, hS0, hSr, i9, e9⟩
      dsimp only [List.set_cons_zero, List.set_cons_succ]
      walk_at "sx"
      refine ⟨M, I, b, c, fr, sh, hw, i9.1, hB, rfl, cM e9, hfr, by omega, by omega, fun t H10 ht e10 i10 => ?_⟩
      have i10p : Iq I p (.lst (S.map sV)) H10 := ⟨i10, e10 p _ np i9.2⟩
      have e10w := e9.trans e10.wide
      walk_at "sx"
      refine ni_L (ls := S) (.lst (K := K) (M := M) i10p.2 np (reps_S S)) (.inl rfl) ?_
      walk_at "sx"
      refine ifB (fun h => ?_) (fun h => ?_)
      · have hni : t ∉ S := by simpa using h
        walk_at "sx"
        refine ⟨tyv_l i10p.2, ?_⟩
        walk_at "sx"
        refine app_mut hw np i10p (by rw [List.length_map]; omega) fun H11 e11 w11 i11 => ?_
        rw [map_snocS] at i11
        refine ⟨S ++ [t], _, _, rfl, List.nodup_append.mpr ⟨hSn, by simp, fun a ha b hb => by rw [List.mem_singleton.mp hb]; exact fun e => hni (by rw [← e]; exact ha)⟩, by simp; omega, fun _ => by simp, fun s hs => ?_, i11, e10w.trans e11⟩
        rcases List.mem_append.mp hs with hs | hs
        · exact hSr s hs
        · rw [List.mem_singleton.mp hs]; exact ht
      · have hi : t ∈ S := by simpa using h
        walk_at "sx"
        exact ⟨S, _, _, rfl, hSn, by omega, (fun _ e => by rw [e] at hi; cases hi), hSr, i10p, e10w⟩
    · rintro σ H9 ⟨S, u5, u6, rfl, hSn, hSl, hS0, hSr, i9, e9⟩
      have hSne := hS0 (by omega)
      have rp9 : Rep K M H9 (.ref p) (.lst (S.map eS)) := .lst i9.2 np (reps_S S)
      have rc9 := cM e9
      have e09 : Ex M H H9 := e05.trans ((e6.trans e9).shut hp)
      have i9 := i9.1
      clear e9 e68 cM rc6 e8 e7 e6
      walk_at "sx"
      refine lst_end (K := K) (M := M) (I := I) (ds := [7, 5, 4, 3].map fun n : Nat => D.int n) hw i9 (.cons (.int _) (.cons (.int _) (.cons (.int _) (.cons (.int _) .nil)))) (szOk (by simp)) fun v10 H10 e10 i10 r10 => ?_
      refine for_src (as := [7, 5, 4, 3]) (enc := fun n : Nat => .int n) r10 rfl (fun j σ H11 => ∃ (v4 v7 : V) (u8 : Option V), σ = [some (.ref b), some c, some (.int (sh : Nat)), some (.ref p), some v4, u5, u6, some v7, u8, none] ∧ I H11 ∧ Ex M H10 H11 ∧ ((j < 4 ∧ v4 = .non) ∨ ∃ S2 X, v4 ≠ .non ∧ GoodS fr S2 ∧ 1 ≤ S2.length ∧ S2.length ≤ 7 ∧ CloOf S2 fr.length X ∧ Rep K M H11 v7 (.lst (S2.map eS)) ∧ Rep K M H11 v4 (.lst (X.map eS))))
        ⟨_, _, _, rfl, i10, Ex.refl _, .inl ⟨by decide, rfl⟩⟩ (fun k σ H h => by obtain ⟨_, _, _, _, _, h, _⟩ := h; exact h) ?_ ?_
      · rintro j cnt v σ H11 hcnt ⟨v4, v7, u8, rfl, i11, e11, hor⟩ rv
        cases rep_int rv
        have hj : j < 4 := (List.getElem?_eq_some_iff.mp hcnt).1
        have hc7 : 3 ≤ cnt ∧ cnt ≤ 7 := by
          have key : ∀ n ∈ [7, 5, 4, 3], 3 ≤ n ∧ n ≤ 7 := by decide
          exact key cnt (List.mem_of_getElem? hcnt)
        have e9B := e10.trans e11
        dsimp only [List.set_cons_zero, List.set_cons_succ]
        rcases hor with ⟨_, rfl⟩ | ⟨S2, X, h4, hg, h1, h2, hcl, r7, r4⟩
        · walk_at "sx"
          refine ifIsT (by rfl) ?_
          walk_at "sx"
          refine sl_Lto (n := cnt) hw i11 (rp9.ex e9B) fun v12 H12 e12 i12 r12 => ?_
          rw [← List.map_take] at r12
          walk_at "sx"
          refine ⟨M, I, c, v12, fr, S.take cnt, hw, i12, rfl, rc9.ex (e9B.trans e12), hfr, by omega, r12, ?_, by rw [List.length_take]; omega, fun s hs => hSr s (List.mem_of_mem_take hs), hSn.sublist (List.take_sublist _ _), fun v13 S3 H13 hg hl3 r13 e13 i13 => ?_⟩
          · intro e
            have h0 : (S.take cnt).length = 0 := by rw [e]; rfl
            rw [List.length_take] at h0
            have := List.length_pos_iff.mpr hSne
            omega
          have hpos := List.length_pos_iff.mpr hSne
          have hl3a : S3.length = min cnt S.length := by rw [hl3, List.length_take]
          walk_at "sx"
          refine ⟨M, I, v13, S3, fr.length, hw, i13, rfl, r13, fun e => by rw [e] at hl3a; simp at hl3a; omega, by omega, fun s hs => isRow_len (hg.rw s hs).1, by omega, fun H14 h3 e14 i14 => ?_, fun v14 X H14 hcl r14 e14 i14 => ?_⟩
          · walk_at "sx"
            refine ⟨_, _, _, rfl, i14, e11.trans (e12.trans (e13.trans e14)), .inl ⟨?_, rfl⟩⟩
            by_cases e : j = 3
            · subst e
              cases hcnt
              omega
            · omega
          · walk_at "sx"
            refine ⟨_, _, _, rfl, i14, e11.trans (e12.trans (e13.trans e14)), .inr ⟨S3, X, ?_, hg, by omega, by omega, hcl, r13.ex e14, r14⟩⟩
            intro e
            rw [e] at r14
            cases r14
        · walk_at "sx"
          refine ifIsF (decide_eq_false h4) ?_
          walk_at "sx"
          exact ⟨_, _, _, rfl, i11, e11, .inr ⟨S2, X, h4, hg, h1, h2, hcl, r7, r4⟩⟩
      · rintro σ H11 ⟨v4, v7, u8, rfl, i11, e11, hor⟩
        rcases hor with ⟨h, _⟩ | ⟨S2, X, h4, hg, h1, h2, hcl, r7, r4⟩
        · exact absurd h (by decide)
        have e9B := e10.trans e11
        walk_at "sx"
        refine len_R r7 (.inl rfl) ?_
        rw [List.length_map]
        walk_at "sx"
        refine ⟨M, I, b, _, hw, i11, hB, rfl, by omega, by omega, fun t H12 ht e12 i12 => ?_⟩
        walk_at "sx"
        refine sl_Lfrom (n := t) hw i12 (r7.ex e12) fun v13 H13 e13 i13 r13 => ?_
        walk_at "sx"
        refine sl_Lto (n := t) hw i13 ((r7.ex e12).ex e13) fun v14 H14 e14 i14 r14 => ?_
        refine add_LL hw i14 (r13.ex e14) r14 (szOk (by simp; omega)) fun v15 H15 e15 i15 r15 => ?_
        rw [← List.map_drop, ← List.map_take, ← List.map_append] at r15
        walk_at "sx"
        have pm := rot_perm S2 t
        have e1F := e12.trans (e13.trans (e14.trans e15))
        refine lst_end (K := K) (M := M) (I := I) hw i15 (.cons (rc9.ex (e9B.trans e1F)) (.cons r15 (.cons (r4.ex e1F) .nil))) (szOk (by simp)) fun v16 H16 e16 i16 r16 => ?_
        exact q v16 fr _ X H16 ⟨hfr, hnd, by omega, by omega, hg.perm pm, by rw [pm.length_eq]; exact h1, by rw [pm.length_eq]; exact h2, hcl.perm pm⟩ r16 (e09.trans (e9B.trans (e1F.trans e16))) i16
end
section
variable {P : Program} {w : World} {K : PySem.W.Frag} {mg : Str → Option Value} {base : Heap}
def spLine (K : PySem.W.Frag) : Sp := fun vs H Q _ => ∃ (M : Addr → Prop) (I : Hp → Prop) (b : Addr) (y z : V) (S X : List (List Nat)), Wf M I ∧ I H ∧ HasBag M I b ∧ vs = [.ref b, y, z] ∧ Rep K M H y (.lst (S.map eS)) ∧ Rep K M H z (.lst (X.map eS)) ∧ 0 < S.length ∧ S.length ≤ 1000 ∧ 0 < X.length ∧ X.length ≤ 1000 ∧ (∀ s ∈ S, s ∈ X) ∧ ∀ r H', r ∈ X → Ex M H H' → I H' → Q (.str (T r)) H'
theorem ok_line (B : Bl mg) (G1 : Df P w K mg base 1 "_law_draw" ["_law_bag_here", "_law_top"] [] (spDraw K)) (G2 : Df P w K mg base 2 "_law_of" ["_law_bag_here", "_law_some"] [] (spOf K)) : Bok P w K mg base 3 "_law_line" s__law_line ["_law_bag_here", "_law_sown", "_law_kept"] (spLine K) := by
  refine Bok.mk sc__law_line (fun vs H Q E h => ?_) (fun f cdv A outer s H vs Q E hr h => ⟨_, w__law_line B G1 G2 hr, ?_⟩)
  · obtain ⟨M, I, b, y, z, S, X, _, _, _, rfl, _⟩ := h
    rfl
  · obtain ⟨M, I, b, y, z, S, X, hw, hI, hB, rfl, hy, hz, hs1, hs2, hx1, hx2, hsub, q⟩ := h
    have of_S : ∀ {x : V} {Y : List (List Nat)} {H' : Hp}, I H' → Ex M H H' → Rep K M H' x (.lst (Y.map eS)) → 0 < Y.length → Y.length ≤ 1000 → (∀ s ∈ Y, s ∈ X) → spOf K [.ref b, x] H' Q E0 := fun {x Y H'} i e rx h1 h2 h3 => by
      refine ⟨M, I, b, x, _, _, hw, i, hB, rfl, rx, rfl, by rw [List.length_map]; exact h1, by rw [List.length_map]; omega, fun v d H2 hd rv e2 i2 => ?_⟩
      obtain ⟨r, hr, rfl⟩ := List.mem_map.mp hd
      cases rep_str rv
      exact q r H2 (h3 r hr) (e.trans e2) i2
    unfold t__law_line
    refine st_eq (σ' := [some (.ref b), some y, some z, none]) rfl ?_
    walk_at "sx"
    refine ⟨M, I, b, _, hw, hI, hB, rfl, by decide, by decide, fun k1 H1 _ e1 i1 => ?_⟩
    walk_at "sx"
    refine ifB (fun _ => ?_) (fun _ => ?_)
    · walk_at "sx"
      obtain ⟨r, X1, rfl⟩ : ∃ a l, X = a :: l := by cases X with
        | nil => simp at hx1
        | cons a l => exact ⟨a, l, rfl⟩
      refine ix_R (n := 0) (hz.ex e1) (.inl rfl) rfl fun v rv => ?_
      cases rep_str rv
      exact q r H1 (by simp) e1 i1
    · walk_at "sx"
      refine ifB (fun _ => ?_) (fun _ => ?_)
      · walk_at "sx"
        exact of_S i1 e1 (hy.ex e1) hs1 hs2 hsub
      · walk_at "sx"
        exact of_S i1 e1 (hz.ex e1) hx1 hx2 fun _ h => h
def spPast (K : PySem.W.Frag) : Sp := fun vs H Q _ => ∃ (M : Addr → Prop) (I : Hp → Prop) (b : Addr) (y z : V) (S X : List (List Nat)) (n : Nat), Wf M I ∧ I H ∧ HasBag M I b ∧ vs = [.ref b, y, z, .int n] ∧ Rep K M H y (.lst (S.map eS)) ∧ Rep K M H z (.lst (X.map eS)) ∧ 0 < S.length ∧ S.length ≤ 1000 ∧ 0 < X.length ∧ X.length ≤ 1000 ∧ (∀ s ∈ S, s ∈ X) ∧ (∀ s ∈ X, ∀ c ∈ s, c < 128) ∧ n ≤ 1000 ∧ ∀ v (R : List (List Nat)) H', R.length = n → (∀ r ∈ R, r ∈ X) → Rep K M H' v (.lst (R.map eS)) → Ex M H H' → I H' → Q v H'
theorem ok_past (B : Bl mg) (G1 : Df P w K mg base 1 "_law_draw" ["_law_bag_here", "_law_top"] [] (spDraw K)) (G2 : Df P w K mg base 3 "_law_line" ["_law_bag_here", "_law_sown", "_law_kept"] [] (spLine K)) : Bok P w K mg base 4 "_law_past" s__law_past ["_law_bag_here", "_law_sown", "_law_kept", "_law_count"] (spPast K) := by
  refine Bok.mk sc__law_past (fun vs H Q E h => ?_) (fun f cdv A outer s H vs Q E hr h => ⟨_, w__law_past B G1 G2 hr, ?_⟩)
  · obtain ⟨M, I, b, y, z, S, X, n, _, _, _, rfl, _⟩ := h
    rfl
  · obtain ⟨M, I, b, y, z, S, X, n, hw, hI, hB, rfl, hy, hz, hs1, hs2, hx1, hx2, hsub, hX, hn, q⟩ := h
    unfold t__law_past
    refine st_eq (σ' := [some (.ref b), some y, some z, some (.int (n : Nat)), none, none, none]) rfl ?_
    walk_at "sx"
    refine lst_mut hw hI (by decide) fun p H1 hp np e1 w1 i1 => ?_
    have hyq := (hy.off hp).ex e1
    have hzq := (hz.off hp).ex e1
    walk_at "sx"
    refine ⟨_, rfl, by omega, by omega, ?_⟩
    rw [Int.toNat_natCast]
    refine for_rng (fun k σ H3 => ∃ (R : List (List Nat)) (u5 u6 : Option V), σ = [some (.ref b), some y, some z, some (.int (n : Nat)), some (.ref p), u5, u6] ∧ R.length = k ∧ (∀ r ∈ R, r ∈ X) ∧ Iq I p (.lst (R.map sV)) H3 ∧ Ex (Mq M p) H1 H3)
      ⟨[], _, _, rfl, rfl, (fun _ h => nomatch h), i1, Ex.refl _⟩ ?_ ?_
    · rintro k σ H3 hk ⟨R, u5, u6, rfl, hl, hR, i3, e3⟩
      dsimp only [List.set_cons_zero, List.set_cons_succ]
      walk_at "sx"
      refine ⟨M, I, b, y, z, S, X, hw, i3.1, hB, rfl, (hyq.ex e3).le fun _ m => .inl m, (hzq.ex e3).le fun _ m => .inl m, hs1, hs2, hx1, hx2, hsub, fun r H4 hr e4 i4 => ?_⟩
      have i4p : Iq I p (.lst (R.map sV)) H4 := ⟨i4, e4 p _ np i3.2⟩
      with_reducible refine gs_name ?_
      dsimp only [List.set_cons_zero, List.set_cons_succ]
      have hfl : ∀ d ∈ R.map eS, Flat d := flat_S fun s hs => hX s (hR s hs)
      with_reducible refine sx_seqJ (fun σ H5 => ∃ r, σ = [some (.ref b), some y, some z, some (.int (n : Nat)), some (.ref p), some (.int (0 + (k : Nat))), some (.str (T r))] ∧ r ∈ X ∧ I H5 ∧ Ex M H4 H5) (fun N hN => ?_) ?_
      · with_reducible refine sx_ifN (fun bb H' => I H' ∧ Ex M H4 H' ∧ (bb = true → R ≠ [])) (fun QT hQ => ?_) ?_ ?_
        · walk_at "sx"
          refine lst_end (K := K) (M := M) (I := I) (ds := []) hw i4 .nil (szOk (by simp)) fun v5 H5 e5 i5 r5 => ?_
          have rp5 : Rep K M H5 (.ref p) (.lst (R.map eS)) := .lst (e5 _ _ np i4p.2) np (reps_S R)
          refine ne_L0 rp5 r5 hfl ?_
          walk_at "sx"
          refine ifB (fun h => ?_) (fun h => ?_)
          · have hne : R ≠ [] := fun e => by rw [e] at h; simp at h
            walk_at "sx"
            refine ⟨M, I, b, _, hw, i5, hB, rfl, by decide, by decide, fun k6 H6 _ e6 i6 => ?_⟩
            walk_at "sx"
            exact hQ _ _ ⟨i6, e5.trans e6, fun _ => hne⟩
          · exact hQ _ _ ⟨i5, e5, fun h => absurd h (by decide)⟩
        · rintro H5 ⟨i5, e5, hne⟩
          have hne := hne rfl
          obtain ⟨R0, z2, rfl⟩ : ∃ R0 z, R = R0 ++ [z] := ⟨R.dropLast, R.getLast hne, (List.dropLast_concat_getLast hne).symm⟩
          walk_at "sx"
          have rp5 : Rep K M H5 (.ref p) (.lst (R0.map eS ++ [eS z2])) := by
            have := reps_S (K := K) (M := M) (H := H5) (R0 ++ [z2])
            rw [List.map_append (f := eS)] at this
            exact .lst (e5 _ _ np i4p.2) np this
          refine ix_last rp5 fun v rv => ?_
          cases rep_str rv
          walk_at "sx"
          exact hN _ _ ⟨z2, rfl, hR z2 (by simp), i5, e5⟩
        · rintro H5 ⟨i5, e5, _⟩
          walk_at "sx"
          exact hN _ _ ⟨r, rfl, hr, i5, e5⟩
      · rintro σ H5 ⟨r2, rfl, hr2, i5, e5⟩
        have i5p : Iq I p (.lst (R.map sV)) H5 := ⟨i5, e5 p _ np i4p.2⟩
        walk_at "sx"
        refine ⟨tyv_l i5p.2, ?_⟩
        walk_at "sx"
        refine app_mut hw np i5p (by rw [List.length_map]; omega) fun H6 e6 w6 i6 => ?_
        rw [map_snocS] at i6
        refine ⟨R ++ [r2], _, _, rfl, by simp [hl], fun x hx => ?_, i6, e3.trans ((e4.trans e5).wide.trans e6)⟩
        rcases List.mem_append.mp hx with hx | hx
        · exact hR x hx
        · rw [List.mem_singleton.mp hx]; exact hr2
    · rintro σ H3 ⟨R, u5, u6, rfl, hl, hR, i3, e3⟩
      walk_at "sx"
      exact q _ R H3 hl hR (.lst i3.2 np (reps_S R)) ((e1.trans e3).shut hp) i3.1
end


section
variable {P : Program} {w : World} {K : PySem.W.Frag} {mg : Str → Option Value} {base : Heap}
def spSize (K : PySem.W.Frag) : Sp := fun vs H Q _ => ∃ (M : Addr → Prop) (I : Hp → Prop) (b : Addr), Wf M I ∧ I H ∧ HasBag M I b ∧ vs = [.ref b] ∧ ∀ (n : Nat) H', 1 ≤ n → n ≤ 6 → Ex M H H' → I H' → Q (.int n) H'
def spLay (K : PySem.W.Frag) : Sp := fun vs H Q _ => ∃ M I l m, Wf M I ∧ I H ∧ vs = [.str (T l), .str (T m)] ∧ l.length ≤ 1000 ∧ ∀ H', Ex M H H' → I H' → Q (.str (T (lay l m))) H'
def spBlankF (K : PySem.W.Frag) : Sp := fun vs H Q _ => ∃ M x ds, vs = [x] ∧ Rep K M H x (.lst ds) ∧ ds.length ≤ 1000 ∧ Q (.str (T (List.replicate ds.length 46))) H
def spFresh (K : PySem.W.Frag) : Sp := fun vs H Q _ => ∃ M I s t, Wf M I ∧ I H ∧ vs = [.str (T s), .str (T t)] ∧ s.length ≤ 1000 ∧ t.length = s.length ∧ ∀ y H', Ex M H H' → I H' → Rep K M H' y (.lst ((fresh s t).map eI)) → Q y H'
def spFits (K : PySem.W.Frag) : Sp := fun vs H Q _ => ∃ M I s r t, Wf M I ∧ I H ∧ vs = [.str (T s), .str (T r), .str (T t)] ∧ s.length ≤ 1000 ∧ t.length = s.length ∧ r.length = s.length ∧ ∀ H', Ex M H H' → I H' → Q (.bl (fits s r t)) H'
end

section
variable {P : Program} {w : World} {K : PySem.W.Frag} {mg : Str → Option Value} {base : Heap}
theorem ok_over (B : Bl mg) (F : At K mg "over" s_over ["newer", "older"] []) : Df P w K mg base 1 "over" ["newer", "older"] [] (spLay K) := by
  refine F.df sc_over (fun vs H Q E h => ?_) (fun f cdv A outer s H vs Q E hr h => ⟨_, w_over B hr, ?_⟩)
  · obtain ⟨M, I, l, m, _, _, rfl, _⟩ := h
    rfl
  · obtain ⟨M, I, l, m, hw, hI, rfl, hl, q⟩ := h
    unfold t_over
    walk_at "sx"
    refine lc_zipM (as := l) (bs := m) (enc := H31.e1) (enc2 := H31.e1) (fun p => .str (T [if p.1 = 46 then p.2 else p.1])) hw hI (.str _) rfl (.str _) rfl (by walk_at "sz") (fun _ _ => rfl) ?_ ?_
    · intro L acc k a b v u H hL ha hb rv rw wf hi ex Qe q
      cases rep_str rv
      cases rep_str rw
      walk_at "sx"
      refine ifB (fun h => ?_) (fun h => ?_) <;> walk_at "sx"
      · exact q _ _ (by simp at h; simp [h]; exact .str _) hi (Ex.refl _)
      · exact q _ _ (by simp at h; simp [h]; exact .str _) hi (Ex.refl _)
    · intro y H' rp ex hi
      walk_at "sx"
      exact join_1 _ rp (by simp; omega) (q _ ex hi)
def spLaid (K : PySem.W.Frag) : Sp := fun vs H Q _ => ∃ (M : Addr → Prop) (I : Hp → Prop) (x : V) (d : D) (S : List (List Nat)), Wf M I ∧ I H ∧ vs = [x] ∧ Rep K M H x d ∧ (d = .lst (S.map eS) ∨ d = .tup (S.map eS)) ∧ S ≠ [] ∧ S.length ≤ 1000 ∧ (∀ s ∈ S, s.length ≤ 1000) ∧ ∀ H', Ex M H H' → I H' → Q (.str (T (laidF S))) H'
def spIn (K : PySem.W.Frag) : Sp := fun vs H Q _ => ∃ M I l m, Wf M I ∧ I H ∧ vs = [.str (T l), .str (T m)] ∧ l.length = m.length ∧ LotS l ∧ LotS m ∧ l.length ≤ 1000 ∧ ∀ H', Ex M H H' → I H' → Q (.bl (inB l m)) H'
theorem ok_within (B : Bl mg) (F : At K mg "within" s_within ["one", "other"] []) : Df P w K mg base 1 "within" ["one", "other"] [] (spIn K) := by
  refine F.df sc_within (fun vs H Q E h => ?_) (fun f cdv A outer s H vs Q E hr h => ⟨_, w_within B hr, ?_⟩)
  · obtain ⟨M, I, l, m, _, _, rfl, _⟩ := h
    rfl
  · obtain ⟨M, I, l, m, hw, hI, rfl, hlm, _, _, hl, q⟩ := h
    unfold t_within
    walk_at "sx"
    refine lc_zipM (as := l) (bs := m) (enc := H31.e1) (enc2 := H31.e1) (fun p => .bl (decide (p.1 = 46) || decide (p.2 = 43))) hw hI (.str _) rfl (.str _) rfl (by walk_at "sz") (fun _ _ => rfl) ?_ ?_
    · intro L acc k a b v u H hL ha hb rv rw wf hi ex Qe q
      cases rep_str rv
      cases rep_str rw
      walk_at "sx"
      refine ifB (fun h => ?_) (fun h => ?_)
      · refine q _ _ (?_ : Rep K _ _ _ _) hi (Ex.refl _)
        (try rw [dec1] at h)
        rw [h, Bool.true_or]
        exact .bl _
      · walk_at "sx"
        refine q _ _ (?_ : Rep K _ _ _ _) hi (Ex.refl _)
        (try rw [dec1] at h)
        rw [h, Bool.false_or]
        (try rw [dec1])
        exact .bl _
    · intro y H' rp ex hi
      walk_at "sx"
      exact all_M _ rp (q _ ex hi)
def spAg (K : PySem.W.Frag) : Sp := fun vs H Q _ => ∃ M I l m, Wf M I ∧ I H ∧ vs = [.str (T l), .str (T m)] ∧ l.length = m.length ∧ l.length ≤ 1000 ∧ ∀ H', Ex M H H' → I H' → Q (.bl (agB l m)) H'
def spCut (K : PySem.W.Frag) : Sp := fun vs H Q _ => ∃ (M : Addr → Prop) (I : Hp → Prop) (l : List Nat) (x : V) (d : D) (ks : List Nat), Wf M I ∧ I H ∧ vs = [.str (T l), x] ∧ Rep K M H x d ∧ (d = .lst (ks.map eI) ∨ d = .tup (ks.map eI)) ∧ ks.length ≤ 1000 ∧ l.length ≤ 1000 ∧ (∀ k ∈ ks, k < l.length) ∧ ∀ H', Ex M H H' → I H' → Q (.str (T (cutF l ks))) H'
end



def gC (l : List Nat) : Int := Txt.count (T l) (T [43])
section
variable {P : Program} {w : World} {K : PySem.W.Frag} {mg : Str → Option Value} {base : Heap}
/-- lots in order, handed back new -/
def spOrd (K : PySem.W.Frag) : Sp := fun vs H Q _ => ∃ (M : Addr → Prop) (I : Hp → Prop) (x : V) (d : D) (L : List (List Nat)), Wf M I ∧ I H ∧ vs = [x] ∧ Rep K M H x d ∧ (d = .lst (L.map eS) ∨ d = .tup (L.map eS)) ∧ L.length ≤ 1000 ∧ (∀ l ∈ L, LotS l) ∧ ∀ p H', H p = none → ¬ M p → H' p = some (.lst ((ordF gC L).map fun l => V.str (T l))) → Ex M H H' → I H' → Q (.ref p) H'
def t_ordered_lots (P : Program) (w : World) (K : PySem.W.Frag) : TS := tRet (tCKw (rSortKey K (He.ga K "lot_size") fun z => Txt.count z (T [43])) (tCons (tCB (rSortT P w) (tCons (tCB (rSetU K P w) (tCons (tVar 0) tNil)) tNil)) tNil) (tCons (tC (.ref (He.ga K "lot_size"))) tNil))
theorem w_ordered_lots (B : Bl mg) (L : At K mg "lot_size" s_lot_size ["lot"] []) {f : Addr} {cdv : Value} {A : Around} {outer : List Env} {s : Shared} {H : Hp} {E : XK} (hr : Room 3 (A.deeper (envOfC "ordered_lots" (defScope s_ordered_lots) s.heap.objs.size f cdv))) :
    PSs (cxOf (L2.CX P w) P w K mg base n_ordered_lots "ordered_lots" (defScope s_ordered_lots) f cdv A outer s H E).nox (defBody s_ordered_lots) (t_ordered_lots P w K) := by
  have nd := sc_ordered_lots.nd
  have hu := hr.units
  have hv := units5 hr
  have h1 := units1 hr
  obtain ⟨fd, F1, F2⟩ := L.ex
  have b := FunD.bindsA (ps := ["lot"]) F1 fun _ _ _ _ _ _ us hl => match us, hl with | [_], _ => rfl
  exact (pss_one (ps_ret (pe_callBK (cr_sortKey (x := "lot") (c := T [43]) (k0 := _) (p1 := _) (p2 := _) (p3 := _) (p4 := _) (p5 := _) F1 sc_lot_size rfl (by decide) rfl (hr.in1.in1) hv fun s v => b s [v] rfl) (by rfl) B.f_sorted (by decide +kernel)
    (pa_cons (pe_callB (cr_sortT rfl) (by rfl) B.f_sorted (by decide +kernel) (pa_cons (pe_callTy (cr_setU rfl) (by rfl) B.f_set (by decide +kernel) (pa_cons (pv 0) pa_nil)) pa_nil)) pa_nil) (pk_cons (pe_gref (by rfl) L.mgx) pk_nil))))
theorem sx_ckw {r : List V → List V → Hp → VK → Prop} {t tk : TA} {σ : L2.St} {H : Hp} {Q : VK} (h : t σ H fun vs H1 => tk σ H1 fun zs H2 => r vs zs H2 Q) : tCKw r t tk σ H Q := h
theorem ofT : ∀ {ys : List Str} {S : List (List Nat)}, (∀ z ∈ ys, z ∈ S.map T) → ∃ zs : List (List Nat), ys = zs.map T
  | [], _, _ => ⟨[], rfl⟩
  | y :: ys, S, h => by
    obtain ⟨zs, rfl⟩ := ofT (ys := ys) (S := S) fun z hz => h z (List.mem_cons_of_mem _ hz)
    obtain ⟨l, _, rfl⟩ := List.mem_map.mp (h y List.mem_cons_self)
    exact ⟨l :: zs, rfl⟩
theorem inT {zs : List (List Nat)} {r : List Nat} : T r ∈ zs.map T ↔ r ∈ zs := by
  rw [List.mem_map]
  exact ⟨fun ⟨a, h, e⟩ => by rw [← T_inj e]; exact h, fun h => ⟨r, h, rfl⟩⟩
theorem seq_T {M : Addr → Prop} {H : Hp} {x : V} {d : D} {S : List (List Nat)} (hx : Rep K M H x d) (hd : d = .lst (S.map eS) ∨ d = .tup (S.map eS)) : ∃ a, x = .ref a ∧ (SqL K H a ((S.map T).map V.str) ∨ SqT K H a ((S.map T).map V.str)) := by
  have key : ∀ {xs : List V} {S : List (List Nat)}, Reps K M H xs (S.map eS) → xs = (S.map T).map V.str := by
    intro xs S
    induction S generalizing xs with
    | nil => intro h; cases h; rfl
    | cons l S ih =>
      intro h
      cases h with
      | cons r1 r2 =>
        cases rep_str r1
        rw [ih r2]
        rfl
  rcases hd with rfl | rfl
  · cases hx with
    | lst h n r =>
      refine ⟨_, rfl, .inl ?_⟩
      rw [← key r]
      exact SqL.of h
  · cases hx with
    | tup h n r =>
      refine ⟨_, rfl, .inr ?_⟩
      rw [← key r]
      exact SqT.of h
theorem ok_ordered_lots (B : Bl mg) (L : At K mg "lot_size" s_lot_size ["lot"] []) (F : At K mg "ordered_lots" s_ordered_lots ["lots"] []) : Df P w K mg base 4 "ordered_lots" ["lots"] [] (spOrd K) := by
  refine F.df sc_ordered_lots (fun vs H Q E h => ?_) (fun f cdv A outer s H vs Q E hr h => ⟨_, w_ordered_lots B L hr, ?_⟩)
  · obtain ⟨M, I, x, d, L, _, _, rfl, _⟩ := h
    rfl
  · obtain ⟨M, I, x, d, S, hw, hI, rfl, hx, hd, hl, hs, q⟩ := h
    unfold t_ordered_lots
    walk_at "sx"
    obtain ⟨a, rfl, ha⟩ := seq_T hx hd
    refine sx_ckw ?_
    walk_at "sx"
    have hsb : 1001 < scanBound := by decide
    refine ⟨a, S.map T, rfl, ha, by rw [List.length_map]; omega, fun p hp => ?_⟩
    have s1 := same_upd (o := SetTO P w p (S.map T)) hp
    walk_at "sx"
    refine ⟨p, S.map T, rfl, upd_same, by rw [List.length_map]; exact hl, fun ys p2 hso hnd hme hp2 => ?_⟩
    have s2 := same_upd (o := .lst (ys.map V.str)) hp2
    have i1 := hw.same s1 hI
    have i2 := hw.same s2 i1
    obtain ⟨zs, rfl⟩ := ofT fun z hz => (hme z).mp hz
    have hm : ∀ r, r ∈ zs ↔ r ∈ S := fun r => by rw [← inT, hme, inT]
    have hn : zs.Nodup := by
      have h := hnd
      unfold List.Nodup at h ⊢
      rw [List.pairwise_map] at h
      exact h.imp fun {a b} n e => n (by rw [e])
    have hzl : zs.length ≤ 1000 := Nat.le_trans (nodup_len hn fun r h => (hm r).mp h) hl
    walk_at "sx"
    refine ⟨p2, zs.map T, rfl, rfl, SqL.of upd_same, by rw [List.length_map]; exact hzl, fun p3 hp3 => ?_⟩
    have s3 := same_upd (o := .lst (((zs.map T).mergeSort (leK fun z => Txt.count z (T [43]))).map V.str)) hp3
    have e02 : Ex M H _ := (Ex.of s1).trans (Ex.of s2)
    have i3 := hw.same s3 i2
    refine q p3 _ (e02.non hw i2 hp3) (hw.fresh i2 hp3) ?_ (e02.trans (Ex.of s3)) i3
    rw [upd_same, ms_map gC (fun z => Txt.count z (T [43])) (fun _ => rfl), ord_one hso hn hm, List.map_map]
    rfl
end


section
variable {K : PySem.W.Frag}
theorem lt_tup {M : Addr → Prop} {I : Hp → Prop} {Z : VK} {H : Hp} (hw : Wf M I) (hI : I H) (q : ∀ p H2, H2 p = some (.tup [.ty "list", .ty "tuple"]) → Ex M H H2 → I H2 → Z (.ref p) H2) : TupK Z [.ty "list", .ty "tuple"] H := by
  refine ⟨by show 2 ≤ sizeLine; decide, fun p hp => ?_⟩
  have s := same_upd (o := .tup [.ty "list", .ty "tuple"]) hp
  exact q p _ upd_same (Ex.of s) (hw.same s hI)
theorem isi_lt {M : Addr → Prop} {H : Hp} {x : V} {d : D} {p : Addr} {Q : VK} (hp : H p = some (.tup [.ty "list", .ty "tuple"])) (h : Rep K M H x d) (hs : Shows d) (q : Q (.bl (isLst d || isTup d)) H) : rIsiT K [x, .ref p] H Q := by
  obtain ⟨t, ht⟩ := hs
  have tx := tyx_of h ht
  cases ht with
  | non => exact kit_lt hp tx (b1 := false) (b2 := false) (by decide +kernel) (by decide +kernel) q
  | bl b => exact kit_lt hp tx (b1 := false) (b2 := false) (by decide +kernel) (by decide +kernel) q
  | int b => exact kit_lt hp tx (b1 := false) (b2 := false) (by decide +kernel) (by decide +kernel) q
  | str b => exact kit_lt hp tx (b1 := false) (b2 := false) (by decide +kernel) (by decide +kernel) q
  | lst b => exact kit_lt hp tx (b1 := true) (b2 := false) (by decide +kernel) (by decide +kernel) q
  | tup b => exact kit_lt hp tx (b1 := false) (b2 := true) (by decide +kernel) (by decide +kernel) q
  | dct b => exact kit_lt hp tx (b1 := false) (b2 := false) (by decide +kernel) (by decide +kernel) q
def LstM (Q : VK) : List V → Hp → Prop := LstK Q
theorem sx_lstm {a : TA} {σ : L2.St} {H : Hp} {Q : VK} (h : a σ H (LstM Q)) : tLst a σ H Q := h
def LstS (K : PySem.W.Frag) (I : Hp → Prop) (x : V) (ls : List (List Nat)) : Prop := ∃ p, x = .ref p ∧ ∀ H, I H → H p = some (.lst (ls.map fun l => V.str (T l)))
theorem LstS.inn {I : Hp → Prop} {x : V} {ls : List (List Nat)} {l : List Nat} {H : Hp} {Q : VK} (h : LstS K I x ls) (hI : I H) (q : Q (.bl (decide (l ∈ ls))) H) : rInU K (.str (T l)) x H Q := by
  obtain ⟨p, rfl, hp⟩ := h
  exact .inr (.inl ⟨p, _, rfl, .inl (SqL.of (hp H hI)), rfl, by simp [List.all_map, flatV], by rw [inV_T]; exact q⟩)
theorem LstS.nin {I : Hp → Prop} {x : V} {ls : List (List Nat)} {l : List Nat} {H : Hp} {Q : VK} (h : LstS K I x ls) (hI : I H) (q : Q (.bl (!decide (l ∈ ls))) H) : rNiU K (.str (T l)) x H Q := by
  obtain ⟨p, rfl, hp⟩ := h
  exact .inr (.inl ⟨p, _, rfl, .inl (SqL.of (hp H hI)), rfl, by simp [List.all_map, flatV], by rw [inV_T]; exact q⟩)
theorem sx_di {td ty : TE} {σ : L2.St} {H : Hp} {Q : VK} (h : ty σ H fun y H1 => td σ H1 fun x H2 => ∃ a o, x = .ref a ∧ DGet H2 a y o ∧ Q (.bl o.isSome) H2) : tDIn ty td σ H Q := h
theorem sx_dni {td ty : TE} {σ : L2.St} {H : Hp} {Q : VK} (h : ty σ H fun y H1 => td σ H1 fun x H2 => ∃ a o, x = .ref a ∧ DGet H2 a y o ∧ Q (.bl (!o.isSome)) H2) : tDNotIn ty td σ H Q := h
theorem sx_dput {td ty tv : TE} {D : Ends} {σ : L2.St} {H : Hp} (h : tv σ H fun v H1 => td σ H1 fun x H2 => ty σ H2 fun y H3 => ∃ a H4, x = .ref a ∧ DPut H3 a y v H4 ∧ D.nx σ H4) : sDPut td ty tv D σ H := h
end


section
variable {P : Program} {w : World} {K : PySem.W.Frag} {mg : Str → Option Value} {base : Heap}
def spIsName (K : PySem.W.Frag) : Sp := fun vs H Q _ => ∃ (M : Addr → Prop) (I : Hp → Prop) (t : List Nat), Wf M I ∧ I H ∧ vs = [.str (T t)] ∧ TOk t ∧ ∀ H', Ex M H H' → I H' → Q (.bl true) H'
theorem abc_mem : ∀ {c : Nat}, 97 ≤ c → c ≤ 122 → c ∈ ([97, 98, 99, 100, 101, 102, 103, 104, 105, 106, 107, 108, 109, 110, 111, 112, 113, 114, 115, 116, 117, 118, 119, 120, 121, 122] : List Nat) := by
  intro c h1 h2
  have key : ∀ d : Fin 26, 97 + d.val ∈ ([97, 98, 99, 100, 101, 102, 103, 104, 105, 106, 107, 108, 109, 110, 111, 112, 113, 114, 115, 116, 117, 118, 119, 120, 121, 122] : List Nat) := by decide
  have := key ⟨c - 97, by omega⟩
  have e : 97 + (c - 97) = c := by omega
  rw [e] at this
  exact this
theorem ok_is_name (B : Bl mg) (F : At K mg "is_name" s_is_name ["value"] []) : Df P w K mg base 1 "is_name" ["value"] [] (spIsName K) := by
  refine F.df sc_is_name (fun vs H Q E h => ?_) (fun f cdv A outer s H vs Q E hr h => ⟨_, w_is_name B hr, ?_⟩)
  · obtain ⟨M, I, t, _, _, rfl, _⟩ := h
    rfl
  · obtain ⟨M, I, t, hw, hI, rfl, ⟨h1, h2, h3⟩, q⟩ := h
    unfold t_is_name
    walk_at "sx"
    refine isi_str (.str _ : Rep K M H (.str (T t)) (.str (T t))) ⟨_, .str _⟩ ?_
    walk_at "sx"
    refine ifIsF rfl ?_
    walk_at "sx"
    refine ifIsT (decide_eq_true (by omega)) ?_
    walk_at "sx"
    refine ifIsF (by rw [decide_eq_true (by omega)]; rfl) ?_
    walk_at "sx"
    refine lc_srcM (as := t) (enc := H31.e1) (fun _ => .bl true) hw hI (.str _) rfl (szOk (by omega)) (fun _ => rfl) ?_ ?_
    · intro L acc k a v H hL ha rv wf hi ex Qe q
      cases rep_str rv
      have := h3 a (List.mem_of_getElem? ha)
      walk_at "sx"
      rw [decide_eq_true (abc_mem this.1 this.2)]
      exact q _ _ (.bl _) hi (Ex.refl _)
    · intro y H' rp ex hi
      walk_at "sx"
      refine all_M (as := t) (fun _ => true) rp ?_
      rw [show t.all (fun _ => true) = true from List.all_eq_true.mpr fun _ _ => rfl]
      exact q _ ex hi
def spIsNum : Sp := fun vs H Q _ => ∃ a l m : Int, vs = [.int a, .int l, .int m] ∧ l ≤ a ∧ a ≤ m ∧ Q (.bl true) H
theorem isi_intI {M : Addr → Prop} {H : Hp} {i : Int} {Q : VK} (q : Q (.bl true) H) : rIsi K [.int i, .ty "int"] H Q := isi_D (.int i : Rep K M H (.int i) (.int i)) (.int i) (kit_ty (b := "int") (r := true) (by decide +kernel)) q
theorem isi_intB {M : Addr → Prop} {H : Hp} {i : Int} {Q : VK} (q : Q (.bl false) H) : rIsi K [.int i, .ty "bool"] H Q := isi_D (.int i : Rep K M H (.int i) (.int i)) (.int i) (kit_ty (b := "bool") (r := false) (by decide +kernel)) q
theorem ok_is_number (B : Bl mg) (F : At K mg "is_number" s_is_number ["value", "least", "most"] []) : Df P w K mg base 1 "is_number" ["value", "least", "most"] [] spIsNum := by
  refine F.df sc_is_number (fun vs H Q E h => ?_) (fun f cdv A outer s H vs Q E hr h => ⟨_, w_is_number B hr, ?_⟩)
  · obtain ⟨a, l, m, rfl, _⟩ := h
    rfl
  · obtain ⟨a, l, m, rfl, h1, h2, q⟩ := h
    unfold t_is_number
    walk_at "sx"
    refine isi_intI (M := fun _ => False) ?_
    walk_at "sx"
    refine isi_intB (M := fun _ => False) ?_
    walk_at "sx"
    refine ifIsT (decide_eq_true h1) ?_
    walk_at "sx"
    rw [decide_eq_true h2]
    exact q
theorem nd_take {l : List (List Nat)} (h : l.Nodup) {k : Nat} {a : List Nat} (ha : l[k]? = some a) : a ∉ l.take k := fun hm => by
  obtain ⟨hk, e⟩ := List.getElem?_eq_some_iff.mp ha
  have e2 : l = l.take k ++ a :: l.drop (k + 1) := by rw [← e, List.getElem_cons_drop, List.take_append_drop]
  rw [e2] at h
  exact (List.nodup_append.mp h).2.2 a hm a List.mem_cons_self rfl
def spCheckC (K : PySem.W.Frag) : Sp := fun vs H Q _ => ∃ (M : Addr → Prop) (I : Hp → Prop) (x : V) (fr : List (List Nat × Nat)), Wf M I ∧ I H ∧ vs = [x] ∧ Rep K M H x (.lst (fr.map eC)) ∧ FrOk fr ∧ (fr.map (·.1)).Nodup ∧ 1 ≤ fr.length ∧ fr.length ≤ 12 ∧ ∀ H', Ex M H H' → I H' → Q .non H'
theorem ok_check_cells (B : Bl mg) (G1 : Df P w K mg base 1 "is_name" ["value"] [] (spIsName K)) (G2 : Df P w K mg base 1 "is_number" ["value", "least", "most"] [] spIsNum)
    (F : At K mg "check_cells" s_check_cells ["cells"] []) : Df P w K mg base 2 "check_cells" ["cells"] [] (spCheckC K) := by
  refine F.df sc_check_cells (fun vs H Q E h => ?_) (fun f cdv A outer s H vs Q E hr h => ⟨_, w_check_cells B G1 G2 hr, ?_⟩)
  · obtain ⟨M, I, x, fr, _, _, rfl, _⟩ := h
    rfl
  · obtain ⟨M, I, x, fr, hw, hI, rfl, hx, hfr, hnd, hf1, hf2, q⟩ := h
    unfold t_check_cells
    walk_at "sx"
    refine lt_tup hw hI fun p0 H1 hp0 e1 i1 => ?_
    walk_at "sx"
    refine isi_lt hp0 (hx.ex e1) ⟨_, .lst _⟩ ?_
    walk_at "sx"
    refine ifIsF rfl ?_
    walk_at "sx"
    refine len_R (hx.ex e1) (.inl rfl) ?_
    rw [List.length_map]
    walk_at "sx"
    refine ifIsT (decide_eq_true (by omega)) ?_
    walk_at "sx"
    refine ifIsF (by rw [decide_eq_true (by omega)]; rfl) ?_
    walk_at "sx"
    refine lst_mut hw i1 (by decide) fun p H2 hp np e2 w2 i2 => ?_
    walk_at "sx"
    have hx2 := ((hx.ex e1).off hp).ex e2
    refine for_enum (as := fr) (enc := eC) hx2 rfl (fun k σ H3 => ∃ u2 u3 u4 u5, σ = [some x, some (.ref p), u2, u3, u4, u5] ∧ Wf (Mq M p) (Iq I p (.lst (((fr.take k).map (·.1)).map fun l => V.str (T l)))) ∧ Iq I p (.lst (((fr.take k).map (·.1)).map fun l => V.str (T l))) H3 ∧ Ex (Mq M p) H2 H3)
      ⟨_, _, _, _, rfl, w2, i2, Ex.refl _⟩ (fun k σ H h => by obtain ⟨_, _, _, _, _, _, _, h⟩ := h; exact h) ?_ ?_
    · rintro k c v σ H3 H4 hc ⟨u2, u3, u4, u5, rfl, w3, i3, e3⟩ sm rv
      have i4 := w3.same sm i3
      have e4 := e3.trans (Ex.of sm)
      have hk := (List.getElem?_eq_some_iff.mp hc).1
      obtain ⟨hm1, hm2, ht⟩ := hfr c (List.mem_of_getElem? hc)
      walk_at "sx"
      refine isi_tup rv ⟨_, .tup _⟩ ?_
      walk_at "sx"
      refine ifIsF rfl ?_
      walk_at "sx"
      refine len_R rv (.inr rfl) ?_
      walk_at "sx"
      refine ifIsF (by simp) ?_
      walk_at "sx"
      refine gs_pair rv fun n m rn rm => ?_
      cases rep_str rn
      cases rep_int rm
      walk_at "sx"
      refine ⟨_, _, c.1, w3, i4, rfl, ht, fun H5 e5 i5 => ?_⟩
      walk_at "sx"
      refine ⟨_, 1, 4, rfl, by omega, by omega, ?_⟩
      walk_at "sx"
      refine LstS.inn (K := K) (I := Iq I p (.lst (((fr.take k).map (·.1)).map fun l => V.str (T l)))) ⟨p, rfl, fun H h => h.2⟩ i5 ?_
      have hni : c.1 ∉ (fr.take k).map (·.1) := by
        rw [List.map_take]
        exact nd_take hnd (by rw [List.getElem?_map, hc]; rfl)
      rw [decide_eq_false hni]
      walk_at "sx"
      refine ⟨tyv_l i5.2, ?_⟩
      walk_at "sx"
      refine app_mut hw np i5 (by simp; omega) fun H6 e6 w6 i6 => ?_
      have et : ((fr.take k).map (·.1)).map (fun l => V.str (T l)) ++ [V.str (T c.1)] = ((fr.take (k + 1)).map (·.1)).map fun l => V.str (T l) := by rw [take_snoc hc]; simp
      rw [et] at w6 i6
      exact ⟨_, _, _, _, rfl, w6, i6, (e4.trans e5).trans e6⟩
    · rintro σ H3 ⟨u2, u3, u4, u5, rfl, w3, i3, e3⟩
      walk_at "sx"
      exact q H3 (e1.trans ((e2.trans e3).shut hp)) i3.1
end


section
variable {P : Program} {w : World} {K : PySem.W.Frag} {mg : Str → Option Value} {base : Heap}
def spGrown (K : PySem.W.Frag) : Sp := fun vs H Q _ => ∃ (M : Addr → Prop) (I : Hp → Prop) (x : V) (S Y : List (List Nat)) (n : Nat), Wf M I ∧ I H ∧ vs = [x, .str (T (List.replicate n 46)), .int 800] ∧ Rep K M H x (.lst (S.map eS)) ∧ n ≤ 1000 ∧ S.length ≤ 1000 ∧ (∀ s ∈ S, s.length = n) ∧ RowsOf S n Y ∧
  ∀ p (F : List (List Nat)) H', H p = none → ¬ M p → H' p = some (.lst (F.map fun l => V.str (T l))) → F.Perm Y → Ex M H H' → I H' → Q (.ref p) H'
theorem ok_grown_rows (B : Bl mg) (G : Df P w K mg base 1 "over" ["newer", "older"] [] (spLay K)) (F : At K mg "grown_rows" s_grown_rows ["seeds", "first", "most"] []) : Df P w K mg base 2 "grown_rows" ["seeds", "first", "most"] [] (spGrown K) := by
  refine F.df sc_grown_rows (fun vs H Q E h => ?_) (fun f cdv A outer s H vs Q E hr h => ⟨_, w_grown_rows B G hr, ?_⟩)
  · obtain ⟨M, I, x, S, Y, n, _, _, rfl, _⟩ := h
    rfl
  · obtain ⟨M, I, x, S, Y, n, hw, hI, rfl, hx, hn, hSl, hS, hY, q⟩ := h
    unfold t_grown_rows
    refine sx_seq ?_
    with_reducible refine sx_asg ?_
    refine sx_lstm ?_
    walk_at "sx"
    refine lst_mut (xs := [.str (T (List.replicate n 46))]) hw hI (show 1 ≤ sizeLine by decide) fun p H1 hp np e1 w1 i1 => ?_
    refine gs_name ?_
    with_reducible refine sx_seq ?_
    with_reducible refine sx_asg ?_
    intro q0 hq0
    have nq : ¬ Mq M p q0 := w1.fresh i1 hq0
    have nqp : q0 ≠ p := fun e => nq (e ▸ .inr rfl)
    show tVar 1 _ _ _
    walk_at "sx"
    refine ⟨upd_same, [keyT (List.replicate n 46)], rfl, by simp, ?_⟩
    have hmk : mergeK [] [keyT (List.replicate n 46)] = [List.replicate n 46].map keyT := rfl
    rw [hmk]
    have hu : upd (upd H1 q0 (.dK [])) q0 (.dK ([List.replicate n 46].map keyT)) = upd H1 q0 (.dK ([List.replicate n 46].map keyT)) := by
      funext a
      by_cases h : a = q0
      · rw [h, upd_same, upd_same]
      · rw [upd_ne h, upd_ne h, upd_ne h]
    rw [hu]
    have e2 : Ex (Mq (Mq M p) q0) H1 (upd H1 q0 (.dK ([List.replicate n 46].map keyT))) := Ex.of (same_upd hq0)
    have i2 : Iq (Iq I p (.lst ([List.replicate n 46].map fun l => V.str (T l)))) q0 (.dK ([List.replicate n 46].map keyT)) (upd H1 q0 (.dK ([List.replicate n 46].map keyT))) := ⟨w1.same (same_upd hq0) i1, upd_same⟩
    generalize upd H1 q0 (.dK ([List.replicate n 46].map keyT)) = H2 at e2 i2
    have hx2 : Rep K (Mq (Mq M p) q0) H2 x (.lst (S.map eS)) := (((hx.off hp).ex e1).off hq0).ex e2
    clear w1
    refine gs_name ?_
    walk_at "sx"
    have hbound : ∀ {F : List (List Nat)}, F.Nodup → (∀ r ∈ F, Cl S n r) → F.length ≤ 40 := fun {F} nd hc => Nat.le_trans (nodup_len nd fun r hr => (hY.mem r).mpr (hc r hr)) hY.len
    let W : Nat → L2.St → Hp → Prop := fun m σ H => ∃ (F : List (List Nat)) (k : Nat) (u6 u7 : Option V), m = 41 - k ∧ k ≤ F.length ∧ σ = [some x, some (.str (T (List.replicate n 46))), some (.int 800), some (.ref p), some (.ref q0), some (.int (k : Nat)), u6, u7] ∧ Iq (Iq I p (.lst (F.map fun l => V.str (T l)))) q0 (.dK (F.map keyT)) H ∧ Ex (Mq (Mq M p) q0) H2 H ∧
        F.Nodup ∧ List.replicate n 46 ∈ F ∧ (∀ r ∈ F, Cl S n r) ∧ ∀ i r, i < k → F[i]? = some r → ∀ s ∈ S, lay s r ∈ F
    have fin : ∀ (F : List (List Nat)) (u6 u7 : Option V) (H4 : Hp), True → Iq (Iq I p (.lst (F.map fun l => V.str (T l)))) q0 (.dK (F.map keyT)) H4 → Ex (Mq (Mq M p) q0) H2 H4 → F.Nodup → List.replicate n 46 ∈ F → (∀ r ∈ F, Cl S n r) → (∀ i r, i < F.length → F[i]? = some r → ∀ s ∈ S, lay s r ∈ F) → Q (.ref p) H4 := by
      intro F u6 u7 H4 _ i4 e4 nd h0 hcl hdone
      have hmem : ∀ r, r ∈ F ↔ Cl S n r := fun r => by
        refine ⟨hcl r, cl_in h0 (fun r hr s hs => ?_) r⟩
        obtain ⟨i, hi⟩ := List.getElem?_of_mem hr
        have := (List.getElem?_eq_some_iff.mp hi).1
        exact hdone i r (by omega) hi s hs
      have hperm : F.Perm Y := (List.perm_ext_iff_of_nodup nd hY.nd).mpr fun r => by rw [hmem, hY.mem]
      exact q p F H4 hp np i4.1.2 hperm ((e1.trans ((e2.trans e4).shut hq0)).shut hp) i4.1.1
    refine ⟨W, ⟨_, [List.replicate n 46], 0, _, _, rfl, by simp, rfl, i2, Ex.refl _, by simp, by simp, fun r hr => by rw [List.mem_singleton.mp hr]; exact .base, fun i r h => by omega⟩, ?_⟩
    rintro m σ H3 ⟨F, k, u6, u7, rfl, hk, rfl, i3, e3, nd, h0, hcl, hdone⟩
    have hFl := hbound nd hcl
    walk_at "sx"
    refine len_raw i3.1.2 ?_
    rw [List.length_map]
    walk_at "sx"
    refine ifB (fun h => ?_) (fun h => ?_)
    · have hkF : k < F.length := by have := of_decide_eq_true h; omega
      walk_at "sx"
      refine len_raw i3.1.2 ?_
      rw [List.length_map]
      walk_at "sx"
      refine ifIsT (decide_eq_true (by omega)) ?_
      refine ⟨fun σ' H' => ∃ m', m' < 41 - k ∧ W m' σ' H', fun _ _ h => h, ?_⟩
      have hcr : Cl S n F[k] := hcl _ (List.getElem_mem hkF)
      have hFk := hcr.len hS
      walk_at "sx"
      refine for_src (K := K) (M := Mq (Mq M p) q0) (as := S) (enc := eS) (hx2.ex e3) rfl (fun j σ H => ∃ (G : List (List Nat)) (u6 u7 : Option V), σ = [some x, some (.str (T (List.replicate n 46))), some (.int 800), some (.ref p), some (.ref q0), some (.int (k : Nat)), u6, u7] ∧ Iq (Iq I p (.lst ((F ++ G).map fun l => V.str (T l)))) q0 (.dK ((F ++ G).map keyT)) H ∧ Ex (Mq (Mq M p) q0) H3 H ∧
          (F ++ G).Nodup ∧ (∀ r ∈ G, Cl S n r) ∧ ∀ s ∈ S.take j, lay s F[k] ∈ F ++ G)
        ⟨[], _, _, rfl, by rw [List.append_nil]; exact i3, Ex.refl _, by rw [List.append_nil]; exact nd, all_nil, fun s h => by simp at h⟩ (fun k σ H h => by obtain ⟨_, _, _, _, _, h, _⟩ := h; exact h) ?_ ?_
      · rintro j s v σ H5 ha ⟨G, u6, u7, rfl, i5, e5, nd5, hc5, hd5⟩ rv
        cases rep_str rv
        have hsS := List.mem_of_getElem? ha
        have hsl := hS s hsS
        have hbd := hbound nd5 fun r hr => by
          rcases List.mem_append.mp hr with z | z
          · exact hcl r z
          · exact hc5 r z
        have hw5 := (hw.add p (.lst ((F ++ G).map fun l => V.str (T l)))).add q0 (.dK ((F ++ G).map keyT))
        walk_at "sx"
        refine ix_raw (v := .str (T F[k])) i5.1.2 ?_ ?_
        · have hkG : k < (F ++ G).length := by rw [List.length_append]; omega
          unfold atI
          rw [show ixN ((F ++ G).map fun l => V.str (T l)).length ((k : Nat) : Int) = some k by unfold ixN; rw [if_pos (by omega), if_pos (by rw [List.length_map]; omega)]; simp]
          rw [Option.bind_some, List.getElem?_map, List.getElem?_append_left hkF, List.getElem?_eq_getElem hkF]
          rfl
        walk_at "sx"
        refine ⟨_, _, s, F[k], hw5, i5, rfl, by omega, fun H6 e6 i6 => ?_⟩
        have e56 := e5.trans e6
        walk_at "sx"
        with_reducible refine sx_dni ?_
        walk_at "sx"
        refine ⟨_, _, rfl, DGet.k (k := .inr (T (lay s F[k]))) i6.2, ?_⟩
        rw [valV_key]
        walk_at "sx"
        refine ifB (fun h => ?_) (fun h => ?_)
        · have hnin : lay s F[k] ∉ F ++ G := by simpa using h
          with_reducible refine sx_seq ?_
          with_reducible refine sx_dput ?_
          walk_at "sx"
          refine ⟨_, _, rfl, DPut.k (k := .inr (T (lay s F[k]))) i6.2 (by rw [List.length_map]; exact Nat.lt_of_lt_of_le (show (F ++ G).length < 100000 by omega) (by decide)), ?_⟩
          rw [putK_key hnin]
          have i7 : Iq (Iq I p (.lst ((F ++ G).map fun l => V.str (T l)))) q0 (.dK ((F ++ G ++ [lay s F[k]]).map keyT)) (upd H6 q0 (.dK ((F ++ G ++ [lay s F[k]]).map keyT))) := ((hw.add p _).put nq i6).1
          have e7 : Ex (Mq (Mq M p) q0) H6 (upd H6 q0 (.dK ((F ++ G ++ [lay s F[k]]).map keyT))) := fun a o n h => by rw [upd_ne fun z => n (.inr z)]; exact h
          generalize upd H6 q0 (.dK ((F ++ G ++ [lay s F[k]]).map keyT)) = H7 at i7 e7
          walk_at "sx"
          refine ⟨tyv_l i7.1.2, ?_⟩
          walk_at "sx"
          refine ⟨p, _, .str (T (lay s F[k])), rfl, rfl, i7.1.2, Nat.lt_of_lt_of_le (show ((F ++ G).map fun l => V.str (T l)).length < 100000 by rw [List.length_map]; omega) (by decide), ?_⟩
          rw [map_snocS]
          have i8 : Iq (Iq I p (.lst ((F ++ G ++ [lay s F[k]]).map fun l => V.str (T l)))) q0 (.dK ((F ++ G ++ [lay s F[k]]).map keyT)) (upd H7 p (.lst ((F ++ G ++ [lay s F[k]]).map fun l => V.str (T l)))) := by
            obtain ⟨u1, u2⟩ := hw.put (o' := .lst ((F ++ G ++ [lay s F[k]]).map fun l => V.str (T l))) np i7.1
            exact ⟨u1, by rw [upd_ne nqp]; exact i7.2⟩
          have e8 : Ex (Mq (Mq M p) q0) H7 (upd H7 p (.lst ((F ++ G ++ [lay s F[k]]).map fun l => V.str (T l)))) := fun a o n h => by rw [upd_ne fun z => n (.inl (.inr z))]; exact h
          generalize upd H7 p (.lst ((F ++ G ++ [lay s F[k]]).map fun l => V.str (T l))) = H8 at i8 e8
          refine ⟨G ++ [lay s F[k]], _, _, rfl, by rw [← List.append_assoc]; exact i8, (e56.trans e7).trans e8, ?_, ?_, ?_⟩
          · rw [← List.append_assoc]
            exact List.nodup_append.mpr ⟨nd5, by simp, fun a ha b hb => by rw [List.mem_singleton.mp hb]; exact fun e => hnin (e ▸ ha)⟩
          · intro r hr
            rcases List.mem_append.mp hr with z | z
            · exact hc5 r z
            · rw [List.mem_singleton.mp z]; exact .step hsS hcr
          · intro s2 h2
            rw [take_snoc ha] at h2
            rcases List.mem_append.mp h2 with z | z
            · rw [← List.append_assoc]
              exact List.mem_append.mpr (.inl (hd5 s2 z))
            · rw [List.mem_singleton.mp z, ← List.append_assoc]
              exact List.mem_append.mpr (.inr List.mem_cons_self)
        · have hin : lay s F[k] ∈ F ++ G := by
            have h : (!decide (lay s F[k] ∈ F ++ G)) = false := h
            rw [Bool.not_eq_false'] at h
            exact of_decide_eq_true h
          refine sx_next ?_
          refine ⟨G, _, _, rfl, i6, e56, nd5, hc5, fun s2 h2 => ?_⟩
          rw [take_snoc ha] at h2
          rcases List.mem_append.mp h2 with z | z
          · exact hd5 s2 z
          · rw [List.mem_singleton.mp z]; exact hin
      · rintro σ H5 ⟨G, u6, u7, rfl, i5, e5, nd5, hc5, hd5⟩
        rw [List.take_length] at hd5
        walk_at "sx"
        have ek : ((k : Nat) : Int) + 1 = ((k + 1 : Nat) : Int) := by omega
        rw [ek]
        refine ⟨41 - (k + 1), by omega, F ++ G, k + 1, _, _, rfl, by rw [List.length_append]; omega, rfl, i5, e3.trans e5, nd5, List.mem_append.mpr (.inl h0), fun r hr => ?_, fun i r hi hr s hs => ?_⟩
        · rcases List.mem_append.mp hr with z | z
          · exact hcl r z
          · exact hc5 r z
        · by_cases hik : i < k
          · have hiF : i < F.length := by omega
            have : F[i]? = some r := by rw [List.getElem?_append_left hiF] at hr; exact hr
            exact List.mem_append.mpr (.inl (hdone i r hik this s hs))
          · have e : i = k := by omega
            subst e
            have : r = F[i] := by
              rw [List.getElem?_append_left hkF] at hr
              simp [hkF] at hr
              exact hr.symm
            rw [this]
            exact hd5 s hs
    · have hkF : k = F.length := by have := of_decide_eq_false h; omega
      refine ifF ?_
      walk_at "sx"
      refine fin F u6 u7 H3 trivial i3 e3 nd h0 hcl fun i r hi => hdone i r (by omega)
end


section
variable {P : Program} {w : World} {K : PySem.W.Frag} {mg : Str → Option Value} {base : Heap}
def spCheckS (K : PySem.W.Frag) : Sp := fun vs H Q _ => ∃ (M : Addr → Prop) (I : Hp → Prop) (x y : V) (fr : List (List Nat × Nat)) (S : List (List Nat)), Wf M I ∧ I H ∧ vs = [x, y] ∧ Rep K M H x (.lst (fr.map eC)) ∧ fr.length ≤ 12 ∧ Rep K M H y (.lst (S.map eS)) ∧ S.length ≤ 30 ∧ GoodS fr S ∧ ∀ H', Ex M H H' → I H' → Q .non H'
theorem ok_check_seeds (B : Bl mg) (G1 : Df P w K mg base 1 "blank" ["many"] [] (spBlank K)) (G2 : Df P w K mg base 1 "is_row" ["cells", "value"] [] (spIsRowD K))
    (F : At K mg "check_seeds" s_check_seeds ["cells", "seeds"] []) : Df P w K mg base 2 "check_seeds" ["cells", "seeds"] [] (spCheckS K) := by
  refine F.df sc_check_seeds (fun vs H Q E h => ?_) (fun f cdv A outer s H vs Q E hr h => ⟨_, w_check_seeds B G1 G2 hr, ?_⟩)
  · obtain ⟨M, I, x, y, fr, S, _, _, rfl, _⟩ := h
    rfl
  · obtain ⟨M, I, x, y, fr, S, hw, hI, rfl, hx, hf, hy, hSl, hS, q⟩ := h
    unfold t_check_seeds
    walk_at "sx"
    refine lt_tup hw hI fun p0 H1 hp0 e1 i1 => ?_
    walk_at "sx"
    refine isi_lt hp0 (hy.ex e1) ⟨_, .lst _⟩ ?_
    walk_at "sx"
    refine ifIsF rfl ?_
    walk_at "sx"
    refine len_R (hy.ex e1) (.inl rfl) ?_
    rw [List.length_map]
    walk_at "sx"
    refine ifIsF (decide_eq_false (by omega)) ?_
    walk_at "sx"
    refine for_enum (as := S) (enc := eS) (hy.ex e1) rfl (fun k σ H3 => ∃ u2 u3, σ = [some x, some y, u2, u3, none] ∧ I H3 ∧ Ex M H1 H3)
      ⟨_, _, rfl, i1, Ex.refl _⟩ (fun k σ H h => by obtain ⟨_, _, _, _, h⟩ := h; exact h) ?_ ?_
    · rintro k s v σ H3 H4 hs ⟨u2, u3, rfl, i3, e3⟩ sm rv
      cases rep_str rv
      have i4 := hw.same sm i3
      have e4 : Ex M H1 H4 := e3.trans (Ex.of sm)
      have e04 := e1.trans e4
      have hsS := List.mem_of_getElem? hs
      obtain ⟨hrow, j, c, hj1, hj2⟩ := hS.rw s hsS
      have hsl := isRow_len hrow
      walk_at "sx"
      refine ⟨M, I, x, .str (T s), fr, .str (T s), hw, i4, rfl, .ofL (hx.ex e04), .str _, ⟨_, .str _⟩, fun l e => by cases (T_inj (by injection e) : s = l); omega, by omega, fun H5 e5 i5 => ?_⟩
      rw [show isRowD fr (.str (T s)) = true from hrow]
      walk_at "sx"
      refine len_R ((hx.ex e04).ex e5) (.inl rfl) ?_
      rw [List.length_map]
      walk_at "sx"
      refine ⟨fr.length, rfl, by omega, ?_⟩
      walk_at "sx"
      refine ifIsF (decide_eq_false fun e => ?_) ?_
      · rw [e] at hj1
        exact hj2 (List.eq_of_mem_replicate (List.mem_of_getElem? hj1))
      walk_at "sx"
      refine sl_Lto hw i5 ((hy.ex e04).ex e5) fun v6 H6 e6 i6 r6 => ?_
      rw [← List.map_take] at r6
      refine in_L (ls := S.take k) r6 (.inl rfl) ?_
      rw [decide_eq_false (nd_take hS.nd hs)]
      walk_at "sx"
      exact ⟨_, _, rfl, i6, (e4.trans e5).trans e6⟩
    · rintro σ H3 ⟨u2, u3, rfl, i3, e3⟩
      have e03 := e1.trans e3
      walk_at "sx"
      refine for_enum (as := fr) (enc := eC) (hx.ex e03) rfl (fun k σ H4 => ∃ u2 u3 u4, σ = [some x, some y, u2, u3, u4] ∧ I H4 ∧ Ex M H3 H4)
        ⟨_, _, _, rfl, i3, Ex.refl _⟩ (fun k σ H h => by obtain ⟨_, _, _, _, _, h⟩ := h; exact h) ?_ ?_
      · rintro k c v σ H4 H5 hc ⟨u2, u3, u4, rfl, i4, e4⟩ sm rv
        have i5 := hw.same sm i4
        have e5 : Ex M H3 H5 := e4.trans (Ex.of sm)
        have hk := (List.getElem?_eq_some_iff.mp hc).1
        walk_at "sx"
        refine lc_srcM (as := S) (enc := eS) (fun s => .bl (decide (s.getD k 46 = 46))) hw i5 ((hy.ex e03).ex e5) rfl (szOk (by omega)) (fun _ => rfl) ?_ ?_
        · intro L acc k2 s v H6 hL ha rv wf hi ex Qe qe
          cases rep_str rv
          have hsl := isRow_len (hS.rw s (List.mem_of_getElem? ha)).1
          walk_at "sx"
          refine ix_T (z := s.getD k 46) (by walk_at "sz") (by simp [List.getD_eq_getElem?_getD, show k < s.length by omega]) ?_
          walk_at "sx"
          (try rw [dec1])
          exact qe _ _ (.bl _) hi (Ex.refl _)
        · intro y7 H7 r7 e7 i7
          walk_at "sx"
          refine all_M (as := S) (fun s => decide (s.getD k 46 = 46)) r7 ?_
          have hno : S.all (fun s => decide (s.getD k 46 = 46)) = false := by
            obtain ⟨s, hs, c, h1, h2⟩ := hS.all k hk
            rw [List.all_eq_false]
            refine ⟨s, hs, ?_⟩
            rw [List.getD_eq_getElem?_getD, h1]
            simpa using h2
          rw [hno]
          walk_at "sx"
          exact ⟨_, _, _, rfl, i7, e5.trans e7⟩
      · rintro σ H4 ⟨u2, u3, u4, rfl, i4, e4⟩
        walk_at "sx"
        exact q H4 (e03.trans e4) i4
/-- the fields of a band -/
def bandD (fr : List (List Nat × Nat)) (S Y R : List (List Nat)) : List (Str × D) := [("cell_list", .lst (fr.map eC)), ("seed_list", .lst (S.map eS)), ("row_list", .lst (Y.map eS)), ("known_rows", .dct (R.map fun r => ((.inr (T r) : Key), D.bl true))), ("lot_list", .lst ((ordF gC (Y.map lot)).map eS))]
def Flds (K : PySem.W.Frag) (M : Addr → Prop) (H : Hp) (fs : List (Str × V)) (ds : List (Str × D)) : Prop := (∀ f d, ds.lookup f = some d → ∃ u, fs.lookup f = some u ∧ Rep K M H u d) ∧ ∀ f, ds.lookup f = none → fs.lookup f = none
theorem flds_nil {M : Addr → Prop} {H : Hp} : Flds K M H [] [] := ⟨fun f d h => (nomatch h), fun f _ => rfl⟩
theorem flds_put {M : Addr → Prop} {H : Hp} {fs : List (Str × V)} {ds : List (Str × D)} {f : Str} {u : V} {d : D} (h : Flds K M H fs ds) (r : Rep K M H u d) (hn : ds.lookup f = none) : Flds K M H (putF f u fs) (ds ++ [(f, d)]) := by
  have key : ∀ (l : List (Str × D)) (g : Str), (l ++ [(f, d)]).lookup g = (match l.lookup g with | some x => some x | none => if g = f then some d else none) := by
    intro l g
    induction l with
    | nil =>
      show List.lookup g [(f, d)] = _
      by_cases e : g = f
      · subst e; simp [List.lookup]
      · have : (g == f) = false := by simpa using e
        simp [List.lookup, this, e]
    | cons a l ih =>
      obtain ⟨a1, a2⟩ := a
      by_cases e : g = a1
      · subst e; simp [List.lookup]
      · have : (g == a1) = false := by simpa using e
        simp only [List.cons_append, List.lookup, this]
        exact ih
  refine ⟨fun g e hg => ?_, fun g hg => ?_⟩
  · rw [key] at hg
    rw [lookup_putF]
    by_cases hgf : g = f
    · subst hgf
      rw [hn] at hg
      simp at hg
      subst hg
      exact ⟨u, by simp, r⟩
    · cases hl : ds.lookup g with
      | none =>
        rw [hl] at hg
        simp [hgf] at hg
      | some x =>
        rw [hl] at hg
        cases hg
        rw [if_neg hgf]
        exact h.1 g _ hl
  · rw [key] at hg
    rw [lookup_putF]
    by_cases hgf : g = f
    · subst hgf
      rw [hn] at hg
      simp at hg
    · cases hl : ds.lookup g with
      | none =>
        rw [if_neg hgf]
        exact h.2 g hl
      | some x =>
        rw [hl] at hg
        cases hg
theorem Flds.ex {M : Addr → Prop} {H H' : Hp} {fs : List (Str × V)} {ds : List (Str × D)} (e : Ex M H H') (h : Flds K M H fs ds) : Flds K M H' fs ds := ⟨fun f d hf => by obtain ⟨u, l, r⟩ := h.1 f d hf; exact ⟨u, l, r.ex e⟩, h.2⟩
end


section
variable {P : Program} {w : World} {K : PySem.W.Frag} {mg : Str → Option Value} {base : Heap}
def spInit (K : PySem.W.Frag) : Sp := fun vs H Q _ => ∃ (M : Addr → Prop) (I : Hp → Prop) (a dx : Addr) (cv sv : V) (fr : List (List Nat × Nat)) (S Y : List (List Nat)), Wf M I ∧ ¬ M a ∧ Iq I a (.ins (He.ga K "Band") dx []) H ∧ vs = [.ref a, cv, sv, .int 800] ∧ Rep K (Mq M a) H cv (.lst (fr.map eC)) ∧ FrOk fr ∧ (fr.map (·.1)).Nodup ∧ 1 ≤ fr.length ∧ fr.length ≤ 12 ∧
  Rep K (Mq M a) H sv (.lst (S.map eS)) ∧ S.length ≤ 30 ∧ GoodS fr S ∧ RowsOf S fr.length Y ∧ ∀ fs R H', R.Perm Y → Flds K (Mq M a) H' fs (bandD fr S Y R) → Ex (Mq M a) H H' → Iq I a (.ins (He.ga K "Band") dx fs) H' → Q .non H'
theorem lput {n : Nat} {f : Str} {y : V} {fs : List (Str × V)} (h : fs.length ≤ n) : (putF f y fs).length ≤ n + 1 := by
  have := length_putF f y fs; omega
theorem ord_rep {M : Addr → Prop} {H : Hp} {p : Addr} {S : List (List Nat)} (np : ¬ M p) (h : H p = some (.lst (S.map fun l => V.str (T l)))) : Rep K M H (.ref p) (.lst (S.map eS)) := .lst h np (reps_S S)
theorem sorted_is {F Y : List (List Nat)} {S : List (List Nat)} {n : Nat} {ys : List Str} (hY : RowsOf S n Y) (hp : F.Perm Y) (h1 : ys.Perm (F.map T)) (h2 : sortedS ys = true) : ys = Y.map T := by
  have eY : ∃ Z : List (List Nat), ys = Z.map T ∧ Z.Perm F := by
    refine ⟨ys.map fun z => z.cps.toList, ?_, ?_⟩
    · rw [List.map_map]
      conv => lhs; rw [← List.map_id ys]
      refine List.map_congr_left fun z hz => ?_
      obtain ⟨l, _, rfl⟩ := List.mem_map.mp (h1.mem_iff.mp hz)
      rfl
    · have := h1.map fun z => z.cps.toList
      rw [List.map_map] at this
      have e : (F.map ((fun z : Str => z.cps.toList) ∘ T)) = F := by
        conv => rhs; rw [← List.map_id F]
        rfl
      rw [e] at this
      exact this
  obtain ⟨Z, rfl, hZ⟩ := eY
  rw [sort_one h2 hY.so (hZ.nodup_iff.mpr (hp.nodup_iff.mpr hY.nd)) hY.nd fun r => by rw [hZ.mem_iff, hp.mem_iff]]
theorem ok_init (B : Bl mg) (CB : ClsF K "Band" fl_Band) (G1 : Df P w K mg base 1 "blank" ["many"] [] (spBlank K)) (G2 : Df P w K mg base 2 "check_cells" ["cells"] [] (spCheckC K)) (G3 : Df P w K mg base 2 "check_seeds" ["cells", "seeds"] [] (spCheckS K)) (G4 : Df P w K mg base 2 "grown_rows" ["seeds", "first", "most"] [] (spGrown K)) (G5 : Df P w K mg base 1 "is_number" ["value", "least", "most"] [] spIsNum) (G6 : Df P w K mg base 1 "lot_of" ["row"] [] (spLot K)) (G7 : Df P w K mg base 4 "ordered_lots" ["lots"] [] (spOrd K))
    (F : AtI K mg "Band" "Band.__init__" s_Band___init__ ["self", "cells", "seeds", "most"] [.int 800]) : DfI P w K mg base 5 "Band" ["self", "cells", "seeds", "most"] [.int 800] (spInit K) := by
  refine F.df sc_Band___init__ (fun vs H Q E h => ?_) (fun f cdv A outer s H vs Q E hr h => ⟨_, w_Band___init__ B CB G1 G2 G3 G4 G5 G6 G7 hr, ?_⟩)
  · obtain ⟨M, I, a, dx, cv, sv, fr, S, Y, _, _, _, rfl, _⟩ := h
    rfl
  · obtain ⟨M, I, a, dx, cv, sv, fr, S, Y, hw, na, i0, rfl, hc, hfr, hnd, hf1, hf2, hs, hSl, hS, hY, q⟩ := h
    have hWf : ∀ fs, Wf (Mq M a) (Iq I a (.ins (He.ga K "Band") dx fs)) := fun fs => hw.add a _
    have lnS : ∀ s ∈ S, s.length = fr.length := fun s h => isRow_len (hS.rw s h).1
    unfold t_Band___init__
    walk_at "sx"
    refine ⟨_, _, cv, fr, hWf [], i0, rfl, hc, hfr, hnd, hf1, hf2, fun H1 e1 i1 => ?_⟩
    walk_at "sx"
    refine ⟨_, _, cv, sv, fr, S, hWf [], i1, rfl, hc.ex e1, hf2, hs.ex e1, hSl, hS, fun H2 e2 i2 => ?_⟩
    walk_at "sx"
    refine ⟨800, 1, 800, rfl, by omega, by omega, ?_⟩
    walk_at "sx"
    have e02 := e1.trans e2
    refine len_R (hc.ex e02) (.inl rfl) ?_
    rw [List.length_map]
    walk_at "sx"
    refine ⟨fr.length, rfl, by omega, ?_⟩
    walk_at "sx"
    refine ⟨_, _, sv, S, Y, fr.length, hWf [], i2, rfl, hs.ex e02, by omega, by omega, lnS, hY, fun p R H3 _ np hp hperm e3 i3 => ?_⟩
    have rp : Rep K (Mq M a) H3 (.ref p) (.lst (R.map eS)) := ord_rep np hp
    have hRl : R.length ≤ 40 := by rw [hperm.length_eq]; exact hY.len
    have hRn : R.Nodup := hperm.nodup_iff.mpr hY.nd
    have hRrow : ∀ r ∈ R, r.length = fr.length := fun r hr => ((hY.mem r).mp (hperm.mem_iff.mp hr)).len lnS
    have e03 := e02.trans e3
    walk_at "sx"
    refine len_R rp (.inl rfl) ?_
    rw [List.length_map]
    walk_at "sx"
    refine ifIsF (decide_eq_false (by omega)) ?_
    walk_at "sx"
    with_reducible refine sx_sfld ?_
    walk_at "sx"
    refine list_R (hWf []) i3 (hc.ex e03) (.inl rfl) fun v4 H4 e4 i4 r4 => ?_
    walk_at "sx"
    refine set_fld hw na i4 CB (by decide) (by decide) fun H5 e5 i5 => ?_
    have f5 := flds_put (f := "cell_list") (flds_nil (K := K) (M := Mq M a) (H := H5)) (r4.ex e5) rfl
    have e35 := e4.trans e5
    walk_at "sx"
    with_reducible refine sx_sfld ?_
    walk_at "sx"
    refine list_R (hWf _) i5 (hs.ex (e03.trans e35)) (.inl rfl) fun v6 H6 e6 i6 r6 => ?_
    walk_at "sx"
    refine set_fld hw na i6 CB (by decide) (Nat.lt_of_le_of_lt (lput (Nat.le_refl 0)) (by decide)) fun H7 e7 i7 => ?_
    have e57 := e6.trans e7
    have f7 := flds_put (f := "seed_list") (f5.ex e57) (r6.ex e7) rfl
    have e37 := e35.trans e57
    walk_at "sx"
    with_reducible refine sx_sfld ?_
    walk_at "sx"
    refine ⟨p, R.map T, rfl, by rw [List.map_map]; exact SqL.of ((e37 p _ np hp)), by rw [List.length_map]; omega, fun ys p8 hys hso hp8 => ?_⟩
    have eys := sorted_is hY hperm hys hso
    subst eys
    have s8 := same_upd (o := .lst ((Y.map T).map V.str)) hp8
    have i8 := (hWf _).same s8 i7
    have np8 := (hWf _).fresh i7 hp8
    have e8 := Ex.of (M := Mq M a) s8
    have r8 : Rep K (Mq M a) (upd H7 p8 (.lst ((Y.map T).map V.str))) (.ref p8) (.lst (Y.map eS)) := by
      refine .lst upd_same np8 ?_
      rw [List.map_map]
      exact reps_S Y
    generalize upd H7 p8 (.lst ((Y.map T).map V.str)) = H8 at i8 e8 r8
    walk_at "sx"
    refine set_fld hw na i8 CB (by decide) (Nat.lt_of_le_of_lt (lput (lput (Nat.le_refl 0))) (by decide)) fun H9 e9 i9 => ?_
    have e79 := e8.trans e9
    have f9 := flds_put (f := "row_list") (f7.ex e79) (r8.ex e9) rfl
    have e39 := e37.trans e79
    walk_at "sx"
    with_reducible refine sx_sfld ?_
    with_reducible refine sx_dc ?_
    walk_at "sx"
    refine dc_true (F := R) (hWf _) i9 (rp.ex e39) rfl hRn (by omega) (fun _ => rfl) (fun _ => rfl) fun D H10 hD nD hDd e10 i10 => ?_
    walk_at "sx"
    have r10 : Rep K (Mq M a) H10 (.ref D) (.dct (R.map fun r => ((.inr (T r) : Key), Nt.D.bl true))) := by
      refine .dct hDd nD (by rw [List.map_map, List.map_map]; rfl) ?_
      rw [List.map_map, List.map_map]
      exact Reps.scal (f := fun _ => V.bl true) (g := fun _ => Nt.D.bl true) (fun _ => .bl _) R
    refine set_fld hw na i10 CB (by decide) (Nat.lt_of_le_of_lt (lput (lput (lput (Nat.le_refl 0)))) (by decide)) fun H11 e11 i11 => ?_
    have e9B := e10.trans e11
    have f11 := flds_put (f := "known_rows") (f9.ex e9B) (r10.ex e11) rfl
    have e3B := e39.trans e9B
    walk_at "sx"
    with_reducible refine sx_sfld ?_
    walk_at "sx"
    refine lc_srcM (as := R) (enc := eS) (fun r => eS (lot r)) (hWf _) i11 (rp.ex e3B) rfl (szOk (by omega)) (fun _ => rfl) ?_ ?_
    · intro L acc k r v H hL ha rv wf hi ex Qe qe
      cases rep_str rv
      have := hRrow r (List.mem_of_getElem? ha)
      walk_at "sx"
      refine ⟨_, _, r, wf, hi, rfl, by omega, fun H' e' i' => ?_⟩
      exact qe _ _ (.str _) i' e'
    intro y12 H12 r12 e12 i12
    have h12 : (R.map fun r => eS (lot r)) = (R.map lot).map eS := by rw [List.map_map]; rfl
    rw [h12] at r12
    walk_at "sx"
    refine ⟨_, _, y12, _, R.map lot, hWf _, i12, rfl, r12, .inl rfl, by rw [List.length_map]; omega, fun l hl => by obtain ⟨r, _, rfl⟩ := List.mem_map.mp hl; exact lotS_lot r, fun p13 H13 _ np13 hp13 e13 i13 => ?_⟩
    have r13 : Rep K (Mq M a) H13 (.ref p13) (.lst ((ordF gC (R.map lot)).map eS)) := ord_rep np13 hp13
    rw [show ordF gC (R.map lot) = ordF gC (Y.map lot) from sort_two (ordF_pw _ _) (ordF_pw _ _) (ordF_nd _ _) (ordF_nd _ _) fun r => by
      rw [ordF_mem, ordF_mem]
      exact (hperm.map lot).mem_iff] at r13
    walk_at "sx"
    refine set_fld hw na i13 CB (by decide) (Nat.lt_of_le_of_lt (lput (lput (lput (lput (Nat.le_refl 0))))) (by decide)) fun H14 e14 i14 => ?_
    have eBE := (e12.trans e13).trans e14
    have f14 := flds_put (f := "lot_list") (f11.ex eBE) (r13.ex e14) rfl
    exact q _ R H14 hperm f14 (e03.trans (e3B.trans eBE)) i14
end


section
variable {K : PySem.W.Frag}
def BandOk (K : PySem.W.Frag) (M : Addr → Prop) (H : Hp) (v : V) (fr : List (List Nat × Nat)) (S Y : List (List Nat)) : Prop := ∃ R, R.Perm Y ∧ Ob K M H v "Band" (bandD fr S Y R)
theorem BandOk.ex {M : Addr → Prop} {H H' : Hp} {v : V} {fr : List (List Nat × Nat)} {S Y : List (List Nat)} (e : Ex M H H') (h : BandOk K M H v fr S Y) : BandOk K M H' v fr S Y := by
  obtain ⟨R, hp, h⟩ := h
  exact ⟨R, hp, h.ex e⟩
theorem BandOk.off {M : Addr → Prop} {H : Hp} {v : V} {fr : List (List Nat × Nat)} {S Y : List (List Nat)} {q : Addr} (e : H q = none) (h : BandOk K M H v fr S Y) : BandOk K (Mq M q) H v fr S Y := by
  obtain ⟨R, hp, h⟩ := h
  exact ⟨R, hp, h.off e⟩
theorem dct_key {M : Addr → Prop} {H : Hp} {u : V} {R : List (List Nat)} (h : Rep K M H u (.dct (R.map fun r => ((.inr (T r) : Key), D.bl true)))) : ∃ a, u = .ref a ∧ H a = some (.dK (R.map keyT)) := by
  cases h with
  | @dct a kvs _ h n k r =>
    refine ⟨a, rfl, ?_⟩
    have e : kvs = R.map keyT := by
      clear h n
      induction R generalizing kvs with
      | nil =>
        cases kvs with
        | nil => rfl
        | cons x l => simp at k
      | cons x R ih =>
        cases kvs with
        | nil => simp at k
        | cons y l =>
          obtain ⟨y1, y2⟩ := y
          simp only [List.map_cons, List.cons.injEq] at k
          simp only [List.map_cons] at r
          cases r with
          | cons r1 r2 =>
            cases r1
            rw [ih k.2 r2]
            simp only [List.map_cons, keyT]
            rw [k.1]
    rw [← e]
    exact h
theorem look_none : ∀ {l : List (Str × D)} {m : Str}, m ∉ l.map (·.1) → l.lookup m = none
  | [], _, _ => rfl
  | (a, d) :: l, m, h => by
    have h1 : (m == a) = false := by
      simp only [List.map_cons, List.mem_cons, not_or] at h
      simpa using h.1
    simp only [List.lookup, h1]
    exact look_none fun hm => h (List.mem_cons_of_mem _ hm)
theorem BandOk.meth {M : Addr → Prop} {H : Hp} {x : V} {fr : List (List Nat × Nat)} {S Y : List (List Nat)} {m : Str} (h : BandOk K M H x fr S Y) (hm : m ∉ fl_Band) {Z : Prop} (q : Z) : ∃ a dx fs, x = V.ref a ∧ H a = some (.ins (He.ga K "Band") dx fs) ∧ fs.lookup m = none ∧ Z := by
  obtain ⟨R, _, ho⟩ := h
  exact Ob.meth ho (look_none hm) q
theorem BandOk.own {M : Addr → Prop} {H : Hp} {x : V} {fr : List (List Nat × Nat)} {S Y : List (List Nat)} (h : BandOk K M H x fr S Y) : ∃ a dx fs, x = V.ref a ∧ H a = some (.ins (He.ga K "Band") dx fs) := by
  obtain ⟨R, _, a, dx, fs, e, _, ha, _⟩ := h
  exact ⟨a, dx, fs, e, ha⟩
theorem seeds_L {M : Addr → Prop} {H : Hp} {x : V} {S : List (List Nat)} (h : Rep K M H x (.lst (S.map eS))) : Seeds K M H x S := ⟨_, h, .inl rfl⟩
end


/-! ### streams as objects -/
section
variable {P : Program} {w : World} {K : PySem.W.Frag} {mg : Str → Option Value} {base : Heap}
def spIsNumB : Sp := fun vs H Q _ => ∃ a l m : Int, vs = [.int a, .int l, .int m] ∧ Q (.bl (decide (l ≤ a) && decide (a ≤ m))) H
theorem ok_is_numberB (B : Bl mg) : Bok P w K mg base 1 "is_number" s_is_number ["value", "least", "most"] spIsNumB := by
  refine Bok.mk sc_is_number (fun vs H Q E h => ?_) (fun f cdv A outer s H vs Q E hr h => ⟨_, w_is_number B hr, ?_⟩)
  · obtain ⟨a, l, m, rfl, _⟩ := h
    rfl
  · obtain ⟨a, l, m, rfl, q⟩ := h
    unfold t_is_number
    refine st_eq (σ' := [some (.int a), some (.int l), some (.int m)]) rfl ?_
    walk_at "sx"
    refine isi_intI (M := fun _ => False) ?_
    walk_at "sx"
    refine isi_intB (M := fun _ => False) ?_
    walk_at "sx"
    refine ifB (fun h => ?_) (fun h => ?_)
    · walk_at "sx"
      rw [h, Bool.true_and] at q
      exact q
    · rw [h, Bool.false_and] at q
      exact q
theorem num_in {a l m : Int} {Q : VK} {H : Hp} (h1 : l ≤ a) (h2 : a ≤ m) (q : Q (.bl true) H) : spIsNumB [.int a, .int l, .int m] H Q E0 := ⟨a, l, m, rfl, by rw [decide_eq_true h1, decide_eq_true h2]; exact q⟩
def spBCheck (K : PySem.W.Frag) : Sp := fun vs H Q _ => ∃ (M : Addr → Prop) (I : Hp → Prop) (x : V) (fr : List (List Nat × Nat)) (S Y : List (List Nat)) (r : List Nat), Wf M I ∧ I H ∧ vs = [x, .str (T r)] ∧ BandOk K M H x fr S Y ∧ fr.length ≤ 1000 ∧ isRow fr r = true ∧ r ∈ Y ∧ ∀ H', Ex M H H' → I H' → Q .non H'
theorem ok_Band_check_row (B : Bl mg) (CB : ClsF K "Band" fl_Band) (G1 : Df P w K mg base 1 "is_row" ["cells", "value"] [] (spIsRowD K)) : Bok P w K mg base 2 "Band.check_row" s_Band_check_row ["self", "row"] (spBCheck K) := by
  refine Bok.mk sc_Band_check_row (fun vs H Q E h => ?_) (fun f cdv A outer s H vs Q E hr h => ⟨_, w_Band_check_row B CB G1 hr, ?_⟩)
  · obtain ⟨M, I, x, fr, S, Y, r, _, _, rfl, _⟩ := h
    rfl
  · obtain ⟨M, I, x, fr, S, Y, r, hw, hI, rfl, hx, hf, hrow, hrY, q⟩ := h
    have hrl := isRow_len hrow
    unfold t_Band_check_row
    refine st_eq (σ' := [some x, some (.str (T r))]) rfl ?_
    walk_at "sx"
    with_reducible refine sx_fld ?_
    walk_at "sx"
    obtain ⟨R, hp, ho⟩ := id hx
    refine Ob.fld (f := "cell_list") ho CB (by decide) rfl fun u ru => ?_
    walk_at "sx"
    refine ⟨M, I, u, .str (T r), fr, .str (T r), hw, hI, rfl, .ofL ru, .str _, ⟨_, .str _⟩, fun l e => by cases (T_inj (by injection e) : r = l); omega, by omega, fun H1 e1 i1 => ?_⟩
    rw [show isRowD fr (.str (T r)) = true from hrow]
    walk_at "sx"
    with_reducible refine sx_dni ?_
    walk_at "sx"
    with_reducible refine sx_fld ?_
    walk_at "sx"
    refine Ob.fld (f := "known_rows") (ho.ex e1) CB (by decide) rfl fun u2 ru2 => ?_
    obtain ⟨a, rfl, ha⟩ := dct_key ru2
    refine ⟨a, _, rfl, DGet.k (k := .inr (T r)) ha, ?_⟩
    rw [valV_key, decide_eq_true (hp.mem_iff.mpr hrY)]
    walk_at "sx"
    exact q H1 e1 i1
def spBBlank (K : PySem.W.Frag) : Sp := fun vs H Q _ => ∃ (M : Addr → Prop) (x : V) (fr : List (List Nat × Nat)) (S Y : List (List Nat)), vs = [x] ∧ BandOk K M H x fr S Y ∧ fr.length ≤ 1000 ∧ Q (.str (T (List.replicate fr.length 46))) H
theorem ok_Band_blank_row (B : Bl mg) (CB : ClsF K "Band" fl_Band) (G1 : Df P w K mg base 1 "blank" ["many"] [] (spBlank K)) : Bok P w K mg base 2 "Band.blank_row" s_Band_blank_row ["self"] (spBBlank K) := by
  refine Bok.mk sc_Band_blank_row (fun vs H Q E h => ?_) (fun f cdv A outer s H vs Q E hr h => ⟨_, w_Band_blank_row B CB G1 hr, ?_⟩)
  · obtain ⟨M, x, fr, S, Y, rfl, _⟩ := h
    rfl
  · obtain ⟨M, x, fr, S, Y, rfl, ⟨R, hp, ho⟩, hf, q⟩ := h
    unfold t_Band_blank_row
    refine st_eq (σ' := [some x]) rfl ?_
    walk_at "sx"
    with_reducible refine sx_fld ?_
    walk_at "sx"
    refine Ob.fld (f := "cell_list") ho CB (by decide) rfl fun u ru => ?_
    walk_at "sx"
    refine len_R ru (.inl rfl) ?_
    rw [List.length_map]
    walk_at "sx"
    exact ⟨_, rfl, by omega, q⟩
/-- a stream of these rows: the object stands, its list stands -/
def StrV (K : PySem.W.Frag) (M : Addr → Prop) (I : Hp → Prop) (H : Hp) (x : V) (fr : List (List Nat × Nat)) (S Y R : List (List Nat)) : Prop := ∃ (s dx : Addr) (fs : List (Str × V)) (bv lv : V), x = .ref s ∧ (∀ H', Ex M H H' → I H' → H' s = some (.ins (He.ga K "Stream") dx fs)) ∧ fs.lookup ("band" : Str) = some bv ∧ fs.lookup ("row_list" : Str) = some lv ∧ (∀ f, f ∉ fl_Stream → fs.lookup f = none) ∧ BandOk K M H bv fr S Y ∧ Rep K M H lv (.lst (R.map eS))
section
variable {M : Addr → Prop} {I : Hp → Prop} {H H' : Hp} {x : V} {fr : List (List Nat × Nat)} {S Y R : List (List Nat)} {m : Str}
theorem StrV.ex (h : StrV K M I H x fr S Y R) (e : Ex M H H') : StrV K M I H' x fr S Y R := by
  obtain ⟨s, dx, fs, bv, lv, e1, h1, h2, h3, h4, h5, h6⟩ := h
  exact ⟨s, dx, fs, bv, lv, e1, fun H2 e2 i2 => h1 H2 (e.trans e2) i2, h2, h3, h4, h5.ex e, h6.ex e⟩
theorem StrV.add (h : StrV K M I H x fr S Y R) {q : Addr} {o : HO} (hq : H q = none) : StrV K (Mq M q) (Iq I q o) H x fr S Y R := by
  obtain ⟨s, dx, fs, bv, lv, e1, h1, h2, h3, h4, h5, h6⟩ := h
  exact ⟨s, dx, fs, bv, lv, e1, fun H2 e2 i2 => h1 H2 (e2.shut hq) i2.1, h2, h3, h4, h5.off hq, h6.off hq⟩
theorem StrV.rows {Z : V → Prop} (h : StrV K M I H x fr S Y R) (hI : I H) (C : ClsF K "Stream" fl_Stream) (q : ∀ u, Rep K M H u (.lst (R.map eS)) → Z u) : ∃ a C dx fs u, x = V.ref a ∧ H a = some (.ins C dx fs) ∧ Cls K C ∧ NoAttr K C "row_list" ∧ fs.lookup ("row_list" : Str) = some u ∧ Z u := by
  obtain ⟨s, dx, fs, bv, lv, e1, h1, h2, h3, h4, h5, h6⟩ := h
  exact ⟨s, _, dx, fs, lv, e1, h1 H (Ex.refl _) hI, C.cls, C.na _ (by decide), h3, q lv h6⟩
theorem StrV.band {Z : V → Prop} (h : StrV K M I H x fr S Y R) (hI : I H) (C : ClsF K "Stream" fl_Stream) (q : ∀ u, BandOk K M H u fr S Y → Z u) : ∃ a C dx fs u, x = V.ref a ∧ H a = some (.ins C dx fs) ∧ Cls K C ∧ NoAttr K C "band" ∧ fs.lookup ("band" : Str) = some u ∧ Z u := by
  obtain ⟨s, dx, fs, bv, lv, e1, h1, h2, h3, h4, h5, h6⟩ := h
  exact ⟨s, _, dx, fs, bv, e1, h1 H (Ex.refl _) hI, C.cls, C.na _ (by decide), h2, q bv h5⟩
theorem StrV.meth (h : StrV K M I H x fr S Y R) (hI : I H) (hm : m ∉ fl_Stream) {Z : Prop} (q : Z) : ∃ a dx fs, x = V.ref a ∧ H a = some (.ins (He.ga K "Stream") dx fs) ∧ fs.lookup m = none ∧ Z := by
  obtain ⟨s, dx, fs, bv, lv, e1, h1, h2, h3, h4, h5, h6⟩ := h
  exact ⟨s, dx, fs, e1, h1 H (Ex.refl _) hI, h4 m hm, q⟩
theorem StrV.prop (h : StrV K M I H x fr S Y R) (hI : I H) {Z : V → Prop} (q : Z x) : ∃ a dx fs, x = V.ref a ∧ H a = some (.ins (He.ga K "Stream") dx fs) ∧ Z (.ref a) := by
  obtain ⟨s, dx, fs, bv, lv, e1, h1, h2, h3, h4, h5, h6⟩ := h
  exact ⟨s, dx, fs, e1, h1 H (Ex.refl _) hI, e1 ▸ q⟩
end
def spSRows (K : PySem.W.Frag) : Sp := fun vs H Q _ => ∃ (M : Addr → Prop) (I : Hp → Prop) (x : V) (fr : List (List Nat × Nat)) (S Y R : List (List Nat)), Wf M I ∧ I H ∧ vs = [x] ∧ StrV K M I H x fr S Y R ∧ ∀ v H', Rep K M H' v (.lst (R.map eS)) → Ex M H H' → I H' → Q v H'
theorem ok_Stream_rows (B : Bl mg) (CS : ClsF K "Stream" fl_Stream) : Bok P w K mg base 1 "Stream.rows" s_Stream_rows ["self"] (spSRows K) := by
  refine Bok.mk sc_Stream_rows (fun vs H Q E h => ?_) (fun f cdv A outer s H vs Q E hr h => ⟨_, w_Stream_rows B CS hr, ?_⟩)
  · obtain ⟨M, I, x, fr, S, Y, R, _, _, rfl, _⟩ := h
    rfl
  · obtain ⟨M, I, x, fr, S, Y, R, hw, hI, rfl, hx, q⟩ := h
    unfold t_Stream_rows
    refine st_eq (σ' := [some x]) rfl ?_
    walk_at "sx"
    with_reducible refine sx_fld ?_
    walk_at "sx"
    refine hx.rows hI CS fun u ru => ?_
    walk_at "sx"
    exact list_R hw hI ru (.inl rfl) fun v H' e i r => q v H' r e i
def spSCheck (K : PySem.W.Frag) : Sp := fun vs H Q _ => ∃ (M : Addr → Prop) (I : Hp → Prop) (x : V) (fr : List (List Nat × Nat)) (S Y R : List (List Nat)) (m : Nat), I H ∧ vs = [x, .int m] ∧ StrV K M I H x fr S Y R ∧ 1 ≤ m ∧ m ≤ R.length ∧ Q .non H
theorem ok_Stream_check_moment (B : Bl mg) (CS : ClsF K "Stream" fl_Stream) (G1 : Df P w K mg base 1 "is_number" ["value", "least", "most"] [] spIsNumB) : Bok P w K mg base 2 "Stream.check_moment" s_Stream_check_moment ["self", "moment"] (spSCheck K) := by
  refine Bok.mk sc_Stream_check_moment (fun vs H Q E h => ?_) (fun f cdv A outer s H vs Q E hr h => ⟨_, w_Stream_check_moment B CS G1 hr, ?_⟩)
  · obtain ⟨M, I, x, fr, S, Y, R, m, _, rfl, _⟩ := h
    rfl
  · obtain ⟨M, I, x, fr, S, Y, R, m, hI, rfl, hx, h1, h2, q⟩ := h
    unfold t_Stream_check_moment
    refine st_eq (σ' := [some x, some (.int (m : Nat))]) rfl ?_
    walk_at "sx"
    with_reducible refine sx_fld ?_
    walk_at "sx"
    refine hx.rows hI CS fun u ru => ?_
    walk_at "sx"
    refine len_R ru (.inl rfl) ?_
    rw [List.length_map]
    walk_at "sx"
    refine num_in (by omega) (by omega) ?_
    walk_at "sx"
    exact q
/-- the end of a window: a moment, or the last one -/
def hiV (R : List (List Nat)) : V → Nat → Prop := fun v h => v = .int (h : Nat) ∨ (v = .non ∧ h = R.length)
def spSLast (K : PySem.W.Frag) : Sp := fun vs H Q _ => ∃ (M : Addr → Prop) (I : Hp → Prop) (x v : V) (fr : List (List Nat × Nat)) (S Y R : List (List Nat)) (l h : Nat), I H ∧ vs = [x, .int l, v] ∧ StrV K M I H x fr S Y R ∧ hiV R v h ∧ 1 ≤ l ∧ l ≤ h ∧ h ≤ R.length ∧ Q (.int (h : Nat)) H
theorem ok_Stream_last_moment (B : Bl mg) (CS : ClsF K "Stream" fl_Stream) (G1 : DfM P w K mg base 2 "Stream" "check_moment" ["self", "moment"] [] (spSCheck K)) (G2 : Df P w K mg base 1 "is_number" ["value", "least", "most"] [] spIsNumB) : Bok P w K mg base 3 "Stream.last_moment" s_Stream_last_moment ["self", "start", "end"] (spSLast K) := by
  refine Bok.mk sc_Stream_last_moment (fun vs H Q E h => ?_) (fun f cdv A outer s H vs Q E hr h => ⟨_, w_Stream_last_moment B CS G1 G2 hr, ?_⟩)
  · obtain ⟨M, I, x, v, fr, S, Y, R, l, h, _, rfl, _⟩ := h
    rfl
  · obtain ⟨M, I, x, v, fr, S, Y, R, l, h, hI, rfl, hx, hv, h1, h2, h3, q⟩ := h
    unfold t_Stream_last_moment
    refine st_eq (σ' := [some x, some (.int (l : Nat)), some v]) rfl ?_
    walk_at "sx"
    with_reducible refine sx_meth ?_
    walk_at "sx"
    refine hx.meth hI (by decide) ?_
    walk_at "sx"
    refine ⟨M, I, x, fr, S, Y, R, l, hI, rfl, hx, h1, by omega, ?_⟩
    walk_at "sx"
    rcases hv with rfl | ⟨rfl, rfl⟩
    · refine ifIsF (decide_eq_false nofun) ?_
      walk_at "sx"
      with_reducible refine sx_fld ?_
      walk_at "sx"
      refine hx.rows hI CS fun u ru => ?_
      walk_at "sx"
      refine len_R ru (.inl rfl) ?_
      rw [List.length_map]
      walk_at "sx"
      refine num_in (by omega) (by omega) ?_
      walk_at "sx"
      exact q
    · refine ifIsT (by rfl) ?_
      walk_at "sx"
      with_reducible refine sx_fld ?_
      walk_at "sx"
      refine hx.rows hI CS fun u ru => ?_
      walk_at "sx"
      refine len_R ru (.inl rfl) ?_
      rw [List.length_map]
      exact q
end


/-! ### a comprehension over a range with a step -/
section
variable {K : PySem.W.Frag} {M : Addr → Prop} {I : Hp → Prop} {te : TE} {vs : List Nat} {σ : L2.St} {H1 : Hp} {Q : VK}
theorem lc_rngC {i : Nat} {lo c : Int} {n : Nat} (f : Nat → D) (hw : Wf M I) (hI : I H1) (hlen : n ≤ sizeLine) (hwp : ∀ v, wipe ((wipe σ vs).set i (some v)) vs = wipe σ vs)
    (he : ∀ (L : Addr) (acc : List V) (k : Nat) (H : Hp), H1 L = none → k < n → Wf (Mq M L) (Iq I L (.lst acc)) → Iq I L (.lst acc) H → Ex (Mq M L) H1 H →
      ∀ Qe : VK, (∀ y H4, Rep K (Mq M L) H4 y (f k) → Iq I L (.lst acc) H4 → Ex (Mq M L) H H4 → Qe y H4) → te ((wipe σ vs).set i (some (.int (lo + (k : Nat) * c)))) H Qe)
    (hq : ∀ y H', Rep K M H' y (.lst ((List.range n).map f)) → Ex M H1 H' → I H' → Q y H') : LcR (gName i) tYes te vs σ Q (Itc lo c n) H1 := by
  have w := walk_rangeC (lo := lo) (c := c) (n := n)
  rw [show Walk (Itc lo c n) n = Walk (Itc lo c n) (List.range n).length by simp] at w
  have at_ : ∀ {k a : Nat}, (List.range n)[k]? = some a → k < n ∧ a = k := fun {k a} h => by
    have hk := (List.getElem?_eq_some_iff.mp h).1
    rw [List.length_range] at hk
    rw [List.getElem?_range hk] at h
    cases h
    exact ⟨hk, rfl⟩
  refine lc_any (K := K) w hw hI (fun _ => true) (fun a d => d = f a) (fun k _ => (wipe σ vs).set i (some (.int (lo + (k : Nat) * c)))) (fun _ _ => trivial) (by simpa using hlen) (fun k a ha => ?_) (fun k a => hwp _) ?_ ?_ ?_
  · exact bd_name fun H x H' y => y
  · intro L acc k a H hL nL ha wf hi ex Qt q
    exact q H hi (Ex.refl _)
  · intro L acc k a H hL nL ha hp wf hi ex Qe q
    obtain ⟨h1, rfl⟩ := at_ ha
    exact he L acc a H hL h1 wf hi ex Qe fun y H4 r i e => q y _ H4 rfl r i e
  · intro L ds H' hL a2 rp ex hi
    rw [a2.eq, filter_tt] at rp
    exact hq _ H' rp ex hi
end
/-! ### standings and tellers, plainly -/
def stF (n : Nat) (part : List (List Nat)) : List Nat := part.reverse.foldl lay (List.replicate n 46)
def eP (p : Nat × List Nat) : D := .tup [.int (p.1 : Nat), .str (T p.2)]
def tellF : List (Nat × List Nat) → List Nat → List (Nat × List Nat)
  | [], _ => []
  | p :: ps, told => if inB (lot p.2) told = true then tellF ps told else p :: tellF ps (uni told (lot p.2))
theorem fold_full : ∀ {l : List (List Nat)} {t : List Nat}, 46 ∉ t → (∀ r ∈ l, r.length = t.length) → l.foldl lay t = t
  | [], _, _, _ => rfl
  | r :: l, t, h, hl => by
    have e : lay t r = t := by
      refine ext_D (lay_len (hl r List.mem_cons_self)) fun k => ?_
      rw [lay_D (hl r List.mem_cons_self)]
      by_cases hk : k < t.length
      · rw [if_neg]
        intro e
        apply h
        rw [← e, List.getD_eq_getElem?_getD, List.getElem?_eq_getElem hk]
        exact List.getElem_mem _
      · rw [if_pos (get_out (by omega)), get_out (by rw [hl r List.mem_cons_self]; omega), get_out (by omega)]
    rw [List.foldl_cons, e]
    exact fold_full h fun r hr => hl r (List.mem_cons_of_mem _ hr)
theorem fold_lenL : ∀ {l : List (List Nat)} {t : List Nat}, (∀ r ∈ l, r.length = t.length) → (l.foldl lay t).length = t.length
  | [], _, _ => rfl
  | r :: l, t, hl => by
    have h1 := lay_len (hl r List.mem_cons_self)
    rw [List.foldl_cons, fold_lenL fun r hr => by rw [h1]; exact hl r (List.mem_cons_of_mem _ hr)]
    exact h1
theorem tell_full : ∀ {ps : List (Nat × List Nat)} {t : List Nat}, 46 ∉ t → LotS t → (∀ p ∈ ps, p.2.length = t.length) → tellF ps t = []
  | [], _, _, _, _ => rfl
  | p :: ps, t, h, ht, hl => by
    have e : inB (lot p.2) t = true := by
      refine all_D (by rw [lot_len]; exact hl p List.mem_cons_self) fun k => ?_
      show (decide ((lot p.2).getD k 46 = 46) || decide (t.getD k 46 = 43)) = true
      by_cases hk : k < t.length
      · have hm : t.getD k 46 ∈ t := by
          rw [List.getD_eq_getElem?_getD, List.getElem?_eq_getElem hk]
          exact List.getElem_mem _
        rcases ht _ hm with e | e
        · rw [e] at hm; exact absurd hm h
        · rw [decide_eq_true e, Bool.or_true]
      · rw [get_out (l := lot p.2) (by rw [lot_len, hl p List.mem_cons_self]; omega)]
        rfl
    unfold tellF
    rw [if_pos e]
    exact tell_full h ht fun p hp => hl p (List.mem_cons_of_mem _ hp)
theorem tell_sub : ∀ {ps : List (Nat × List Nat)} {t : List Nat}, (tellF ps t).Sublist ps
  | [], _ => .slnil
  | p :: ps, t => by
    unfold tellF
    split
    · exact .cons _ tell_sub
    · exact .cons₂ _ tell_sub
section
variable {P : Program} {w : World} {K : PySem.W.Frag} {mg : Str → Option Value} {base : Heap}
def spTell (K : PySem.W.Frag) : Sp := fun vs H Q _ => ∃ (M : Addr → Prop) (I : Hp → Prop) (x : V) (ps : List (Nat × List Nat)) (t : List Nat), Wf M I ∧ I H ∧ vs = [x, .str (T t)] ∧ Rep K M H x (.lst (ps.map eP)) ∧ LotS t ∧ t.length ≤ 1000 ∧ (∀ p ∈ ps, p.2.length = t.length) ∧ ps.length ≤ 1000 ∧ ∀ v H', Rep K M H' v (.lst ((tellF ps t).map eP)) → Ex M H H' → I H' → Q v H'
theorem ok_newest_tellers (B : Bl mg) (G1 : Df P w K mg base 1 "lot_of" ["row"] [] (spLot K)) (G2 : Df P w K mg base 1 "union" ["one", "other"] [] (spUni K)) (G3 : Df P w K mg base 1 "within" ["one", "other"] [] (spIn K)) : Bok P w K mg base 2 "newest_tellers" s_newest_tellers ["pairs", "told"] (spTell K) := by
  refine Bok.mk sc_newest_tellers (fun vs H Q E h => ?_) (fun f cdv A outer s H vs Q E hr h => ⟨_, w_newest_tellers B G1 G2 G3 hr, ?_⟩)
  · obtain ⟨M, I, x, ps, t, _, _, rfl, _⟩ := h
    rfl
  · obtain ⟨M, I, x, ps, t, hw, hI, rfl, hx, ht, htl, hps, hpl, q⟩ := h
    unfold t_newest_tellers
    refine st_eq (σ' := [some x, some (.str (T t)), none, none, none, none]) rfl ?_
    walk_at "sx"
    refine lst_mut hw hI (by decide) fun p H1 hp np e1 w1 i1 => ?_
    have hx1 := (hx.off hp).ex e1
    with_reducible refine gs_name ?_
    dsimp only [List.set_cons_zero, List.set_cons_succ]
    with_reducible refine sx_seqJ (fun σ H2 => ∃ (acc : List V) (u1 u3 u4 u5 : Option V), σ = [some x, u1, some (.ref p), u3, u4, u5] ∧ Iq I p (.lst acc) H2 ∧ Reps K (Mq M p) H2 acc ((tellF ps t).map eP) ∧ Ex (Mq M p) H1 H2) (fun N hN => ?_) ?_
    · walk_at "sx"
      refine for_srcG (as := ps) (enc := eP) hx1 rfl (fun k σ H3 => ∃ (done : List (Nat × List Nat)) (acc : List V) (t3 : List Nat) (u3 u4 u5 : Option V), σ = [some x, some (.str (T t3)), some (.ref p), u3, u4, u5] ∧ done ++ tellF (ps.drop k) t3 = tellF ps t ∧ LotS t3 ∧ t3.length = t.length ∧ done.length ≤ k ∧ Iq I p (.lst acc) H3 ∧ Reps K (Mq M p) H3 acc (done.map eP) ∧ Ex (Mq M p) H1 H3)
        ⟨[], [], t, _, _, _, rfl, rfl, ht, rfl, by simp, i1, .nil, Ex.refl _⟩ (fun k σ H h => by obtain ⟨_, _, _, _, _, _, _, _, _, _, _, _, _, h⟩ := h; exact h) ?_ ?_
      · rintro k pr v σ H3 hk ⟨done, acc, t3, u3, u4, u5, rfl, hd, ht3, hl3, hdl, i3, rs, e3⟩ rv
        have hkl := (List.getElem?_eq_some_iff.mp hk).1
        have hprl := hps pr (List.mem_of_getElem? hk)
        have hdrop : ps.drop k = pr :: ps.drop (k + 1) := by
          obtain ⟨h1, h2⟩ := List.getElem?_eq_some_iff.mp hk
          rw [← h2, List.getElem_cons_drop]
        refine gs_pair rv fun v1 v2 r1 r2 => ?_
        cases rep_int r1
        cases rep_str r2
        dsimp only [List.set_cons_zero, List.set_cons_succ]
        walk_at "sx"
        have w3 := hw.add p (.lst acc)
        have hal : acc.length ≤ 1000 := by have := rs.length; simp at this; omega
        refine ifB (fun h => ?_) (fun h => ?_)
        · have h46 : 46 ∉ t3 := by simpa using h
          walk_at "sx"
          refine hN _ _ ⟨acc, _, _, _, _, rfl, i3, ?_, e3⟩
          rw [← hd, tell_full h46 ht3 fun q hq => by rw [hl3]; exact hps q (List.mem_of_mem_drop hq), List.append_nil]
          exact rs
        · walk_at "sx"
          refine ⟨_, _, pr.2, w3, i3, rfl, by omega, fun H4 e4 i4 => ?_⟩
          walk_at "sx"
          refine ⟨_, _, lot pr.2, t3, w3, i4, rfl, by rw [lot_len]; omega, lotS_lot _, ht3, by rw [lot_len]; omega, fun H5 e5 i5 => ?_⟩
          walk_at "sx"
          cases hin : inB (lot pr.2) t3 with
          | true =>
            walk_at "sx"
            refine ⟨done, acc, t3, _, _, _, rfl, ?_, ht3, hl3, by omega, i5, (rs.ex e4).ex e5, e3.trans (e4.trans e5)⟩
            rw [← hd, hdrop]
            conv => rhs; unfold tellF
            rw [if_pos hin]
          | false =>
            walk_at "sx"
            refine ⟨tyv_l i5.2, ?_⟩
            walk_at "sx"
            refine tup_end (K := K) w3 i5 (.cons (.int _) (.cons (.str _) .nil)) (szOk (by simp)) fun v6 H6 e6 i6 r6 => ?_
            walk_at "sx"
            refine app_mut hw np i6 (by omega) fun H7 e7 w7 i7 => ?_
            walk_at "sx"
            refine ⟨_, _, t3, lot pr.2, w7, i7, rfl, by omega, fun H8 e8 i8 => ?_⟩
            walk_at "sx"
            refine ⟨done ++ [pr], acc ++ [v6], uni t3 (lot pr.2), _, _, _, rfl, ?_, lotS_uni _ _, by rw [uni_len (by rw [lot_len]; omega)]; exact hl3, by simp; omega, i8, ?_, e3.trans (e4.trans (e5.trans (e6.trans (e7.trans e8))))⟩
            · rw [← hd, hdrop]
              conv => rhs; unfold tellF
              rw [if_neg (by rw [hin]; exact Bool.false_ne_true), List.append_assoc]
              rfl
            · rw [List.map_append]
              exact ((((((rs.ex e4).ex e5).ex e6)).append (.cons r6 .nil)).ex e7).ex e8
      · rintro σ H3 ⟨done, acc, t3, u3, u4, u5, rfl, hd, ht3, hl3, hdl, i3, rs, e3⟩
        refine hN _ _ ⟨acc, _, _, _, _, rfl, i3, ?_, e3⟩
        rw [List.drop_length] at hd
        rw [← hd]
        show Reps K (Mq M p) H3 acc ((done ++ []).map eP)
        rw [List.append_nil]
        exact rs
    · rintro σ H2 ⟨acc, u1, u3, u4, u5, rfl, i2, rs, e2⟩
      walk_at "sx"
      exact q _ H2 (.lst i2.2 np (rs.le fun _ m => .inl m)) ((e1.trans e2).shut hp) i2.1
def partF (R : List (List Nat)) (l h : Nat) : List (List Nat) := (R.drop (l - 1)).take (min h R.length - min (l - 1) R.length)
def spWin (K : PySem.W.Frag) : Sp := fun vs H Q _ => ∃ (M : Addr → Prop) (I : Hp → Prop) (x : V) (fr : List (List Nat × Nat)) (S Y R : List (List Nat)) (l h : Nat), Wf M I ∧ I H ∧ vs = [x, .int l, .int h] ∧ StrV K M I H x fr S Y R ∧ fr.length ≤ 1000 ∧ (∀ r ∈ R, r.length = fr.length) ∧ 1 ≤ l ∧ ∀ H', Ex M H H' → I H' → Q (.str (T (stF fr.length (partF R l h)))) H'
theorem ok_Stream_window_row (B : Bl mg) (CB : ClsF K "Band" fl_Band) (CS : ClsF K "Stream" fl_Stream) (G1 : DfM P w K mg base 2 "Band" "blank_row" ["self"] [] (spBBlank K)) (G2 : Df P w K mg base 1 "over" ["newer", "older"] [] (spLay K)) : Bok P w K mg base 3 "Stream.window_row" s_Stream_window_row ["self", "start", "end"] (spWin K) := by
  refine Bok.mk sc_Stream_window_row (fun vs H Q E h => ?_) (fun f cdv A outer s H vs Q E hr h => ⟨_, w_Stream_window_row B CB CS G1 G2 hr, ?_⟩)
  · obtain ⟨M, I, x, fr, S, Y, R, l, h, _, _, rfl, _⟩ := h
    rfl
  · obtain ⟨M, I, x, fr, S, Y, R, l, h, hw, hI, rfl, hx, hf, hR, hl, q⟩ := h
    unfold t_Stream_window_row
    refine st_eq (σ' := [some x, some (.int (l : Nat)), some (.int (h : Nat)), none, none]) rfl ?_
    walk_at "sx"
    with_reducible refine sx_meth ?_
    with_reducible refine sx_fld ?_
    walk_at "sx"
    refine hx.band hI CS fun bv hb => ?_
    refine hb.meth (by decide) ?_
    walk_at "sx"
    refine ⟨M, bv, fr, S, Y, rfl, hb, hf, ?_⟩
    with_reducible refine gs_name ?_
    dsimp only [List.set_cons_zero, List.set_cons_succ]
    with_reducible refine sx_seqJ (fun σ H2 => ∃ (u4 : Option V), σ = [some x, some (.int (l : Nat)), some (.int (h : Nat)), some (.str (T (stF fr.length (partF R l h)))), u4] ∧ I H2 ∧ Ex M H H2) (fun N hN => ?_) ?_
    · walk_at "sx"
      with_reducible refine sx_fld ?_
      walk_at "sx"
      refine hx.rows hI CS fun u ru => ?_
      walk_at "sx"
      have el : ((l : Nat) : Int) - 1 = ((l - 1 : Nat) : Int) := by omega
      rw [el]
      refine sl_Lmid (a := l - 1) (b := h) hw hI ru fun v1 H1 e1 i1 r1 => ?_
      rw [List.length_map, ← List.map_drop, ← List.map_take] at r1
      refine rev_R hw i1 r1 fun v2 H2 e2 i2 r2 => ?_
      rw [← List.map_reverse] at r2
      have hpart : ∀ r ∈ ((R.drop (l - 1)).take (min h R.length - min (l - 1) R.length)).reverse, r.length = fr.length := fun r hr => hR r (List.mem_of_mem_drop (List.mem_of_mem_take (List.mem_reverse.mp hr)))
      have hst : stF fr.length (partF R l h) = ((R.drop (l - 1)).take (min h R.length - min (l - 1) R.length)).reverse.foldl lay (List.replicate fr.length 46) := rfl
      generalize ((R.drop (l - 1)).take (min h R.length - min (l - 1) R.length)).reverse = L at r2 hpart hst
      refine for_src (as := L) (enc := eS) r2 rfl (fun k σ H3 => ∃ (u4 : Option V), σ = [some x, some (.int (l : Nat)), some (.int (h : Nat)), some (.str (T ((L.take k).foldl lay (List.replicate fr.length 46)))), u4] ∧ I H3 ∧ Ex M H2 H3)
        ⟨_, rfl, i2, Ex.refl _⟩ (fun k σ H h => by obtain ⟨_, _, _, h⟩ := h; exact h) ?_ ?_
      · rintro k r v σ H3 hk ⟨u4, rfl, i3, e3⟩ rv
        cases rep_str rv
        have hrl := hpart r (List.mem_of_getElem? hk)
        have hfl : ((L.take k).foldl lay (List.replicate fr.length 46)).length = fr.length := by
          rw [fold_lenL fun r hr => by simpa using hpart r (List.mem_of_mem_take hr)]
          simp
        dsimp only [List.set_cons_zero, List.set_cons_succ]
        walk_at "sx"
        refine ifB (fun h => ?_) (fun h => ?_)
        · have h46 : 46 ∉ (L.take k).foldl lay (List.replicate fr.length 46) := by simpa using h
          walk_at "sx"
          refine hN _ _ ⟨some (.str (T r)), ?_, i3, e1.trans (e2.trans e3)⟩
          rw [hst]
          conv => rhs; rw [← List.take_append_drop k L, List.foldl_append]
          rw [fold_full h46 fun r hr => by rw [hfl]; exact hpart r (List.mem_of_mem_drop hr)]
        · walk_at "sx"
          refine ⟨M, I, _, r, hw, i3, rfl, by omega, fun H4 e4 i4 => ?_⟩
          walk_at "sx"
          refine ⟨some (.str (T r)), ?_, i4, e3.trans e4⟩
          rw [take_snoc hk, List.foldl_append]
          rfl
      · rintro σ H3 ⟨u4, rfl, i3, e3⟩
        refine hN _ _ ⟨u4, ?_, i3, e1.trans (e2.trans e3)⟩
        rw [hst, List.take_length]
    · rintro σ H2 ⟨u4, rfl, i2, e2⟩
      walk_at "sx"
      exact q H2 e2 i2
def spStand (K : PySem.W.Frag) : Sp := fun vs H Q _ => ∃ (M : Addr → Prop) (I : Hp → Prop) (x : V) (fr : List (List Nat × Nat)) (S Y R : List (List Nat)), Wf M I ∧ I H ∧ vs = [x] ∧ StrV K M I H x fr S Y R ∧ fr.length ≤ 1000 ∧ (∀ r ∈ R, r.length = fr.length) ∧ ∀ H', Ex M H H' → I H' → Q (.str (T (stF fr.length R))) H'
theorem part_all (R : List (List Nat)) : partF R 1 R.length = R := by
  unfold partF
  simp
theorem ok_Stream_standing (B : Bl mg) (CS : ClsF K "Stream" fl_Stream) (G1 : DfM P w K mg base 3 "Stream" "window_row" ["self", "start", "end"] [] (spWin K)) : Bok P w K mg base 4 "Stream.standing" s_Stream_standing ["self"] (spStand K) := by
  refine Bok.mk sc_Stream_standing (fun vs H Q E h => ?_) (fun f cdv A outer s H vs Q E hr h => ⟨_, w_Stream_standing B CS G1 hr, ?_⟩)
  · obtain ⟨M, I, x, fr, S, Y, R, _, _, rfl, _⟩ := h
    rfl
  · obtain ⟨M, I, x, fr, S, Y, R, hw, hI, rfl, hx, hf, hR, q⟩ := h
    unfold t_Stream_standing
    refine st_eq (σ' := [some x]) rfl ?_
    walk_at "sx"
    with_reducible refine sx_meth ?_
    walk_at "sx"
    refine hx.meth hI (by decide) ?_
    walk_at "sx"
    with_reducible refine sx_fld ?_
    walk_at "sx"
    refine hx.rows hI CS fun u ru => ?_
    walk_at "sx"
    refine len_R ru (.inl rfl) ?_
    rw [List.length_map]
    walk_at "sx"
    refine ⟨M, I, x, fr, S, Y, R, 1, R.length, hw, hI, rfl, hx, hf, hR, by omega, fun H1 e1 i1 => ?_⟩
    rw [part_all]
    exact q H1 e1 i1
def spWindow (K : PySem.W.Frag) : Sp := fun vs H Q _ => ∃ (M : Addr → Prop) (I : Hp → Prop) (x v : V) (fr : List (List Nat × Nat)) (S Y R : List (List Nat)) (l h : Nat), Wf M I ∧ I H ∧ vs = [x, .int l, v] ∧ StrV K M I H x fr S Y R ∧ fr.length ≤ 1000 ∧ (∀ r ∈ R, r.length = fr.length) ∧ hiV R v h ∧ 1 ≤ l ∧ l ≤ h ∧ h ≤ R.length ∧ ∀ H', Ex M H H' → I H' → Q (.str (T (stF fr.length (partF R l h)))) H'
end


/-! ### tellers, making a stream, telling on -/
def prsF (R : List (List Nat)) (l h : Nat) : List (Nat × List Nat) := (List.range (h - (l - 1))).map fun k => (h - k, R.getD (h - k - 1) [])
def telF (n : Nat) (R : List (List Nat)) (l h : Nat) : List Nat := (tellF (prsF R l h) (List.replicate n 46)).map (·.1)
def eN (n : Nat) : D := .int n
theorem lot_blank (n : Nat) : lot (List.replicate n 46) = List.replicate n 46 := by simp [lot]
section
variable {K : PySem.W.Frag} {M : Addr → Prop} {I : Hp → Prop} {α : Type} {as : List α} {tt : TT} {te : TE} {vs : List Nat} {σ : L2.St} {H1 : Hp} {Q : VK} {enc enc2 : α → D}
/-- [e for x, y in a list of pairs if t] -/
theorem lc_srcPN {i j : Nat} {x : V} {d : D} (hw : Wf M I) (hI : I H1) (hx : Rep K M H1 x d) (hd : d.elems = some (as.map fun a => .tup [enc a, enc2 a])) (hlen : as.length ≤ sizeLine) (hwp : ∀ v w, wipe (((wipe σ vs).set i (some v)).set j (some w)) vs = wipe σ vs) (p : α → Bool) (P : α → D → Prop)
    (ht : ∀ (L : Addr) (acc : List V) (k : Nat) (a : α) (v w : V) (H : Hp), H1 L = none → ¬ M L → as[k]? = some a → Rep K (Mq M L) H v (enc a) → Rep K (Mq M L) H w (enc2 a) → Wf (Mq M L) (Iq I L (.lst acc)) → Iq I L (.lst acc) H → Ex (Mq M L) H1 H →
      ∀ Qt : Bool → Hp → Prop, (∀ H3, Iq I L (.lst acc) H3 → Ex (Mq M L) H H3 → Qt (p a) H3) → tt (((wipe σ vs).set i (some v)).set j (some w)) H Qt)
    (he : ∀ (L : Addr) (acc : List V) (k : Nat) (a : α) (v w : V) (H : Hp), H1 L = none → ¬ M L → as[k]? = some a → p a = true → Rep K (Mq M L) H v (enc a) → Rep K (Mq M L) H w (enc2 a) → Wf (Mq M L) (Iq I L (.lst acc)) → Iq I L (.lst acc) H → Ex (Mq M L) H1 H →
      ∀ Qe : VK, (∀ y d H4, P a d → Rep K (Mq M L) H4 y d → Iq I L (.lst acc) H4 → Ex (Mq M L) H H4 → Qe y H4) → te (((wipe σ vs).set i (some v)).set j (some w)) H Qe)
    (hq : ∀ L ds H', H1 L = none → A2 P (as.filter p) ds → Rep K M H' (.ref L) (.lst ds) → Ex M H1 H' → I H' → Q (.ref L) H') : srcR K (LcR (gTup K 2 (gCons (gName i) (gCons (gName j) gNil))) tt te vs σ Q) x H1 := by
  obtain ⟨S, xs, rfl, r, hS⟩ := src_of hx hd
  have hl : xs.length = as.length := by simpa using r.length
  have key : ∀ {J : It} {G : Hp → Prop} {Y : Nat → Hp → V → Hp → Prop}, L2.Walk J as.length G Y → (∀ H', Ex M H1 H' → G H') → (∀ k H x H', Y k H x H' → H' = H ∧ xs[k]? = some x) → LcR (gTup K 2 (gCons (gName i) (gCons (gName j) gNil))) tt te vs σ Q J H1 := fun {J G Y} w hG hY => by
    have pair : ∀ {k : Nat} {a : α}, as[k]? = some a → ∃ p v w, xs[k]? = some (.ref p) ∧ ¬ M p ∧ H1 p = some (.tup [v, w]) ∧ Rep K M H1 v (enc a) ∧ Rep K M H1 w (enc2 a) ∧ prOf H1 (xs.getD k .non) = (v, w) := fun {k a} ha => by
      obtain ⟨x, hx, rx⟩ := r.get (k := k) (d := .tup [enc a, enc2 a]) (by simp [ha])
      cases rx with
      | @tup p _ _ h n r =>
        cases r with
        | cons r1 r2 => cases r2 with
          | cons r2 r3 =>
            cases r3
            refine ⟨p, _, _, hx, n, h, r1, r2, ?_⟩
            rw [show xs.getD k .non = .ref p by simp [List.getD, hx]]
            simp only [prOf, h]
    refine lc_any2 (K := K) w hw hI p P (fun k _ => ((wipe σ vs).set i (some (prOf H1 (xs.getD k .non)).1)).set j (some (prOf H1 (xs.getD k .non)).2)) hG hlen (fun k a ha => ?_) (fun k a => hwp _ _) ?_ ?_ ?_
    · intro H x H' Qc eH y q
      obtain ⟨rfl, e2⟩ := hY k H x H' y
      obtain ⟨p, v, w, hx, n, h, _, _, ep⟩ := pair ha
      rw [hx] at e2
      cases e2
      rw [ep] at q
      exact ⟨p, [v, w], rfl, SqT.of (eH p _ n h), rfl, v, [w], rfl, w, [], rfl, rfl, q _ (L2.Same.refl _)⟩
    · intro L acc k a H hL nL ha wf hi ex Qt q
      obtain ⟨p, v, w, _, _, _, r1, r2, ep⟩ := pair ha
      rw [ep]
      exact ht L acc k a v w H hL nL ha ((r1.off hL).ex ex) ((r2.off hL).ex ex) wf hi ex Qt q
    · intro L acc k a H hL nL ha hp wf hi ex Qt q
      obtain ⟨p, v, w, _, _, _, r1, r2, ep⟩ := pair ha
      rw [ep]
      exact he L acc k a v w H hL nL ha hp ((r1.off hL).ex ex) ((r2.off hL).ex ex) wf hi ex Qt q
    · exact fun L ds H' hL a2 rp ex hi => hq L ds H' hL a2 rp ex hi
  cases S with
  | lst a =>
    refine .inl ⟨a, rfl, ⟨xs, hS H1 (Ex.refl _)⟩, ?_⟩
    have w := walk_list (K := K) (a := a) (xs := xs)
    rw [hl] at w
    exact key w hS fun k H x H' y => y
  | tup a =>
    refine .inr (.inl ⟨a, rfl, ⟨xs, hS H1 (Ex.refl _)⟩, ?_⟩)
    have w := walk_tup (K := K) (a := a) (xs := xs)
    rw [hl] at w
    exact key w hS fun k H x H' y => y
  | txt z =>
    refine .inr (.inr ⟨z, rfl, ?_⟩)
    have hxs : xs = Nt.signs z := hS H1 (Ex.refl _)
    have w := walk_str (z := z)
    have hz : z.cps.size = as.length := by rw [← hl, hxs]; simp [Nt.signs]
    rw [hz] at w
    refine key w (fun _ _ => trivial) fun k H x H' y => ⟨y.1, ?_⟩
    obtain ⟨_, c, e1, e2⟩ := y
    rw [hxs, e2]
    simp [Nt.signs, e1]
end
section
variable {P : Program} {w : World} {K : PySem.W.Frag} {mg : Str → Option Value} {base : Heap}
def spTellers (K : PySem.W.Frag) : Sp := fun vs H Q _ => ∃ (M : Addr → Prop) (I : Hp → Prop) (x v : V) (fr : List (List Nat × Nat)) (S Y R : List (List Nat)) (l h : Nat), Wf M I ∧ I H ∧ vs = [x, .int l, v] ∧ StrV K M I H x fr S Y R ∧ fr.length ≤ 1000 ∧ (∀ r ∈ R, r.length = fr.length) ∧ (∀ r ∈ R, ∀ c ∈ r, c < 128) ∧ R.length ≤ 1000 ∧
  ((R = [] ∧ l = 1 ∧ v = .non ∧ h = 0) ∨ (hiV R v h ∧ 1 ≤ l ∧ l ≤ h ∧ h ≤ R.length)) ∧ ∀ p H', H p = none → Rep K M H' (.ref p) (.lst ((telF fr.length R l h).map eN)) → Ex M H H' → I H' → Q (.ref p) H'
def spSInit (K : PySem.W.Frag) : Sp := fun vs H Q _ => ∃ (M : Addr → Prop) (I : Hp → Prop) (a dx : Addr) (bv rv : V) (fr : List (List Nat × Nat)) (S Y R : List (List Nat)), Wf M I ∧ ¬ M a ∧ Iq I a (.ins (He.ga K "Stream") dx []) H ∧ vs = [.ref a, bv, rv] ∧ BandOk K (Mq M a) H bv fr S Y ∧ Rep K (Mq M a) H rv (.lst (R.map eS)) ∧ fr.length ≤ 1000 ∧ R.length ≤ 400 ∧ (∀ r ∈ R, isRow fr r = true ∧ r ∈ Y) ∧
  ∀ fs lv H', fs.length ≤ 2 → fs.lookup ("band" : Str) = some bv → fs.lookup ("row_list" : Str) = some lv → (∀ f, f ∉ fl_Stream → fs.lookup f = none) → Rep K (Mq M a) H' lv (.lst (R.map eS)) → Ex (Mq M a) H H' → Iq I a (.ins (He.ga K "Stream") dx fs) H' → Q .non H'
theorem ok_Stream_init (B : Bl mg) (CB : ClsF K "Band" fl_Band) (CS : ClsF K "Stream" fl_Stream) (G1 : DfM P w K mg base 2 "Band" "check_row" ["self", "row"] [] (spBCheck K)) : Bok P w K mg base 3 "Stream.__init__" s_Stream___init__ ["self", "band", "rows"] (spSInit K) := by
  refine Bok.mk sc_Stream___init__ (fun vs H Q E h => ?_) (fun f cdv A outer s H vs Q E hr h => ⟨_, w_Stream___init__ B CB CS G1 hr, ?_⟩)
  · obtain ⟨M, I, a, dx, bv, rv, fr, S, Y, R, _, _, _, rfl, _⟩ := h
    rfl
  · obtain ⟨M, I, a, dx, bv, rv, fr, S, Y, R, hw, na, i0, rfl, hb, hr', hf, hRl, hR, q⟩ := h
    have hWf : ∀ fs, Wf (Mq M a) (Iq I a (.ins (He.ga K "Stream") dx fs)) := fun fs => hw.add a _
    unfold t_Stream___init__
    refine st_eq (σ' := [some (.ref a), some bv, some rv, none]) rfl ?_
    walk_at "sx"
    refine len_R hr' (.inl rfl) ?_
    rw [List.length_map]
    walk_at "sx"
    refine ifIsF (decide_eq_false (by omega)) ?_
    walk_at "sx"
    refine for_src (as := R) (enc := eS) hr' rfl (fun k σ H3 => ∃ u3, σ = [some (.ref a), some bv, some rv, u3] ∧ Iq I a (.ins (He.ga K "Stream") dx []) H3 ∧ Ex (Mq M a) H H3)
      ⟨_, rfl, i0, Ex.refl _⟩ (fun k σ H h => by obtain ⟨_, _, _, h⟩ := h; exact h) ?_ ?_
    · rintro k r v σ H3 hk ⟨u3, rfl, i3, e3⟩ rv
      cases rep_str rv
      obtain ⟨h1, h2⟩ := hR r (List.mem_of_getElem? hk)
      walk_at "sx"
      with_reducible refine sx_meth ?_
      walk_at "sx"
      refine (hb.ex e3).meth (by decide) ?_
      walk_at "sx"
      refine ⟨_, _, bv, fr, S, Y, r, hWf [], i3, rfl, hb.ex e3, hf, h1, h2, fun H4 e4 i4 => ?_⟩
      walk_at "sx"
      exact ⟨_, rfl, i4, e3.trans e4⟩
    · rintro σ H3 ⟨u3, rfl, i3, e3⟩
      walk_at "sx"
      with_reducible refine sx_sfld ?_
      walk_at "sx"
      refine set_fld hw na i3 CS (by decide) (by decide) fun H4 e4 i4 => ?_
      walk_at "sx"
      with_reducible refine sx_sfld ?_
      walk_at "sx"
      refine list_R (hWf _) i4 (hr'.ex (e3.trans e4)) (.inl rfl) fun v5 H5 e5 i5 r5 => ?_
      walk_at "sx"
      refine set_fld hw na i5 CS (by decide) (Nat.lt_of_le_of_lt (lput (Nat.le_refl 0)) (by decide)) fun H6 e6 i6 => ?_
      refine q _ v5 H6 (lput (lput (fs := []) (Nat.le_refl 0))) ?_ ?_ ?_ (r5.ex e6) (e3.trans (e4.trans (e5.trans e6))) i6
      · rw [lookup_putF, if_neg (by decide), lookup_putF, if_pos rfl]
      · rw [lookup_putF, if_pos rfl]
      · intro f hf
        rw [lookup_putF, if_neg (fun e => hf (by subst e; decide)), lookup_putF, if_neg (fun e => hf (by subst e; decide))]
        rfl
end


/-! ### the newest sign, the newest tellers, plainly -/
def fstK : List (List Nat) → Nat → Nat
  | [], _ => 46
  | r :: L, k => if r.getD k 46 = 46 then fstK L k else r.getD k 46
theorem fold_D : ∀ {L : List (List Nat)} {t : List Nat} {k : Nat}, (∀ r ∈ L, r.length = t.length) → (L.foldl lay t).getD k 46 = if t.getD k 46 = 46 then fstK L k else t.getD k 46
  | [], t, k, _ => by
    show t.getD k 46 = if t.getD k 46 = 46 then 46 else t.getD k 46
    split <;> simp_all
  | r :: L, t, k, h => by
    have hr := h r List.mem_cons_self
    have hl : (lay t r).length = t.length := lay_len hr
    rw [List.foldl_cons, fold_D (L := L) (t := lay t r) fun r hr => by rw [hl]; exact h r (List.mem_cons_of_mem _ hr), lay_D hr]
    by_cases e : t.getD k 46 = 46
    · simp only [e, if_true]
      rfl
    · simp only [e, if_false]
def tlB (k : Nat) (r : List Nat) : Bool := !decide (r.getD k 46 = 46)
theorem fst_filter : ∀ {L : List (List Nat)} {k : Nat}, (L.filter (tlB k) = [] → fstK L k = 46) ∧ ∀ z M, L.filter (tlB k) = z :: M → fstK L k = z.getD k 46
  | [], k => ⟨fun _ => rfl, fun _ _ h => by cases h⟩
  | r :: L, k => by
    obtain ⟨h1, h2⟩ := fst_filter (L := L) (k := k)
    by_cases e : r.getD k 46 = 46
    · have eb : tlB k r = false := by unfold tlB; rw [decide_eq_true e]; rfl
      rw [List.filter_cons, eb, if_neg Bool.false_ne_true]
      exact ⟨fun h => by unfold fstK; rw [if_pos e]; exact h1 h, fun z M h => by unfold fstK; rw [if_pos e]; exact h2 z M h⟩
    · have eb : tlB k r = true := by unfold tlB; rw [decide_eq_false e]; rfl
      rw [List.filter_cons, eb, if_pos rfl]
      refine ⟨(fun h => by cases h), fun z M h => ?_⟩
      cases h
      unfold fstK
      rw [if_neg e]
theorem fst_last {part : List (List Nat)} {k : Nat} : (part.filter (tlB k) = [] → fstK part.reverse k = 46) ∧ ∀ z L0, part.filter (tlB k) = L0 ++ [z] → fstK part.reverse k = z.getD k 46 := by
  obtain ⟨h1, h2⟩ := fst_filter (L := part.reverse) (k := k)
  rw [List.filter_reverse] at h1 h2
  refine ⟨fun h => h1 (by rw [h]; rfl), fun z L0 h => h2 z L0.reverse (by rw [h]; simp)⟩
theorem stF_D {n : Nat} {part : List (List Nat)} {k : Nat} (h : ∀ r ∈ part, r.length = n) : (stF n part).getD k 46 = fstK part.reverse k := by
  unfold stF
  rw [fold_D fun r hr => by simpa using h r (List.mem_reverse.mp hr)]
  rw [if_pos]
  by_cases hk : k < n
  · simp [List.getD_eq_getElem?_getD, hk]
  · exact get_out (by simp; omega)
theorem stF_len {n : Nat} {part : List (List Nat)} (h : ∀ r ∈ part, r.length = n) : (stF n part).length = n := by
  unfold stF
  rw [fold_lenL fun r hr => by simpa using h r (List.mem_reverse.mp hr)]
  simp
theorem stF_list {n : Nat} {part : List (List Nat)} (h : ∀ r ∈ part, r.length = n) : (List.range n).map (fun k => fstK part.reverse k) = stF n part := by
  refine List.ext_getElem (by rw [stF_len h]; simp) fun k h1 h2 => ?_
  have := stF_D (k := k) h
  rw [List.getD_eq_getElem?_getD, List.getElem?_eq_getElem h2] at this
  simp only [List.getElem_map, List.getElem_range]
  exact this.symm
/-- where a told lot is nothing -/
theorem inB_iff {r t : List Nat} (hl : r.length = t.length) (ht : LotS t) : inB (lot r) t = true ↔ ∀ k, r.getD k 46 ≠ 46 → t.getD k 46 ≠ 46 := by
  have lts : ∀ k, t.getD k 46 = 46 ∨ t.getD k 46 = 43 := fun k => by
    by_cases hk : k < t.length
    · rw [List.getD_eq_getElem?_getD, List.getElem?_eq_getElem hk]
      exact ht _ (List.getElem_mem _)
    · exact .inl (get_out (by omega))
  constructor
  · intro h k hk e
    have hkl : k < r.length := by
      apply Classical.byContradiction
      intro hn
      exact hk (get_out (by omega))
    have h1 := List.all_eq_true.mp h ((lot r).getD k 46, t.getD k 46) (by
      have e1 : (lot r)[k]? = some ((lot r).getD k 46) := by rw [List.getD_eq_getElem?_getD, List.getElem?_eq_getElem (by rw [lot_len]; exact hkl)]; rfl
      have e2 : t[k]? = some (t.getD k 46) := by rw [List.getD_eq_getElem?_getD, List.getElem?_eq_getElem (by omega)]; rfl
      exact List.mem_of_getElem? (List.getElem?_zip_eq_some.mpr ⟨e1, e2⟩))
    rw [lot_D, if_neg hk, e] at h1
    simp at h1
  · intro h
    refine all_D (by rw [lot_len]; exact hl) fun k => ?_
    show (decide ((lot r).getD k 46 = 46) || decide (t.getD k 46 = 43)) = true
    by_cases e : r.getD k 46 = 46
    · rw [lot_D, if_pos e]; rfl
    · rcases lts k with e2 | e2
      · exact absurd e2 (h k e)
      · rw [decide_eq_true e2, Bool.or_true]
theorem tell_mem : ∀ {ps : List (Nat × List Nat)} {t : List Nat}, LotS t → (∀ p ∈ ps, p.2.length = t.length) → ∀ p, p ∈ tellF ps t ↔ ∃ i : Nat, ps[i]? = some p ∧ ∃ k, p.2.getD k 46 ≠ 46 ∧ t.getD k 46 = 46 ∧ ∀ (j : Nat) q, j < i → ps[j]? = some q → q.2.getD k 46 = 46
  | [], _, _, _, p => by simp [tellF]
  | a :: ps, t, ht, hl, p => by
    have hal := hl a List.mem_cons_self
    have hl2 : ∀ p ∈ ps, p.2.length = t.length := fun p hp => hl p (List.mem_cons_of_mem _ hp)
    unfold tellF
    by_cases hin : inB (lot a.2) t = true
    · rw [if_pos hin, tell_mem ht hl2 p]
      have hin2 := (inB_iff hal ht).mp hin
      constructor
      · rintro ⟨i, h1, k, h2, h3, h4⟩
        refine ⟨i + 1, h1, k, h2, h3, fun j q hj hq => ?_⟩
        cases j with
        | zero =>
          cases hq
          apply Classical.byContradiction
          intro hn
          exact hin2 k hn h3
        | succ j => exact h4 j q (by omega) hq
      · rintro ⟨i, h1, k, h2, h3, h4⟩
        cases i with
        | zero =>
          cases h1
          exact absurd h3 (hin2 k h2)
        | succ i => exact ⟨i, h1, k, h2, h3, fun j q hj hq => h4 (j + 1) q (by omega) hq⟩
    · rw [if_neg hin]
      have hul : (uni t (lot a.2)).length = t.length := uni_len (by rw [lot_len]; exact hal)
      have hu : ∀ k, (uni t (lot a.2)).getD k 46 = 46 ↔ t.getD k 46 = 46 ∧ a.2.getD k 46 = 46 := fun k => by
        have lts : t.getD k 46 = 46 ∨ t.getD k 46 = 43 := by
          by_cases hk : k < t.length
          · rw [List.getD_eq_getElem?_getD, List.getElem?_eq_getElem hk]
            exact ht _ (List.getElem_mem _)
          · exact .inl (get_out (by omega))
        rw [uni_D (by rw [lot_len]; exact hal), lot_D]
        generalize a.2.getD k 46 = y
        generalize t.getD k 46 = z at lts
        by_cases e : y = 46 <;> rcases lts with e2 | e2 <;> simp [e, e2]
      rw [List.mem_cons, tell_mem (lotS_uni _ _) (fun p hp => by rw [hul]; exact hl2 p hp) p]
      constructor
      · rintro (rfl | ⟨i, h1, k, h2, h3, h4⟩)
        · have : ∃ k, p.2.getD k 46 ≠ 46 ∧ t.getD k 46 = 46 := by
            apply Classical.byContradiction
            intro hn
            exact hin ((inB_iff hal ht).mpr fun k h1 h2 => hn ⟨k, h1, h2⟩)
          obtain ⟨k, h1, h2⟩ := this
          exact ⟨0, rfl, k, h1, h2, fun j q hj => absurd hj (by omega)⟩
        · obtain ⟨g1, g2⟩ := (hu k).mp h3
          refine ⟨i + 1, h1, k, h2, g1, fun j q hj hq => ?_⟩
          cases j with
          | zero => cases hq; exact g2
          | succ j => exact h4 j q (by omega) hq
      · rintro ⟨i, h1, k, h2, h3, h4⟩
        cases i with
        | zero => cases h1; exact .inl rfl
        | succ i => exact .inr ⟨i, h1, k, h2, (hu k).mpr ⟨h3, h4 0 a (by omega) rfl⟩, fun j q hj hq => h4 (j + 1) q (by omega) hq⟩
/-- a moment is a teller: plainly -/
def IsTel (R : List (List Nat)) (l h m : Nat) : Prop := l ≤ m ∧ m ≤ h ∧ ∃ k, (R.getD (m - 1) []).getD k 46 ≠ 46 ∧ ∀ m', m < m' → m' ≤ h → (R.getD (m' - 1) []).getD k 46 = 46
theorem prs_get {R : List (List Nat)} {l h i : Nat} {p : Nat × List Nat} : (prsF R l h)[i]? = some p ↔ i < h - (l - 1) ∧ p = (h - i, R.getD (h - i - 1) []) := by
  unfold prsF
  rw [List.getElem?_map]
  by_cases hi : i < h - (l - 1)
  · rw [List.getElem?_range hi]
    simp [hi, eq_comm]
  · rw [List.getElem?_eq_none (by simp; omega)]
    simp [hi]
theorem tel_mem {n : Nat} {R : List (List Nat)} {l h m : Nat} (hl : 1 ≤ l) (hh : h ≤ R.length) (hR : ∀ r ∈ R, r.length = n) : m ∈ telF n R l h ↔ IsTel R l h m := by
  have hpl : ∀ p ∈ prsF R l h, p.2.length = (List.replicate n 46).length := by
    intro p hp
    obtain ⟨i, hi⟩ := List.mem_iff_getElem?.mp hp
    obtain ⟨h1, rfl⟩ := prs_get.mp hi
    have hlt : h - i - 1 < R.length := by omega
    simp only [List.length_replicate]
    rw [List.getD_eq_getElem?_getD, List.getElem?_eq_getElem hlt]
    exact hR _ (List.getElem_mem _)
  have hb : ∀ k, (List.replicate n 46).getD k 46 = 46 := fun k => by
    by_cases hk : k < n
    · simp [List.getD_eq_getElem?_getD, hk]
    · exact get_out (by simp; omega)
  unfold telF
  rw [List.mem_map]
  constructor
  · rintro ⟨p, hp, rfl⟩
    obtain ⟨i, h1, k, h2, _, h4⟩ := (tell_mem (fun c hc => .inl (List.eq_of_mem_replicate hc)) hpl p).mp hp
    obtain ⟨g1, rfl⟩ := prs_get.mp h1
    refine ⟨by show l ≤ h - i; omega, by show h - i ≤ h; omega, k, h2, fun m' hm1 hm2 => ?_⟩
    have hm1 : h - i < m' := hm1
    have := h4 (h - m') (h - (h - m'), R.getD (h - (h - m') - 1) []) (by omega) (prs_get.mpr ⟨by omega, rfl⟩)
    rw [show h - (h - m') = m' by omega] at this
    exact this
  · rintro ⟨h1, h2, k, h3, h4⟩
    refine ⟨(m, R.getD (m - 1) []), (tell_mem (fun c hc => .inl (List.eq_of_mem_replicate hc)) hpl _).mpr ⟨h - m, prs_get.mpr ⟨by omega, by rw [show h - (h - m) = m by omega]⟩, k, h3, hb k, fun j q hj hq => ?_⟩, rfl⟩
    obtain ⟨g1, rfl⟩ := prs_get.mp hq
    exact h4 (h - j) (by omega) (by omega)
theorem tel_desc {n : Nat} {R : List (List Nat)} {l h : Nat} : (telF n R l h).Pairwise (· > ·) := by
  unfold telF
  rw [List.pairwise_map]
  refine List.Pairwise.sublist tell_sub ?_
  unfold prsF
  rw [List.pairwise_map]
  refine List.Pairwise.imp_of_mem ?_ List.pairwise_lt_range
  intro a b ha hb hab
  have := List.mem_range.mp hb
  show h - b < h - a
  omega
theorem desc_one : ∀ {A B : List Nat}, A.Pairwise (· > ·) → B.Pairwise (· > ·) → (∀ m, m ∈ A ↔ m ∈ B) → A = B
  | [], [], _, _, _ => rfl
  | [], b :: B, _, _, h => by have := (h b).mpr List.mem_cons_self; cases this
  | a :: A, [], _, _, h => by have := (h a).mp List.mem_cons_self; cases this
  | a :: A, b :: B, hA, hB, h => by
    obtain ⟨a1, a2⟩ := List.pairwise_cons.mp hA
    obtain ⟨b1, b2⟩ := List.pairwise_cons.mp hB
    have e : a = b := by
      rcases List.mem_cons.mp ((h a).mp List.mem_cons_self) with e | e
      · exact e
      · rcases List.mem_cons.mp ((h b).mpr List.mem_cons_self) with e2 | e2
        · exact e2.symm
        · have := b1 a e
          have := a1 b e2
          omega
    subst e
    rw [desc_one a2 b2 fun m => ?_]
    constructor
    · intro hm
      rcases List.mem_cons.mp ((h m).mp (List.mem_cons_of_mem _ hm)) with rfl | e
      · exact absurd (a1 m hm) (by omega)
      · exact e
    · intro hm
      rcases List.mem_cons.mp ((h m).mpr (List.mem_cons_of_mem _ hm)) with rfl | e
      · exact absurd (b1 m hm) (by omega)
      · exact e


/-! ### a stream that goes on; the law's own tellers -/
section
variable {P : Program} {w : World} {K : PySem.W.Frag} {mg : Str → Option Value} {base : Heap}
theorem mq_swap {M : Addr → Prop} {a b : Addr} : Mq (Mq M a) b = Mq (Mq M b) a := by
  funext x
  exact propext ⟨fun h => h.elim (fun h => h.elim (fun h => .inl (.inl h)) .inr) fun h => .inl (.inr h), fun h => h.elim (fun h => h.elim (fun h => .inl (.inl h)) .inr) fun h => .inl (.inr h)⟩
theorem iq_swap {I : Hp → Prop} {a b : Addr} {o p : HO} : Iq (Iq I a o) b p = Iq (Iq I b p) a o := by
  funext H
  exact propext ⟨fun h => ⟨⟨h.1.1, h.2⟩, h.1.2⟩, fun h => ⟨⟨h.1.1, h.2⟩, h.1.2⟩⟩
/-- a stream that may change -/
def StrM (K : PySem.W.Frag) (M : Addr → Prop) (I : Hp → Prop) (H : Hp) (s dx : Addr) (fs : List (Str × V)) (fr : List (List Nat × Nat)) (S Y R : List (List Nat)) : Prop :=
  Wf M I ∧ ¬ M s ∧ Iq I s (.ins (He.ga K "Stream") dx fs) H ∧ fs.length ≤ 2 ∧ (∀ f, f ∉ fl_Stream → fs.lookup f = none) ∧ ∃ bv lv, fs.lookup ("band" : Str) = some bv ∧ fs.lookup ("row_list" : Str) = some lv ∧ BandOk K (Mq M s) H bv fr S Y ∧ Rep K (Mq M s) H lv (.lst (R.map eS))
section
variable {M : Addr → Prop} {I : Hp → Prop} {H H' : Hp} {s dx : Addr} {fs : List (Str × V)} {fr : List (List Nat × Nat)} {S Y R : List (List Nat)}
theorem StrM.ex (h : StrM K M I H s dx fs fr S Y R) (e : Ex (Mq M s) H H') (i : Iq I s (.ins (He.ga K "Stream") dx fs) H') : StrM K M I H' s dx fs fr S Y R := by
  obtain ⟨h1, h2, h3, h4, h5, bv, lv, h6, h7, h8, h9⟩ := h
  exact ⟨h1, h2, i, h4, h5, bv, lv, h6, h7, h8.ex e, h9.ex e⟩
theorem StrM.v (h : StrM K M I H s dx fs fr S Y R) : StrV K (Mq M s) (Iq I s (.ins (He.ga K "Stream") dx fs)) H (.ref s) fr S Y R := by
  obtain ⟨h1, h2, h3, h4, h5, bv, lv, h6, h7, h8, h9⟩ := h
  exact ⟨s, dx, fs, bv, lv, rfl, fun _ _ i => i.2, h6, h7, h5, h8, h9⟩
end
theorem putF_len {f : Str} {y u : V} {fs : List (Str × V)} (h : fs.lookup f = some u) : (putF f y fs).length = fs.length := by
  induction fs with
  | nil => simp at h
  | cons p fs ih =>
    obtain ⟨g, z⟩ := p
    rw [List.lookup_cons] at h
    unfold putF
    split at h
    · simp_all
    · rename_i hne
      have hne : ¬ g = f := fun e => by simp [e] at hne
      rw [if_neg hne]
      simp [ih h]
def spTellB (K : PySem.W.Frag) : Sp := fun vs H Q _ => ∃ (M : Addr → Prop) (I : Hp → Prop) (s dx : Addr) (fs : List (Str × V)) (v : V) (fr : List (List Nat × Nat)) (S Y R rs : List (List Nat)), StrM K M I H s dx fs fr S Y R ∧ vs = [.ref s, v] ∧ Rep K (Mq M s) H v (.tup (rs.map eS)) ∧ fr.length ≤ 1000 ∧ R.length + rs.length ≤ 400 ∧ (∀ r ∈ rs, isRow fr r = true ∧ r ∈ Y) ∧
  ∀ fs' H', StrM K M I H' s dx fs' fr S Y (R ++ rs) → Ex (Mq M s) H H' → Q (.int ((R ++ rs).length : Nat)) H'
theorem ok_Stream_tell (B : Bl mg) (CB : ClsF K "Band" fl_Band) (CS : ClsF K "Stream" fl_Stream) (F : AtS K "Stream" "tell" "Stream.tell" s_Stream_tell ["self"] "rows") (G1 : DfM P w K mg base 2 "Band" "check_row" ["self", "row"] [] (spBCheck K)) :
    DfS P w K mg base 3 "Stream" "tell" (spS 1 (spTellB K)) := by
  refine F.ds sc_Stream_tell (fun f cdv A outer s H vs Q E hr h => ⟨_, w_Stream_tell B CB CS G1 hr, ?_⟩)
  obtain ⟨M, I, s, dx, fs, v, fr, S, Y, R, rs, hs, rfl, hv, hf, hl, hrs, q⟩ := h
  have hs0 := hs
  obtain ⟨hw, np, i0, hfl, hno, bv, lv, hb1, hl1, hb, hrl⟩ := hs0
  have hWf : ∀ fs, Wf (Mq M s) (Iq I s (.ins (He.ga K "Stream") dx fs)) := fun fs => hw.add s _
  unfold t_Stream_tell
  refine st_eq (σ' := [some (.ref s), some v, none]) rfl ?_
  walk_at "sx"
  with_reducible refine sx_fld ?_
  walk_at "sx"
  refine hs.v.rows i0 CS fun u ru => ?_
  walk_at "sx"
  refine len_R ru (.inl rfl) ?_
  rw [List.length_map]
  walk_at "sx"
  refine len_R hv (.inr rfl) ?_
  rw [List.length_map]
  walk_at "sx"
  refine ifIsF (decide_eq_false (by omega)) ?_
  walk_at "sx"
  refine for_src (as := rs) (enc := eS) hv rfl (fun k σ H3 => ∃ u3, σ = [some (.ref s), some v, u3] ∧ Iq I s (.ins (He.ga K "Stream") dx fs) H3 ∧ Ex (Mq M s) H H3)
    ⟨_, rfl, i0, Ex.refl _⟩ (fun k σ H h => by obtain ⟨_, _, _, h⟩ := h; exact h) ?_ ?_
  · rintro k r v1 σ H3 hk ⟨u3, rfl, i3, e3⟩ rv
    cases rep_str rv
    obtain ⟨h1, h2⟩ := hrs r (List.mem_of_getElem? hk)
    walk_at "sx"
    with_reducible refine sx_meth ?_
    with_reducible refine sx_fld ?_
    walk_at "sx"
    refine (hs.v.ex e3).band i3 CS fun bv2 hb2 => ?_
    refine hb2.meth (by decide) ?_
    walk_at "sx"
    refine ⟨_, _, bv2, fr, S, Y, r, hWf fs, i3, rfl, hb2, hf, h1, h2, fun H4 e4 i4 => ?_⟩
    walk_at "sx"
    exact ⟨_, rfl, i4, e3.trans e4⟩
  · rintro σ H3 ⟨u3, rfl, i3, e3⟩
    walk_at "sx"
    with_reducible refine sx_sfld ?_
    walk_at "sx"
    with_reducible refine sx_fld ?_
    walk_at "sx"
    refine (hs.v.ex e3).rows i3 CS fun u2 ru2 => ?_
    walk_at "sx"
    refine list_R (hWf _) i3 (hv.ex e3) (.inr rfl) fun v5 H5 e5 i5 r5 => ?_
    walk_at "sx"
    refine add_LL (hWf _) i5 (ru2.ex e5) r5 (szOk (by simp; omega)) fun v6 H6 e6 i6 r6 => ?_
    rw [← List.map_append] at r6
    walk_at "sx"
    refine set_fld hw np i6 CS (by decide) (by omega) fun H7 e7 i7 => ?_
    have hs7 : StrM K M I H7 s dx (putF "row_list" v6 fs) fr S Y (R ++ rs) := by
      refine ⟨hw, np, i7, by rw [putF_len hl1]; exact hfl, fun f hf => ?_, bv, v6, ?_, ?_, hb.ex (e3.trans (e5.trans (e6.trans e7))), r6.ex e7⟩
      · rw [lookup_putF, if_neg (fun e => hf (by subst e; decide))]
        exact hno f hf
      · rw [lookup_putF, if_neg (by decide)]
        exact hb1
      · rw [lookup_putF, if_pos rfl]
    walk_at "sx"
    with_reducible refine sx_fld ?_
    walk_at "sx"
    refine hs7.v.rows i7 CS fun u8 ru8 => ?_
    walk_at "sx"
    refine len_R ru8 (.inl rfl) ?_
    rw [List.length_map]
    exact q _ _ hs7 (e3.trans (e5.trans (e6.trans e7)))
end


/-! ### the law's own standing and tellers -/
section
variable {P : Program} {w : World} {K : PySem.W.Frag} {mg : Str → Option Value} {base : Heap}
theorem flat_C {α : Type} {f : α → Nat} (h : ∀ a, f a < 128) (l : List α) : ∀ d ∈ l.map (fun a => eS [f a]), Flat d := by
  intro d hd
  have : l.map (fun a => eS [f a]) = (l.map fun a => [f a]).map eS := by rw [List.map_map]; rfl
  rw [this] at hd
  refine flat_S (fun s hs c hc => ?_) d hd
  obtain ⟨a, _, rfl⟩ := List.mem_map.mp hs
  rw [List.mem_singleton.mp hc]
  exact h a
theorem getD_lt {r : List Nat} (h : ∀ c ∈ r, c < 128) (k : Nat) : r.getD k 46 < 128 := by
  rw [List.getD_eq_getElem?_getD]
  cases e : r[k]? with
  | none => decide
  | some c => exact h c (List.mem_of_getElem? e)
def spLStand (K : PySem.W.Frag) : Sp := fun vs H Q _ => ∃ (M : Addr → Prop) (I : Hp → Prop) (x : V) (n : Nat) (R : List (List Nat)), Wf M I ∧ I H ∧ vs = [.int n, x] ∧ Rep K M H x (.lst (R.map eS)) ∧ n ≤ 1000 ∧ R.length ≤ 1000 ∧ (∀ r ∈ R, r.length = n) ∧ (∀ r ∈ R, ∀ c ∈ r, c < 128) ∧ ∀ H', Ex M H H' → I H' → Q (.str (T (stF n R))) H'
theorem ok_law_standing (B : Bl mg) : Bok P w K mg base 1 "_law_standing" s__law_standing ["_law_wide", "_law_part"] (spLStand K) := by
  refine Bok.mk sc__law_standing (fun vs H Q E h => ?_) (fun f cdv A outer s H vs Q E hr h => ⟨_, w__law_standing B hr, ?_⟩)
  · obtain ⟨M, I, x, n, R, _, _, rfl, _⟩ := h
    rfl
  · obtain ⟨M, I, x, n, R, hw, hI, rfl, hx, hn, hRl, hR, hRc, q⟩ := h
    unfold t__law_standing
    refine st_eq (σ' := [some (.int (n : Nat)), some x, none, none, none, none]) rfl ?_
    walk_at "sx"
    refine ⟨_, rfl, by omega, by omega, ?_⟩
    rw [Int.toNat_natCast]
    refine for_rng (fun k σ H3 => ∃ u3 u4, σ = [some (.int (n : Nat)), some x, some (.str (T ((List.range k).map fun k => fstK R.reverse k))), u3, u4, none] ∧ I H3 ∧ Ex M H H3)
      ⟨_, _, rfl, hI, Ex.refl _⟩ ?_ ?_
    · rintro k σ H3 hk ⟨u3, u4, rfl, i3, e3⟩
      dsimp only [List.set_cons_zero, List.set_cons_succ]
      rw [Int.zero_add]
      walk_at "sx"
      refine lc_srcF (as := R) (enc := eS) (tlB k) (fun r => eS [r.getD k 46]) hw i3 (hx.ex e3) rfl (szOk (by omega)) (fun _ => rfl) ?_ ?_ ?_
      · intro L acc j r v H4 hL ha rv wf hi ex Qt qt
        cases rep_str rv
        have hrl := hR r (List.mem_of_getElem? ha)
        have hg : r[k]? = some (r.getD k 46) := by rw [List.getD_eq_getElem?_getD, List.getElem?_eq_getElem (by omega)]; rfl
        walk_at "sx"
        refine ix_T (szOk (by omega)) hg ?_
        walk_at "sx"
        rw [show (!decide (r.getD k 46 = 46)) = tlB k r from rfl]
        exact qt H4 hi (Ex.refl _)
      · intro L acc j r v H4 hL ha hp rv wf hi ex Qe qe
        cases rep_str rv
        have hrl := hR r (List.mem_of_getElem? ha)
        have hg : r[k]? = some (r.getD k 46) := by rw [List.getD_eq_getElem?_getD, List.getElem?_eq_getElem (by omega)]; rfl
        walk_at "sx"
        refine ix_T (szOk (by omega)) hg ?_
        exact qe _ H4 (.str _) hi (Ex.refl _)
      intro y H4 r4 e4 i4
      walk_at "sx"
      refine lst_end (K := K) (M := M) (I := I) (ds := []) hw i4 .nil (szOk (by simp)) fun v5 H5 e5 i5 r5 => ?_
      refine ne_L0 (r4.ex e5) r5 ?_ ?_
      · intro d hd
        obtain ⟨r, hr1, rfl⟩ := List.mem_map.mp hd
        refine flat_S (ls := [[r.getD k 46]]) ?_ _ List.mem_cons_self
        intro s1 hs1 c hc
        rw [List.mem_singleton.mp hs1] at hc
        rw [List.mem_singleton.mp hc]
        exact getD_lt (hRc r (List.mem_filter.mp hr1).1) k
      obtain ⟨f1, f2⟩ := fst_last (part := R) (k := k)
      have fin : ∀ z : Nat, fstK R.reverse k = z → ∀ H6, I H6 → Ex M H5 H6 → ∃ u3 u4, [some (.int (n : Nat)), some x, some (.str (T (((List.range k).map fun k => fstK R.reverse k) ++ [z]))), some (.int (k : Nat)), some y, (none : Option V)] = [some (.int (n : Nat)), some x, some (.str (T ((List.range (k + 1)).map fun k => fstK R.reverse k))), u3, u4, none] ∧ I H6 ∧ Ex M H H6 := by
        intro z hz H6 i6 e6
        refine ⟨some (.int (k : Nat)), some y, ?_, i6, e3.trans (e4.trans (e5.trans e6))⟩
        rw [List.range_succ, List.map_append, List.map_singleton, hz]
      rcases List.eq_nil_or_concat (R.filter (tlB k)) with e0 | ⟨L0, z, e0⟩
      · rw [e0] at r4 ⊢
        walk_at "sx"
        refine add_TT (szOk (by simp; omega)) ?_
        exact fin 46 (f1 e0) H5 i5 (Ex.refl _)
      · rw [e0, List.concat_eq_append, List.map_append] at r4 ⊢
        rw [show (!(L0.map (fun r => eS [r.getD k 46]) ++ [z].map fun r => eS [r.getD k 46]).isEmpty) = true by simp]
        walk_at "sx"
        refine ix_last (r4.ex e5) fun v6 r6 => ?_
        cases rep_str r6
        walk_at "sx"
        exact fin _ (f2 z L0 (by rw [e0, List.concat_eq_append])) H5 i5 (Ex.refl _)
    · rintro σ H3 ⟨u3, u4, rfl, i3, e3⟩
      walk_at "sx"
      rw [stF_list hR]
      exact q H3 e3 i3
end


/-! ### the law's tellers -/
def telAt (R : List (List Nat)) (l h k m : Nat) : Prop := l ≤ m ∧ m ≤ h ∧ (R.getD (m - 1) []).getD k 46 ≠ 46 ∧ ∀ m', m < m' → m' ≤ h → (R.getD (m' - 1) []).getD k 46 = 46
def spots (R : List (List Nat)) (l h k : Nat) : List Nat := (List.range (h + 1 - l)).filter fun i => tlB k (R.getD (l + i - 1) [])
theorem tlB_iff {k : Nat} {r : List Nat} : tlB k r = true ↔ r.getD k 46 ≠ 46 := by unfold tlB; simp
theorem spots_nil {R : List (List Nat)} {l h k : Nat} (e : spots R l h k = []) (m : Nat) : ¬ telAt R l h k m := by
  rintro ⟨h1, h2, h3, _⟩
  have : m - l ∈ spots R l h k := by
    unfold spots
    rw [List.mem_filter, List.mem_range, tlB_iff, show l + (m - l) - 1 = m - 1 by omega]
    exact ⟨by omega, h3⟩
  rw [e] at this
  cases this
theorem spots_last {R : List (List Nat)} {l h k i : Nat} {L0 : List Nat} (e : spots R l h k = L0 ++ [i]) (m : Nat) : telAt R l h k m ↔ m = l + i := by
  have hi : i ∈ spots R l h k := by rw [e]; simp
  have hp : (spots R l h k).Pairwise (· < ·) := by unfold spots; exact List.Pairwise.filter _ List.pairwise_lt_range
  rw [e, List.pairwise_append] at hp
  have hmax : ∀ j ∈ spots R l h k, j ≤ i := by
    intro j hj
    rw [e] at hj
    rcases List.mem_append.mp hj with a | a
    · exact Nat.le_of_lt (hp.2.2 j a i List.mem_cons_self)
    · rw [List.mem_singleton.mp a]; exact Nat.le_refl _
  have key : ∀ j, j ∈ spots R l h k ↔ j < h + 1 - l ∧ (R.getD (l + j - 1) []).getD k 46 ≠ 46 := fun j => by
    unfold spots
    rw [List.mem_filter, List.mem_range, tlB_iff]
  obtain ⟨i1, i2⟩ := (key i).mp hi
  constructor
  · rintro ⟨h1, h2, h3, h4⟩
    have hm : m - l ∈ spots R l h k := (key _).mpr ⟨by omega, by rw [show l + (m - l) - 1 = m - 1 by omega]; exact h3⟩
    have := hmax _ hm
    apply Classical.byContradiction
    intro ne
    exact i2 (h4 (l + i) (by omega) (by omega))
  · rintro rfl
    refine ⟨by omega, by omega, i2, fun m' hm1 hm2 => Classical.byContradiction fun hne => ?_⟩
    have := hmax (m' - l) ((key _).mpr ⟨by omega, by rw [show l + (m' - l) - 1 = m' - 1 by omega]; exact hne⟩)
    omega
theorem desc_of {ds : List Nat} {ns : List Int} (hp : ns.Perm (ds.map fun n : Nat => (n : Int))) (ho : ns.Pairwise (· ≥ ·)) (hn : ds.Nodup) : ∃ B : List Nat, ns = B.map (fun n : Nat => (n : Int)) ∧ B.Perm ds ∧ B.Pairwise (· > ·) := by
  have e : ns = (ns.map Int.toNat).map (fun n : Nat => (n : Int)) := by
    rw [List.map_map]
    conv => lhs; rw [← List.map_id ns]
    refine List.map_congr_left fun a ha => ?_
    obtain ⟨n, _, rfl⟩ := List.mem_map.mp (hp.mem_iff.mp ha)
    simp
  have hpB : (ns.map Int.toNat).Perm ds := by
    have := hp.map Int.toNat
    rw [List.map_map] at this
    have e2 : ds.map (Int.toNat ∘ fun n : Nat => (n : Int)) = ds := by
      conv => rhs; rw [← List.map_id ds]
      exact List.map_congr_left fun a _ => by simp
    rw [e2] at this
    exact this
  refine ⟨ns.map Int.toNat, e, hpB, ?_⟩
  have hnd : (ns.map Int.toNat).Nodup := hpB.nodup_iff.mpr hn
  have ho2 : (ns.map Int.toNat).Pairwise (· ≥ ·) := by
    rw [List.pairwise_map]
    exact ho.imp fun {a b} h => by have : b ≤ a := h; show b.toNat ≤ a.toNat; omega
  have := List.Pairwise.and ho2 hnd
  exact this.imp fun {a b} h => by
    obtain ⟨h1, h2⟩ := h
    have h1 : b ≤ a := h1
    show b < a
    have : a ≠ b := h2
    omega
section
variable {P : Program} {w : World} {K : PySem.W.Frag} {mg : Str → Option Value} {base : Heap}
theorem ni_I {H : Hp} {Q : VK} {p : Addr} {ns : List Nat} {a : Nat} (h : H p = some (.lst (ns.map fun n : Nat => V.int n))) (q : Q (.bl (!decide (a ∈ ns))) H) : rNiU K (.int (a : Nat)) (.ref p) H Q := by
  refine .inr (.inl ⟨p, _, rfl, .inl (SqL.of h), rfl, ?_, ?_⟩)
  · simp [List.all_map, flatV]
  · have e : inV (.int (a : Nat)) (ns.map fun n : Nat => V.int n) = decide (a ∈ ns) := by
      unfold inV
      rw [Bool.eq_iff_iff]
      simp only [List.any_eq_true, List.mem_map, decide_eq_true_eq]
      constructor
      · rintro ⟨z, ⟨b, hb, rfl⟩, e⟩
        have e2 : (b : Int) = a := by simpa [eqV] using e
        have : b = a := by omega
        rw [← this]; exact hb
      · intro h
        exact ⟨_, ⟨a, h, rfl⟩, by simp [eqV]⟩
    rw [e]; exact q
theorem flat_N (l : List Nat) : ∀ d ∈ l.map eN, Flat d := flat_I l
def spLTell (K : PySem.W.Frag) : Sp := fun vs H Q _ => ∃ (M : Addr → Prop) (I : Hp → Prop) (x : V) (n l h : Nat) (R : List (List Nat)), Wf M I ∧ I H ∧ vs = [.int n, x, .int l, .int h] ∧ Rep K M H x (.lst (R.map eS)) ∧ n ≤ 1000 ∧ R.length ≤ 1000 ∧ 1 ≤ l ∧ l ≤ 1001 ∧ h ≤ R.length ∧ (∀ r ∈ R, r.length = n) ∧ ∀ v H', Rep K M H' v (.lst ((telF n R l h).map eN)) → Ex M H H' → I H' → Q v H'
end


/-! ### a stream of the tellers alone -/
theorem fst_skip : ∀ {B C : List (List Nat)} {k : Nat}, (∀ r ∈ B, r.getD k 46 = 46) → fstK (B ++ C) k = fstK C k
  | [], _, _, _ => rfl
  | b :: B, C, k, h => by
    show (if b.getD k 46 = 46 then fstK (B ++ C) k else b.getD k 46) = _
    rw [if_pos (h b List.mem_cons_self)]
    exact fst_skip fun r hr => h r (List.mem_cons_of_mem _ hr)
theorem fst_none {L : List (List Nat)} {k : Nat} (h : ∀ r ∈ L, r.getD k 46 = 46) : fstK L.reverse k = 46 := by
  have := fst_skip (B := L.reverse) (C := []) (k := k) fun r hr => h r (List.mem_reverse.mp hr)
  rw [List.append_nil] at this
  exact this
theorem fst_at {L : List (List Nat)} {k i : Nat} {x : List Nat} (hi : L[i]? = some x) (hx : x.getD k 46 ≠ 46) (h : ∀ j y, i < j → L[j]? = some y → y.getD k 46 = 46) : fstK L.reverse k = x.getD k 46 := by
  obtain ⟨hl, e⟩ := List.getElem?_eq_some_iff.mp hi
  have e2 : L = L.take i ++ x :: L.drop (i + 1) := by
    rw [← e, List.getElem_cons_drop, List.take_append_drop]
  rw [e2, List.reverse_append, List.reverse_cons, List.append_assoc, fst_skip]
  · show (if x.getD k 46 = 46 then _ else x.getD k 46) = _
    rw [if_neg hx]
  · intro r hr
    obtain ⟨j, hj⟩ := List.mem_iff_getElem?.mp (List.mem_reverse.mp hr)
    rw [List.getElem?_drop] at hj
    exact h (i + 1 + j) r (by omega) hj
def aloF (n : Nat) (R : List (List Nat)) (l h : Nat) : List (List Nat) := (telF n R l h).reverse.map fun m => R.getD (m - 1) []
theorem aloF_len {n : Nat} {R : List (List Nat)} {l h : Nat} : (aloF n R l h).length = (telF n R l h).length := by unfold aloF; simp
section
variable {n : Nat} {R : List (List Nat)} {l h : Nat}
theorem alo_get {j : Nat} {y : List Nat} (e : (aloF n R l h)[j]? = some y) : ∃ m, (telF n R l h).reverse[j]? = some m ∧ y = R.getD (m - 1) [] := by
  unfold aloF at e
  rw [List.getElem?_map] at e
  cases e2 : (telF n R l h).reverse[j]? with
  | none => rw [e2] at e; cases e
  | some m => rw [e2] at e; cases e; exact ⟨m, rfl, rfl⟩
theorem asc_tel : (telF n R l h).reverse.Pairwise (· < ·) := by
  rw [List.pairwise_reverse]
  exact tel_desc
theorem asc_lt {i j a b : Nat} (hi : (telF n R l h).reverse[i]? = some a) (hj : (telF n R l h).reverse[j]? = some b) (lt : i < j) : a < b := by
  obtain ⟨h1, rfl⟩ := List.getElem?_eq_some_iff.mp hi
  obtain ⟨h2, rfl⟩ := List.getElem?_eq_some_iff.mp hj
  exact List.pairwise_iff_getElem.mp asc_tel i j h1 h2 lt
variable (hl : 1 ≤ l) (hh : h ≤ R.length) (hR : ∀ r ∈ R, r.length = n)
include hl hh hR
theorem tel_of {j m : Nat} (hj : (telF n R l h).reverse[j]? = some m) : IsTel R l h m :=
  (tel_mem hl hh hR).mp (List.mem_reverse.mp (List.mem_of_getElem? hj))
theorem alo_row {r : List Nat} (hr : r ∈ aloF n R l h) : r ∈ R := by
  obtain ⟨j, hj⟩ := List.mem_iff_getElem?.mp hr
  obtain ⟨m, h1, rfl⟩ := alo_get hj
  obtain ⟨a, b, _⟩ := tel_of hl hh hR h1
  have hlt : m - 1 < R.length := by omega
  rw [List.getD_eq_getElem?_getD, List.getElem?_eq_getElem hlt]
  exact List.getElem_mem _
theorem alo_tel : (telF n (aloF n R l h) 1 (aloF n R l h).length).length = (telF n R l h).length := by
  have e : telF n (aloF n R l h) 1 (aloF n R l h).length = (List.range (telF n R l h).length).reverse.map (· + 1) := by
    refine desc_one tel_desc ?_ fun j => ?_
    · rw [List.pairwise_map, List.pairwise_reverse]
      exact List.pairwise_lt_range.imp fun h => by omega
    · rw [tel_mem (by omega) (Nat.le_refl _) fun r hr => hR r (alo_row hl hh hR hr), aloF_len]
      rw [List.mem_map]
      constructor
      · rintro ⟨a, b, _⟩
        exact ⟨j - 1, by rw [List.mem_reverse, List.mem_range]; omega, by omega⟩
      · rintro ⟨i, hi, rfl⟩
        rw [List.mem_reverse, List.mem_range] at hi
        have hi2 : i < (telF n R l h).reverse.length := by simpa using hi
        have hg : (telF n R l h).reverse[i]? = some (telF n R l h).reverse[i] := List.getElem?_eq_getElem hi2
        generalize (telF n R l h).reverse[i] = m at hg
        obtain ⟨a, b, k, c, d⟩ := tel_of hl hh hR hg
        have hrow : ∀ j m', (telF n R l h).reverse[j]? = some m' → (aloF n R l h).getD j [] = R.getD (m' - 1) [] := fun j m' hj => by
          unfold aloF
          rw [List.getD_eq_getElem?_getD, List.getElem?_map, hj]
          rfl
        refine ⟨by omega, by omega, k, ?_, fun j' h1 h2 => ?_⟩
        · rw [show i + 1 - 1 = i by omega, hrow i m hg]
          exact c
        · have h3 : j' - 1 < (telF n R l h).reverse.length := by rw [List.length_reverse]; omega
          have hg' : (telF n R l h).reverse[j' - 1]? = some (telF n R l h).reverse[j' - 1] := List.getElem?_eq_getElem h3
          generalize (telF n R l h).reverse[j' - 1] = m' at hg'
          rw [hrow _ _ hg']
          exact d m' (asc_lt hg hg' (by omega)) (tel_of hl hh hR hg').2.1
  rw [e]
  simp
theorem part_get {i : Nat} {y : List Nat} (hlh : l ≤ h) : (partF R l h)[i]? = some y ↔ l + i ≤ h ∧ R[l + i - 1]? = some y := by
  unfold partF
  rw [Nat.min_eq_left hh, Nat.min_eq_left (show l - 1 ≤ R.length by omega), List.getElem?_take]
  by_cases hi : l + i ≤ h
  · rw [if_pos (by omega), List.getElem?_drop, show l - 1 + i = l + i - 1 by omega]
    simp [hi]
  · rw [if_neg (by omega)]
    simp [hi]
theorem alo_st (hlh : l ≤ h) : stF n (aloF n R l h) = stF n (partF R l h) := by
  have hp : ∀ r ∈ partF R l h, r.length = n := fun r hr => hR r (List.mem_of_mem_drop (List.mem_of_mem_take hr))
  have ha : ∀ r ∈ aloF n R l h, r.length = n := fun r hr => hR r (alo_row hl hh hR hr)
  rw [← stF_list hp, ← stF_list ha]
  refine List.map_congr_left fun k _ => ?_
  have hg : ∀ m, l ≤ m → m ≤ h → R[m - 1]? = some (R.getD (m - 1) []) := fun m h1 h2 => by
    have : m - 1 < R.length := by omega
    rw [List.getD_eq_getElem?_getD, List.getElem?_eq_getElem this]
    rfl
  rcases List.eq_nil_or_concat (spots R l h k) with e0 | ⟨L0, z, e0⟩
  · have hno : ∀ m, l ≤ m → m ≤ h → (R.getD (m - 1) []).getD k 46 = 46 := fun m h1 h2 => Classical.byContradiction fun hne => by
      have : m - l ∈ spots R l h k := by
        unfold spots
        rw [List.mem_filter, List.mem_range, tlB_iff, show l + (m - l) - 1 = m - 1 by omega]
        exact ⟨by omega, hne⟩
      rw [e0] at this
      cases this
    rw [fst_none, fst_none]
    · intro r hr
      obtain ⟨i, hi⟩ := List.mem_iff_getElem?.mp hr
      obtain ⟨h1, h2⟩ := (part_get hl hh hR hlh).mp hi
      rw [hg (l + i) (by omega) h1] at h2
      cases h2
      exact hno (l + i) (by omega) h1
    · intro r hr
      obtain ⟨j, hj⟩ := List.mem_iff_getElem?.mp hr
      obtain ⟨m, h1, rfl⟩ := alo_get hj
      obtain ⟨a, b, _⟩ := tel_of hl hh hR h1
      exact hno m a b
  · rw [List.concat_eq_append] at e0
    obtain ⟨a, b, c, d⟩ := (spots_last e0 (l + z)).mpr rfl
    have ht : l + z ∈ (telF n R l h).reverse := List.mem_reverse.mpr ((tel_mem hl hh hR).mpr ⟨a, b, k, c, d⟩)
    obtain ⟨j, hj⟩ := List.mem_iff_getElem?.mp ht
    rw [fst_at (L := aloF n R l h) (i := j) (x := R.getD (l + z - 1) []) (by unfold aloF; rw [List.getElem?_map, hj]; rfl) c, fst_at (L := partF R l h) (i := z) (x := R.getD (l + z - 1) []) ((part_get hl hh hR hlh).mpr ⟨b, hg _ a b⟩) c]
    · intro i y h1 h2
      obtain ⟨h3, h4⟩ := (part_get hl hh hR hlh).mp h2
      rw [hg (l + i) (by omega) h3] at h4
      cases h4
      exact d (l + i) (by omega) h3
    · intro j' y h1 h2
      obtain ⟨m', h3, rfl⟩ := alo_get h2
      exact d m' (asc_lt hj h3 h1) (tel_of hl hh hR h3).2.1
end


/-! ### a window is right -/
section
variable {P : Program} {w : World} {K : PySem.W.Frag} {mg : Str → Option Value} {base : Heap}
theorem rev_mut {M : Addr → Prop} {I : Hp → Prop} {H : Hp} {Q : VK} {p : Addr} {xs : List V} (hw : Wf M I) (hp : ¬ M p) (hI : Iq I p (.lst xs) H) (q : ∀ H', Ex (Mq M p) H H' → Iq I p (.lst xs.reverse) H' → Q .non H') : rReverse (.ref p) [] H Q := by
  refine ⟨p, xs, rfl, rfl, hI.2, ?_⟩
  obtain ⟨i, e⟩ := hw.put (o' := .lst xs.reverse) hp hI
  exact q _ e i
theorem fit_1 {l : List D} {n : Nat} (hl : l.length ≤ 100000) (h : ∀ e ∈ l, fitL n e) : fitL (n + 1) (.lst l) := .inr ⟨l, .inl rfl, hl, h⟩
theorem fit_N {l : List Nat} {n : Nat} (hl : l.length ≤ 100000) : fitL (n + 1) (.lst (l.map eN)) := fit_1 (by simpa using hl) fun e he => by
  obtain ⟨a, _, rfl⟩ := List.mem_map.mp he
  exact fit_sc rfl _
theorem tel_len {n : Nat} {R : List (List Nat)} {l h : Nat} (h1 : 1 ≤ l) : (telF n R l h).length ≤ h := by
  have a := (tell_sub (ps := prsF R l h) (t := List.replicate n 46)).length_le
  have b : (prsF R l h).length = h - (l - 1) := by unfold prsF; simp
  unfold telF
  rw [List.length_map]
  omega
def spWR (K : PySem.W.Frag) : Sp := fun vs H Q _ => ∃ (M : Addr → Prop) (I : Hp → Prop) (x y z : V) (fr : List (List Nat × Nat)) (S Y R : List (List Nat)) (l h : Nat), Wf M I ∧ I H ∧ vs = [x, y, .int fr.length, z, .int l, .int h] ∧ StrV K M I H x fr S Y R ∧ BandOk K M H y fr S Y ∧ Rep K M H z (.lst (R.map eS)) ∧ fr.length ≤ 1000 ∧ R.length ≤ 400 ∧ (∀ r ∈ R, isRow fr r = true ∧ r ∈ Y) ∧ (∀ r ∈ R, r.length = fr.length) ∧ (∀ r ∈ R, ∀ c ∈ r, c < 128) ∧ 1 ≤ l ∧ l ≤ h ∧ h ≤ R.length ∧ ∀ H', Ex M H H' → I H' → Q (.bl true) H'
end


/-! ### the end of a moment, plainly -/
def leftL (R : List (List Nat)) (m e : Nat) : List Nat := (List.range (R.getD (m - 1) []).length).filter fun k => tlB k (R.getD (m - 1) []) && decide (∀ j, j < e - m → (R.getD (m + j) []).getD k 46 = 46)
theorem left_0 {R : List (List Nat)} {m : Nat} : leftL R m m = (List.range (R.getD (m - 1) []).length).filter fun k => tlB k (R.getD (m - 1) []) := by
  unfold leftL
  refine List.filter_congr fun k _ => ?_
  rw [decide_eq_true (fun j hj => absurd hj (by omega)), Bool.and_true]
theorem left_s {R : List (List Nat)} {m e : Nat} (h : m ≤ e) : leftL R m (e + 1) = (leftL R m e).filter fun k => decide ((R.getD e []).getD k 46 = 46) := by
  unfold leftL
  rw [List.filter_filter]
  refine List.filter_congr fun k _ => ?_
  rw [Bool.eq_iff_iff]
  simp only [Bool.and_eq_true, decide_eq_true_eq]
  constructor
  · rintro ⟨a, b⟩
    refine ⟨?_, a, fun j hj => b j (by omega)⟩
    have := b (e - m) (by omega)
    rw [show m + (e - m) = e by omega] at this
    exact this
  · rintro ⟨c, a, b⟩
    refine ⟨a, fun j hj => ?_⟩
    by_cases hje : j = e - m
    · rw [hje, show m + (e - m) = e by omega]; exact c
    · exact b j (by omega)
theorem left_len {R : List (List Nat)} {m e : Nat} : (leftL R m e).length ≤ (R.getD (m - 1) []).length := by
  unfold leftL
  have := List.length_filter_le (fun k => tlB k (R.getD (m - 1) []) && decide (∀ j, j < e - m → (R.getD (m + j) []).getD k 46 = 46)) (List.range (R.getD (m - 1) []).length)
  rw [List.length_range] at this
  exact this
theorem zip_rng {l : List Nat} : (l.zipIdx.filter fun q => !decide (q.1 = 46)).map (fun q => eN q.2) = ((List.range l.length).filter fun k => tlB k l).map eN := by
  have e : l.zipIdx = (List.range l.length).map fun k => (l.getD k 46, k) := by
    refine List.ext_getElem (by simp) fun k h1 h2 => ?_
    have hk : k < l.length := by simpa using h1
    simp [hk]
  rw [e, List.filter_map, List.map_map]
  rfl
def srch (p : Nat → Bool) : Nat → Nat → Option Nat
  | _, 0 => none
  | e, f + 1 => if p e = true then some e else srch p (e + 1) f
def endF (R : List (List Nat)) (m : Nat) : Option Nat := srch (fun e => (leftL R m e).isEmpty) m (R.length + 1 - m)
def oV : Option Nat → V
  | none => .non
  | some e => .int (e : Nat)
def oD : Option Nat → D
  | none => .non
  | some e => .int (e : Nat)
theorem sx_augI {i : Nat} {te : TE} {σ : L2.St} {H : Hp} {E : Ends} {a : Int} (hx : σ[i]? = some (some (.int a))) (h : te σ H fun y H1 => ∃ b, y = .int b ∧ E.nx (σ.set i (some (.int (a + b)))) H1) (mono : ∀ A B : VK, (∀ y H, A y H → B y H) → te σ H A → te σ H B) : tAug i te (ipI fun i j => i + j) E σ H :=
  ⟨_, hx, mono _ _ (fun _ _ ⟨b, e, q⟩ => ⟨a, b, rfl, e, q⟩) h⟩
theorem sx_aug1 {i : Nat} {σ : L2.St} {H : Hp} {E : Ends} {a b : Int} (hx : σ[i]? = some (some (.int a))) (h : E.nx (σ.set i (some (.int (a + b)))) H) : tAug i (tC (.int b)) (ipI fun i j => i + j) E σ H := ⟨_, hx, a, b, rfl, rfl, h⟩
section
variable {P : Program} {w : World} {K : PySem.W.Frag} {mg : Str → Option Value} {base : Heap}
def spEnd (K : PySem.W.Frag) : Sp := fun vs H Q _ => ∃ (M : Addr → Prop) (I : Hp → Prop) (x : V) (fr : List (List Nat × Nat)) (S Y R : List (List Nat)) (m : Nat), Wf M I ∧ I H ∧ vs = [x, .int m] ∧ StrV K M I H x fr S Y R ∧ fr.length ≤ 1000 ∧ (∀ r ∈ R, r.length = fr.length) ∧ R.length ≤ 1000 ∧ 1 ≤ m ∧ m ≤ R.length ∧ ∀ H', Ex M H H' → I H' → Q (oV (endF R m)) H'
end


/-! ### on streams, unpacking, sorting -/
theorem cl_row {fr : List (List Nat × Nat)} {S : List (List Nat)} {n : Nat} (hn : fr.length = n) (hS : ∀ s ∈ S, isRow fr s = true) {r : List Nat} (h : Cl S n r) : isRow fr r = true := by
  induction h with
  | base => rw [← hn]; exact blank_row
  | step hs _ ih => exact lay_row (hS _ hs) ih
section
variable {K : PySem.W.Frag} {M : Addr → Prop} {I : Hp → Prop}
theorem gs_unl3 {H : Hp} {v : V} {i j k : Nat} {G : L2.St → Hp → Prop} {σ : L2.St} {d e f : D} (h : Rep K M H v (.lst [d, e, f])) (q : ∀ x y z, Rep K M H x d → Rep K M H y e → Rep K M H z f → G (((σ.set i (some x)).set j (some y)).set k (some z)) H) : gUnl K 3 (gCons (gName i) (gCons (gName j) (gCons (gName k) gNil))) v σ H G := by
  cases h with
  | lst h n r => cases r with
    | cons r1 r2 => cases r2 with
      | cons r2 r3 => cases r3 with
        | cons r3 r4 => cases r4; exact ⟨_, _, rfl, SqL.of h, rfl, _, _, rfl, _, _, rfl, _, _, rfl, rfl, q _ _ _ r1 r2 r3⟩
theorem ins_up {a : List Nat} : ∀ {Y : List (List Nat)}, Y.Pairwise (· < ·) → a ∉ Y → ∃ Z : List (List Nat), Z.Perm (a :: Y) ∧ Z.Pairwise (· < ·)
  | [], _, _ => ⟨[a], List.Perm.refl _, by simp⟩
  | b :: Y, h, hn => by
    obtain ⟨h1, h2⟩ := List.pairwise_cons.mp h
    by_cases hab : a < b
    · refine ⟨a :: b :: Y, List.Perm.refl _, List.pairwise_cons.mpr ⟨fun c hc => ?_, h⟩⟩
      rcases List.mem_cons.mp hc with rfl | hc
      · exact hab
      · exact List.lt_trans hab (h1 c hc)
    · have hba : b < a := by
        apply Classical.byContradiction
        intro hba
        exact hn (by rw [le_a hba hab]; exact List.mem_cons_self)
      obtain ⟨Z, z1, z2⟩ := ins_up h2 fun h => hn (List.mem_cons_of_mem _ h)
      refine ⟨b :: Z, (List.Perm.cons b z1).trans (List.Perm.swap a b Y), List.pairwise_cons.mpr ⟨fun c hc => ?_, z2⟩⟩
      rcases List.mem_cons.mp (z1.mem_iff.mp hc) with rfl | hc
      · exact hba
      · exact h1 c hc
theorem up_of : ∀ {X : List (List Nat)}, X.Nodup → ∃ Y : List (List Nat), Y.Perm X ∧ Y.Pairwise (· < ·)
  | [], _ => ⟨[], List.Perm.refl _, .nil⟩
  | a :: X, h => by
    obtain ⟨h1, h2⟩ := List.nodup_cons.mp h
    obtain ⟨Y, y1, y2⟩ := up_of h2
    obtain ⟨Z, z1, z2⟩ := ins_up y2 fun h => h1 (y1.mem_iff.mp h)
    exact ⟨Z, z1.trans (List.Perm.cons a y1), z2⟩
theorem rows_of {S X : List (List Nat)} {n : Nat} (h : CloOf S n X) : ∃ Y, RowsOf S n Y ∧ ∀ r, r ∈ Y ↔ r ∈ X := by
  obtain ⟨Y, y1, y2⟩ := up_of h.nd
  exact ⟨Y, ⟨y1.nodup_iff.mpr h.nd, up_sorted y2, by rw [y1.length_eq]; exact h.len, fun r => by rw [y1.mem_iff]; exact h.mem r⟩, fun r => y1.mem_iff⟩
theorem telF_app {n : Nat} {R R2 : List (List Nat)} {l h : Nat} (hh : h ≤ R.length) : telF n (R ++ R2) l h = telF n R l h := by
  have e : prsF (R ++ R2) l h = prsF R l h := by
    unfold prsF
    refine List.map_congr_left fun k hk => ?_
    have hk := List.mem_range.mp hk
    rw [List.getD_eq_getElem?_getD, List.getD_eq_getElem?_getD, List.getElem?_append_left (by omega)]
  unfold telF
  rw [e]
end
section
variable {P : Program} {w : World} {K : PySem.W.Frag} {mg : Str → Option Value} {base : Heap}
theorem tell_ok {M : Addr → Prop} {I : Hp → Prop} {H : Hp} {s dx : Addr} {fs : List (Str × V)} {fr : List (List Nat × Nat)} {S Y R rs : List (List Nat)} {ws : List V} {Q : VK} {E : XK} (sm : StrM K M I H s dx fs fr S Y R) (hr : Reps K (Mq M s) H ws (rs.map eS)) (hf : fr.length ≤ 1000) (hl : R.length + rs.length ≤ 400) (hrs : ∀ r ∈ rs, isRow fr r = true ∧ r ∈ Y)
    (q : ∀ fs' H', StrM K M I H' s dx fs' fr S Y (R ++ rs) → Ex (Mq M s) H H' → Q (.int ((R ++ rs).length : Nat)) H') : spS 1 (spTellB K) (.ref s :: ws) H Q E := by
  have hwl : ws.length = rs.length := by have := hr.length; simpa using this
  refine ⟨[.ref s], ws, rfl, rfl, szOk (by omega), fun p hp => ?_⟩
  have e := same_upd (o := .tup ws) hp
  have hW := sm.1.add s (.ins (He.ga K "Stream") dx fs)
  have i1 := hW.same e sm.2.2.1
  exact ⟨M, I, s, dx, fs, .ref p, fr, S, Y, R, rs, sm.ex (Ex.of e) i1, rfl, .tup upd_same (hW.fresh sm.2.2.1 hp) (hr.same e), hf, hl, hrs, fun fs' H' sm' e' => q fs' H' sm' ((Ex.of e).trans e')⟩
def spSpare (K : PySem.W.Frag) : Sp := fun vs H Q _ => ∃ (M : Addr → Prop) (I : Hp → Prop) (x : V) (fr : List (List Nat × Nat)) (S Y R : List (List Nat)), Wf M I ∧ I H ∧ vs = [x] ∧ StrV K M I H x fr S Y R ∧ fr.length ≤ 1000 ∧ (∀ r ∈ R, r.length = fr.length) ∧ (∀ r ∈ R, ∀ c ∈ r, c < 128) ∧ R.length ≤ 1000 ∧ ∀ H', Ex M H H' → I H' → Q (.int ((R.length : Nat) - ((telF fr.length R 1 R.length).length : Nat))) H'
theorem tell_all {M : Addr → Prop} {I : Hp → Prop} {H : Hp} {x : V} {fr : List (List Nat × Nat)} {S Y R : List (List Nat)} {Q : VK} (hw : Wf M I) (hI : I H) (hx : StrV K M I H x fr S Y R) (hf : fr.length ≤ 1000) (hR : ∀ r ∈ R, r.length = fr.length) (hRc : ∀ r ∈ R, ∀ c ∈ r, c < 128) (hRl : R.length ≤ 1000)
    (q : ∀ p H', H p = none → Rep K M H' (.ref p) (.lst ((telF fr.length R 1 R.length).map eN)) → Ex M H H' → I H' → Q (.ref p) H') : spTellers K [x, .int 1, .non] H Q E0 := by
  refine ⟨M, I, x, .non, fr, S, Y, R, 1, R.length, hw, hI, rfl, hx, hf, hR, hRc, hRl, ?_, q⟩
  by_cases h0 : R = []
  · exact .inl ⟨h0, rfl, rfl, by rw [h0]; rfl⟩
  · exact .inr ⟨.inr ⟨rfl, rfl⟩, Nat.le_refl _, List.length_pos_iff.mpr h0, Nat.le_refl _⟩
theorem clr_mut {M : Addr → Prop} {I : Hp → Prop} {H : Hp} {Q : VK} {p : Addr} {xs : List V} (hw : Wf M I) (hp : ¬ M p) (hI : Iq I p (.lst xs) H) (q : ∀ H', Ex (Mq M p) H H' → Iq I p (.lst []) H' → Q .non H') : rClear (.ref p) [] H Q := by
  refine ⟨p, xs, rfl, rfl, hI.2, ?_⟩
  obtain ⟨i, e⟩ := hw.put (o' := .lst []) hp hI
  exact q _ e i
theorem tel_from {n : Nat} {R : List (List Nat)} {l h : Nat} (hl : 1 ≤ l) (hh : h ≤ R.length) (hR : ∀ r ∈ R, r.length = n) : (telF n R 1 h).filter (fun m => decide (l ≤ m)) = telF n R l h := by
  refine desc_one (List.Pairwise.filter _ tel_desc) tel_desc fun m => ?_
  rw [List.mem_filter, tel_mem (Nat.le_refl _) hh hR, tel_mem hl hh hR, decide_eq_true_eq]
  constructor
  · rintro ⟨⟨_, a, b⟩, c⟩
    exact ⟨c, a, b⟩
  · rintro ⟨a, b, c⟩
    exact ⟨⟨by omega, b, c⟩, a⟩
end


/-! ### ends, put, take -/
section
variable {P : Program} {w : World} {K : PySem.W.Frag} {mg : Str → Option Value} {base : Heap}
def endsD (R : List (List Nat)) : List D := (List.range R.length).map fun k => oD (endF R (k + 1))
theorem rep_o {M : Addr → Prop} {H : Hp} : ∀ o : Option Nat, Rep K M H (oV o) (oD o)
  | none => .non
  | some _ => .int _
def spEnds (K : PySem.W.Frag) : Sp := fun vs H Q _ => ∃ (M : Addr → Prop) (I : Hp → Prop) (x : V) (fr : List (List Nat × Nat)) (S Y R : List (List Nat)), Wf M I ∧ I H ∧ vs = [x] ∧ StrV K M I H x fr S Y R ∧ fr.length ≤ 1000 ∧ (∀ r ∈ R, r.length = fr.length) ∧ R.length ≤ 1000 ∧ ∀ p H', H p = none → Rep K M H' (.ref p) (.lst (endsD R)) → Ex M H H' → I H' → Q (.ref p) H'
theorem StrM.set {M : Addr → Prop} {I : Hp → Prop} {H H' : Hp} {s dx : Addr} {fs : List (Str × V)} {fr : List (List Nat × Nat)} {S Y R R' : List (List Nat)} {v : V} (h : StrM K M I H s dx fs fr S Y R) (e : Ex (Mq M s) H H') (i : Iq I s (.ins (He.ga K "Stream") dx (putF "row_list" v fs)) H') (r : Rep K (Mq M s) H' v (.lst (R'.map eS))) : StrM K M I H' s dx (putF "row_list" v fs) fr S Y R' := by
  obtain ⟨hw, np, i0, hfl, hno, bv, lv, hb1, hl1, hb, hrl⟩ := h
  refine ⟨hw, np, i, by rw [putF_len hl1]; exact hfl, fun f hf => ?_, bv, v, ?_, ?_, hb.ex e, r⟩
  · rw [lookup_putF, if_neg (fun e => hf (by subst e; decide))]
    exact hno f hf
  · rw [lookup_putF, if_neg (by decide)]
    exact hb1
  · rw [lookup_putF, if_pos rfl]
def spPut (K : PySem.W.Frag) : Sp := fun vs H Q _ => ∃ (M : Addr → Prop) (I : Hp → Prop) (s dx : Addr) (fs : List (Str × V)) (fr : List (List Nat × Nat)) (S Y R : List (List Nat)) (r : List Nat) (k : Nat), StrM K M I H s dx fs fr S Y R ∧ vs = [.ref s, .str (T r), .int k] ∧ fr.length ≤ 1000 ∧ R.length < 400 ∧ k ≤ R.length ∧ isRow fr r = true ∧ r ∈ Y ∧
  ∀ fs' H', StrM K M I H' s dx fs' fr S Y (R.take k ++ [r] ++ R.drop k) → Ex (Mq M s) H H' → Q .non H'
def spTake (K : PySem.W.Frag) : Sp := fun vs H Q _ => ∃ (M : Addr → Prop) (I : Hp → Prop) (s dx : Addr) (fs : List (Str × V)) (fr : List (List Nat × Nat)) (S Y R : List (List Nat)) (m : Nat), StrM K M I H s dx fs fr S Y R ∧ vs = [.ref s, .int m] ∧ R.length ≤ 400 ∧ 1 ≤ m ∧ m ≤ R.length ∧
  ∀ fs' H', StrM K M I H' s dx fs' fr S Y (R.take (m - 1) ++ R.drop m) → Ex (Mq M s) H H' → Q (.str (T (R.getD (m - 1) []))) H'
theorem ok_Stream_take (B : Bl mg) (CS : ClsF K "Stream" fl_Stream) (G1 : DfM P w K mg base 2 "Stream" "check_moment" ["self", "moment"] [] (spSCheck K)) : Bok P w K mg base 3 "Stream.take" s_Stream_take ["self", "moment"] (spTake K) := by
  refine Bok.mk sc_Stream_take (fun vs H Q E h => ?_) (fun f cdv A outer s H vs Q E hr h => ⟨_, w_Stream_take B CS G1 hr, ?_⟩)
  · obtain ⟨M, I, s, dx, fs, fr, S, Y, R, m, _, rfl, _⟩ := h
    rfl
  · obtain ⟨M, I, s, dx, fs, fr, S, Y, R, m, hs, rfl, hRl, h1, h2, q⟩ := h
    have hw := hs.1
    have np := hs.2.1
    have i0 := hs.2.2.1
    have hWf : Wf (Mq M s) (Iq I s (.ins (He.ga K "Stream") dx fs)) := hw.add s _
    have hlt : m - 1 < R.length := by omega
    have em : ((m : Nat) : Int) - 1 = ((m - 1 : Nat) : Int) := by omega
    unfold t_Stream_take
    refine st_eq (σ' := [some (.ref s), some (.int (m : Nat)), none]) rfl ?_
    walk_at "sx"
    with_reducible refine sx_meth ?_
    walk_at "sx"
    refine hs.v.meth i0 (by decide) ?_
    walk_at "sx"
    refine ⟨_, _, .ref s, fr, S, Y, R, m, i0, rfl, hs.v, h1, h2, ?_⟩
    walk_at "sx"
    with_reducible refine sx_fld ?_
    walk_at "sx"
    refine hs.v.rows i0 CS fun u1 r1 => ?_
    walk_at "sx"
    rw [em]
    refine ix_R (n := m - 1) (e := eS (R.getD (m - 1) [])) r1 (.inl rfl) (by simp [List.getD_eq_getElem?_getD, hlt]) fun v2 r2 => ?_
    cases rep_str r2
    walk_at "sx"
    with_reducible refine sx_sfld ?_
    walk_at "sx"
    with_reducible refine sx_fld ?_
    walk_at "sx"
    refine hs.v.rows i0 CS fun u3 r3 => ?_
    walk_at "sx"
    rw [em]
    refine sl_Lto hWf i0 r3 fun v4 H4 e4 i4 r4 => ?_
    walk_at "sx"
    with_reducible refine sx_fld ?_
    walk_at "sx"
    refine (hs.v.ex e4).rows i4 CS fun u7 r7 => ?_
    walk_at "sx"
    refine sl_Lfrom hWf i4 r7 fun v8 H8 e8 i8 r8 => ?_
    walk_at "sx"
    refine add_LL hWf i8 (r4.ex e8) r8 (szOk (by simp; omega)) fun v9 H9 e9 i9 r9 => ?_
    have r9 : Rep K (Mq M s) H9 v9 (.lst ((R.take (m - 1) ++ R.drop m).map eS)) := by
      rw [List.map_append, List.map_take, List.map_drop]; exact r9
    walk_at "sx"
    refine set_fld hw np i9 CS (by decide) (by have := hs.2.2.2.1; omega) fun H10 e10 i10 => ?_
    have e010 := e4.trans (e8.trans (e9.trans e10))
    walk_at "sx"
    exact q _ H10 (hs.set e010 i10 (r9.ex e10)) e010
end


/-! ### ends and tellers, plainly -/
theorem srch_none : ∀ {p : Nat → Bool} {f e : Nat}, srch p e f = none → ∀ i, i < f → p (e + i) = false
  | p, 0, e, _, i, hi => absurd hi (Nat.not_lt_zero _)
  | p, f + 1, e, h, i, hi => by
    unfold srch at h
    cases hp : p e with
    | true => rw [if_pos hp] at h; cases h
    | false =>
      rw [if_neg (by rw [hp]; exact Bool.false_ne_true)] at h
      cases i with
      | zero => exact hp
      | succ i =>
        have := srch_none h i (by omega)
        rw [show e + 1 + i = e + (i + 1) by omega] at this
        exact this
theorem srch_some : ∀ {p : Nat → Bool} {f e a : Nat}, srch p e f = some a → e ≤ a ∧ a < e + f ∧ p a = true ∧ ∀ i, e ≤ i → i < a → p i = false
  | p, 0, e, a, h => by cases h
  | p, f + 1, e, a, h => by
    unfold srch at h
    cases hp : p e with
    | true =>
      rw [if_pos hp] at h
      cases h
      exact ⟨Nat.le_refl _, by omega, hp, fun i h1 h2 => absurd h2 (by omega)⟩
    | false =>
      rw [if_neg (by rw [hp]; exact Bool.false_ne_true)] at h
      obtain ⟨h1, h2, h3, h4⟩ := srch_some h
      refine ⟨by omega, by omega, h3, fun i h5 h6 => ?_⟩
      by_cases hi : i = e
      · rw [hi]; exact hp
      · exact h4 i (by omega) h6
theorem left_mem {R : List (List Nat)} {m e k : Nat} : k ∈ leftL R m e ↔ (R.getD (m - 1) []).getD k 46 ≠ 46 ∧ ∀ j, j < e - m → (R.getD (m + j) []).getD k 46 = 46 := by
  unfold leftL
  rw [List.mem_filter, List.mem_range, Bool.and_eq_true, tlB_iff, decide_eq_true_eq]
  constructor
  · exact fun h => h.2
  · intro h
    refine ⟨?_, h⟩
    apply Classical.byContradiction
    intro hn
    exact h.1 (get_out (by omega))
theorem left_up {R : List (List Nat)} {m e e' : Nat} (h : e ≤ e') (h0 : leftL R m e = []) : leftL R m e' = [] := by
  rw [List.eq_nil_iff_forall_not_mem] at h0 ⊢
  intro k hk
  obtain ⟨a, b⟩ := left_mem.mp hk
  exact h0 k (left_mem.mpr ⟨a, fun j hj => b j (by omega)⟩)
def opn (R : List (List Nat)) (h m : Nat) : Bool := match endF R m with
  | none => true
  | some e => decide (h < e)
theorem opn_is {R : List (List Nat)} {h m : Nat} (h1 : m ≤ h) (h2 : h ≤ R.length) : opn R h m = !(leftL R m h).isEmpty := by
  unfold opn
  cases he : endF R m with
  | none =>
    have := srch_none he (h - m) (by omega)
    rw [show m + (h - m) = h by omega] at this
    have this : (leftL R m h).isEmpty = false := this
    rw [this]; rfl
  | some e =>
    obtain ⟨a, b, c, d⟩ := srch_some he
    by_cases hh : h < e
    · have : (leftL R m h).isEmpty = false := d h h1 hh
      rw [this]
      exact decide_eq_true hh
    · have c : (leftL R m e).isEmpty = true := c
      have : leftL R m h = [] := left_up (by omega) (List.isEmpty_iff.mp c)
      rw [this]
      exact decide_eq_false hh
theorem tel_opn {R : List (List Nat)} {l h m : Nat} (h1 : l ≤ m) (h2 : m ≤ h) (h3 : h ≤ R.length) : IsTel R l h m ↔ opn R h m = true := by
  rw [opn_is h2 h3]
  have : (!(leftL R m h).isEmpty) = true ↔ ∃ k, k ∈ leftL R m h := by
    cases leftL R m h with
    | nil => simp
    | cons a L => exact ⟨fun _ => ⟨a, List.mem_cons_self⟩, fun _ => rfl⟩
  rw [this]
  constructor
  · rintro ⟨_, _, k, a, b⟩
    refine ⟨k, left_mem.mpr ⟨a, fun j hj => ?_⟩⟩
    have := b (m + j + 1) (by omega) (by omega)
    exact this
  · rintro ⟨k, hk⟩
    obtain ⟨a, b⟩ := left_mem.mp hk
    refine ⟨h1, h2, k, a, fun m' h5 h6 => ?_⟩
    have := b (m' - 1 - m) (by omega)
    rw [show m + (m' - 1 - m) = m' - 1 by omega] at this
    exact this
theorem tel_ends {n : Nat} {R : List (List Nat)} {l h : Nat} (hl : 1 ≤ l) (hh : h ≤ R.length) (hR : ∀ r ∈ R, r.length = n) : ((List.range (h - (l - 1))).filter fun k => opn R h (h - k)).map (fun k => h - k) = telF n R l h := by
  refine desc_one ?_ tel_desc fun m => ?_
  · rw [List.pairwise_map]
    refine List.Pairwise.imp_of_mem ?_ (List.Pairwise.filter _ List.pairwise_lt_range)
    intro a b ha hb hab
    have := List.mem_range.mp (List.mem_filter.mp hb).1
    show h - b < h - a
    omega
  · rw [tel_mem hl hh hR, List.mem_map]
    constructor
    · rintro ⟨k, hk, rfl⟩
      obtain ⟨a, b⟩ := List.mem_filter.mp hk
      have a := List.mem_range.mp a
      exact (tel_opn (by omega) (by omega) hh).mpr b
    · intro hm
      have a := hm.1
      have b := hm.2.1
      refine ⟨h - m, List.mem_filter.mpr ⟨List.mem_range.mpr (by omega), ?_⟩, by omega⟩
      show opn R h (h - (h - m)) = true
      rw [show h - (h - m) = m by omega]
      exact (tel_opn a b hh).mp hm
theorem len_split {α : Type} (p : α → Bool) : ∀ l : List α, l.length = (l.filter p).length + (l.filter fun a => !p a).length
  | [] => rfl
  | a :: l => by
    have := len_split p l
    rw [List.filter_cons, List.filter_cons]
    cases p a <;> simp <;> omega
theorem spare_is {n : Nat} {R : List (List Nat)} (hR : ∀ r ∈ R, r.length = n) : (telF n R 1 R.length).length + ((List.range R.length).filter fun k => (endF R (k + 1)).isSome).length = R.length := by
  have e : telF n R 1 R.length = ((List.range R.length).filter fun k => !(endF R (k + 1)).isSome).reverse.map (· + 1) := by
    refine desc_one tel_desc ?_ fun m => ?_
    · rw [List.pairwise_map, List.pairwise_reverse]
      exact (List.Pairwise.filter _ List.pairwise_lt_range).imp fun h => by omega
    · rw [tel_mem (Nat.le_refl _) (Nat.le_refl _) hR, List.mem_map]
      have key : ∀ m, 1 ≤ m → m ≤ R.length → (opn R R.length m = true ↔ (!(endF R m).isSome) = true) := fun m h1 h2 => by
        unfold opn
        cases he : endF R m with
        | none => simp
        | some e =>
          obtain ⟨a, b, _⟩ := srch_some he
          simp; omega
      constructor
      · intro hm
        have a := hm.1
        have b := hm.2.1
        refine ⟨m - 1, List.mem_reverse.mpr (List.mem_filter.mpr ⟨List.mem_range.mpr (by omega), ?_⟩), by omega⟩
        show (!(endF R (m - 1 + 1)).isSome) = true
        rw [show m - 1 + 1 = m by omega]
        exact (key m a b).mp ((tel_opn a b (Nat.le_refl _)).mp hm)
      · rintro ⟨k, hk, rfl⟩
        obtain ⟨a, b⟩ := List.mem_filter.mp (List.mem_reverse.mp hk)
        have a := List.mem_range.mp a
        exact (tel_opn (by omega) (by omega) (Nat.le_refl _)).mpr ((key (k + 1) (by omega) (by omega)).mpr b)
  have h2 := len_split (fun k => (endF R (k + 1)).isSome) (List.range R.length)
  rw [List.length_range] at h2
  rw [e, List.length_map, List.length_reverse]
  omega


/-! ### ends, told plainly -/
theorem left_dn {R : List (List Nat)} {m e e' k : Nat} (h : e ≤ e') (hk : k ∈ leftL R m e') : k ∈ leftL R m e := by
  obtain ⟨a, b⟩ := left_mem.mp hk
  exact left_mem.mpr ⟨a, fun j hj => b j (by omega)⟩
theorem srch_ex : ∀ {p : Nat → Bool} {f e a : Nat}, e ≤ a → a < e + f → p a = true → ∃ b, srch p e f = some b
  | p, 0, e, a, h1, h2, _ => absurd h2 (by omega)
  | p, f + 1, e, a, h1, h2, h3 => by
    unfold srch
    cases hp : p e with
    | true => exact ⟨e, by simp⟩
    | false =>
      rw [if_neg Bool.false_ne_true]
      by_cases he : a = e
      · subst he; rw [hp] at h3; cases h3
      · exact srch_ex (by omega) (by omega) h3
theorem endF_some {R : List (List Nat)} {m e : Nat} (h1 : m ≤ e) (h2 : e ≤ R.length) (h3 : leftL R m e = []) (h4 : ∀ i, m ≤ i → i < e → leftL R m i ≠ []) : endF R m = some e := by
  obtain ⟨b, hb⟩ := srch_ex (p := fun e => (leftL R m e).isEmpty) (f := R.length + 1 - m) h1 (by omega) (by rw [h3]; rfl)
  have hb' : endF R m = some b := hb
  obtain ⟨a1, a2, a3, a4⟩ := srch_some hb
  rw [hb']
  by_cases h : b = e
  · rw [h]
  · exfalso
    by_cases hlt : b < e
    · exact h4 b a1 hlt (List.isEmpty_iff.mp a3)
    · have := a4 e h1 (by omega)
      rw [h3] at this
      cases this
theorem endF_none {R : List (List Nat)} {m : Nat} (h2 : leftL R m R.length ≠ []) (h1 : m ≤ R.length) : endF R m = none := by
  cases h : endF R m with
  | none => rfl
  | some e =>
    obtain ⟨a1, a2, a3, a4⟩ := srch_some h
    exact absurd (left_up (by omega) (List.isEmpty_iff.mp a3)) h2
theorem endF_is {R : List (List Nat)} {m e : Nat} (h : endF R m = some e) : m ≤ e ∧ e ≤ R.length ∧ leftL R m e = [] ∧ ∀ i, m ≤ i → i < e → leftL R m i ≠ [] := by
  obtain ⟨a1, a2, a3, a4⟩ := srch_some h
  refine ⟨a1, by omega, List.isEmpty_iff.mp a3, fun i h1 h2 h3 => ?_⟩
  have := a4 i h1 h2
  rw [h3] at this
  cases this
theorem endF_isN {R : List (List Nat)} {m : Nat} (h : endF R m = none) (hm : m ≤ R.length) : leftL R m R.length ≠ [] := by
  intro h3
  have := srch_none h (R.length - m) (by omega)
  rw [show m + (R.length - m) = R.length by omega] at this
  have this : (leftL R m R.length).isEmpty = false := this
  rw [h3] at this
  cases this
theorem getD_app {R R2 : List (List Nat)} {i : Nat} (h : i < R.length) : (R ++ R2).getD i [] = R.getD i [] := by
  rw [List.getD_eq_getElem?_getD, List.getD_eq_getElem?_getD, List.getElem?_append_left h]
theorem left_app {R R2 : List (List Nat)} {m e : Nat} (h1 : 1 ≤ m) (h2 : m ≤ e) (h3 : e ≤ R.length) : leftL (R ++ R2) m e = leftL R m e := by
  unfold leftL
  rw [getD_app (by omega)]
  refine List.filter_congr fun k _ => ?_
  congr 1
  rw [decide_eq_decide]
  constructor
  · intro h j hj
    have := h j hj
    rw [getD_app (by omega)] at this
    exact this
  · intro h j hj
    rw [getD_app (by omega)]
    exact h j hj
theorem endF_app {R R2 : List (List Nat)} {m e : Nat} (h1 : 1 ≤ m) (h : endF R m = some e) : endF (R ++ R2) m = some e := by
  obtain ⟨a1, a2, a3, a4⟩ := endF_is h
  refine endF_some a1 (by simp; omega) (by rw [left_app h1 a1 a2]; exact a3) fun i h3 h4 => ?_
  rw [left_app h1 h3 (by omega)]
  exact a4 i h3 h4
theorem blank_left {R : List (List Nat)} {m : Nat} {n : Nat} (h : R.getD (m - 1) [] = List.replicate n 46) : leftL R m m = [] := by
  rw [List.eq_nil_iff_forall_not_mem]
  intro k hk
  obtain ⟨a, _⟩ := left_mem.mp hk
  apply a
  rw [h, List.getD_eq_getElem?_getD, List.getElem?_replicate]
  split <;> rfl
theorem endF_blank {R : List (List Nat)} {m n : Nat} (hm : m ≤ R.length) (h : R.getD (m - 1) [] = List.replicate n 46) : endF R m = some m :=
  endF_some (Nat.le_refl _) hm (blank_left h) fun i h1 h2 => absurd h2 (by omega)
/-- the later moments that tell a cell, counted from the moment on -/
def ltrL (R : List (List Nat)) (m c : Nat) : List Nat := (List.range (R.length - m)).filter fun j => !decide ((R.getD (m + j) []).getD c 46 = 46)
theorem ltr_nil {R : List (List Nat)} {m c : Nat} (hm : m ≤ R.length) (h : ltrL R m c = []) (hc : (R.getD (m - 1) []).getD c 46 ≠ 46) : endF R m = none := by
  refine endF_none (fun h0 => ?_) hm
  rw [List.eq_nil_iff_forall_not_mem] at h h0
  refine h0 c (left_mem.mpr ⟨hc, fun j hj => ?_⟩)
  apply Classical.byContradiction
  intro hn
  exact h j (List.mem_filter.mpr ⟨List.mem_range.mpr (by omega), by rw [decide_eq_false hn]; rfl⟩)
theorem ltr_cons {R : List (List Nat)} {m c j : Nat} {l : List Nat} (h : ltrL R m c = j :: l) : j < R.length - m ∧ (R.getD (m + j) []).getD c 46 ≠ 46 ∧ ∀ i, i < j → (R.getD (m + i) []).getD c 46 = 46 := by
  have hj : j ∈ ltrL R m c := by rw [h]; exact List.mem_cons_self
  obtain ⟨a, b⟩ := List.mem_filter.mp hj
  refine ⟨List.mem_range.mp a, by simpa using b, fun i hi => ?_⟩
  apply Classical.byContradiction
  intro hn
  have hp : (ltrL R m c).Pairwise (· < ·) := List.Pairwise.filter _ List.pairwise_lt_range
  have hi2 : i ∈ ltrL R m c := List.mem_filter.mpr ⟨List.mem_range.mpr (by have := List.mem_range.mp a; omega), by rw [decide_eq_false hn]; rfl⟩
  rw [h] at hp hi2
  rcases List.mem_cons.mp hi2 with rfl | hi2
  · omega
  · have := (List.pairwise_cons.mp hp).1 i hi2
    omega
/-- what the law's own end has found by the first cells -/
structure EndTo (R : List (List Nat)) (m k e : Nat) : Prop where
  lo : m ≤ e
  hi : e ≤ R.length
  no : ∀ c, c < k → c ∉ leftL R m e
  lst : ∀ i, m ≤ i → i < e → leftL R m i ≠ []
theorem EndTo.zero {R : List (List Nat)} {m : Nat} (hm : m ≤ R.length) : EndTo R m 0 m := ⟨Nat.le_refl _, hm, fun c hc => absurd hc (by omega), fun i h1 h2 => absurd h2 (by omega)⟩
theorem EndTo.skip {R : List (List Nat)} {m k e : Nat} (h : EndTo R m k e) (hc : (R.getD (m - 1) []).getD k 46 = 46) : EndTo R m (k + 1) e :=
  ⟨h.lo, h.hi, fun c hck hl => by
    by_cases e : c = k
    · subst e; exact (left_mem.mp hl).1 hc
    · exact h.no c (by omega) hl, h.lst⟩
theorem EndTo.step {R : List (List Nat)} {m k e j : Nat} {l : List Nat} (h : EndTo R m k e) (hc : (R.getD (m - 1) []).getD k 46 ≠ 46) (hl : ltrL R m k = j :: l) : EndTo R m (k + 1) (max e (m + 1 + j)) := by
  obtain ⟨a1, a2, a3⟩ := ltr_cons hl
  have h1 := h.lo
  have h2 := h.hi
  refine ⟨by omega, by omega, fun c hck hm => ?_, fun i h3 h4 h0 => ?_⟩
  · by_cases e : c = k
    · subst e
      exact a2 ((left_mem.mp hm).2 j (by omega))
    · exact h.no c (by omega) (left_dn (by omega) hm)
  · by_cases hi : i < e
    · exact h.lst i h3 hi h0
    · rw [List.eq_nil_iff_forall_not_mem] at h0
      exact h0 k (left_mem.mpr ⟨hc, fun x hx => a3 x (by omega)⟩)
theorem EndTo.fin {R : List (List Nat)} {m n e : Nat} (h : EndTo R m n e) (hn : (R.getD (m - 1) []).length ≤ n) : endF R m = some e := by
  refine endF_some h.lo h.hi ?_ h.lst
  rw [List.eq_nil_iff_forall_not_mem]
  intro k hk
  refine h.no k ?_ hk
  have := List.mem_range.mp (List.mem_filter.mp hk).1
  omega
/-- the law's search from the next moment on -/
theorem srch_next {R : List (List Nat)} {m : Nat} (hm : m ≤ R.length) (h : leftL R m m ≠ []) : srch (fun e => (leftL R m e).isEmpty) (m + 1) (R.length - m) = endF R m := by
  unfold endF
  rw [show R.length + 1 - m = (R.length - m) + 1 by omega]
  show _ = srch _ m (R.length - m + 1)
  conv => rhs; unfold srch
  rw [if_neg (by rw [List.isEmpty_iff]; exact h)]


/-! ### the law's own end, what moves it; o[k]; telling some rows -/
section
variable {P : Program} {w : World} {K : PySem.W.Frag} {mg : Str → Option Value} {base : Heap}
theorem get_R {R : List (List Nat)} {i : Nat} (hi : i < R.length) : (R.map eS)[i]? = some (eS (R.getD i [])) := by simp [List.getD_eq_getElem?_getD, hi]
theorem row_R {R : List (List Nat)} {n i : Nat} (hR : ∀ r ∈ R, r.length = n) (hi : i < R.length) : (R.getD i []).length = n := by
  rw [List.getD_eq_getElem?_getD, List.getElem?_eq_getElem hi]
  exact hR _ (List.getElem_mem _)
theorem sgn_at {g : List Nat} {k : Nat} (hk : k < g.length) : g[k]? = some (g.getD k 46) := by rw [List.getD_eq_getElem?_getD, List.getElem?_eq_getElem hk]; rfl
/-- R[i][k] -/
theorem cell_at {M : Addr → Prop} {H : Hp} {x : V} {R : List (List Nat)} {n : Nat} {i k : Nat} {Q : VK} {σ : L2.St} {ta tb : TE} (hx : Rep K M H x (.lst (R.map eS))) (hR : ∀ r ∈ R, r.length = n) (hn : n ≤ 1000) (hi : i < R.length) (hk : k < n)
    (h1 : ∀ Z : VK, (∀ v, Rep K M H v (.str (T (R.getD i []))) → Z v H) → ta σ H Z) (h2 : ∀ Z : VK, Z (.int (k : Nat)) H → tb σ H Z) (q : Q (.str (T [(R.getD i []).getD k 46])) H) : tOp (rIx K) ta tb σ H Q := by
  refine sx_op (h1 _ fun v rv => h2 _ ?_)
  cases rep_str rv
  exact ix_T (szOk (by have := row_R hR hi; omega)) (sgn_at (by rw [row_R hR hi]; exact hk)) q
def spLEnd (K : PySem.W.Frag) : Sp := fun vs H Q _ => ∃ (M : Addr → Prop) (I : Hp → Prop) (x : V) (n m : Nat) (R : List (List Nat)), Wf M I ∧ I H ∧ vs = [.int n, x, .int m] ∧ Rep K M H x (.lst (R.map eS)) ∧ n ≤ 1000 ∧ (∀ r ∈ R, r.length = n) ∧ R.length ≤ 1000 ∧ 1 ≤ m ∧ m ≤ R.length ∧ ∀ H', Ex M H H' → I H' → Q (oV (endF R m)) H'
def spMoved (K : PySem.W.Frag) : Sp := fun vs H Q _ => ∃ (M : Addr → Prop) (I : Hp → Prop) (x : V) (n m : Nat) (R : List (List Nat)), Wf M I ∧ I H ∧ vs = [.int n, x, .int m] ∧ Rep K M H x (.lst (R.map eS)) ∧ n ≤ 1000 ∧ (∀ r ∈ R, r.length = n) ∧ R.length ≤ 1000 ∧ 1 ≤ m ∧ m ≤ R.length ∧ R.getD (m - 1) [] ≠ List.replicate n 46 ∧ ∀ H', Ex M H H' → I H' → Q (oV (endF R m)) H'
def spGet (K : PySem.W.Frag) : Sp := fun vs H Q _ => ∃ (M : Addr → Prop) (I : Hp → Prop) (x : V) (fr : List (List Nat × Nat)) (S Y R : List (List Nat)) (m : Nat), I H ∧ vs = [x, .int m] ∧ StrV K M I H x fr S Y R ∧ 1 ≤ m ∧ m ≤ R.length ∧ Q (.str (T (R.getD (m - 1) []))) H
def spGrownR (K : PySem.W.Frag) : Sp := fun vs H Q _ => ∃ (M : Addr → Prop) (I : Hp → Prop) (s dx : Addr) (fs : List (Str × V)) (v : V) (fr : List (List Nat × Nat)) (S Y R rs : List (List Nat)), StrM K M I H s dx fs fr S Y R ∧ vs = [.ref s, v] ∧ Rep K (Mq M s) H v (.lst (rs.map eS)) ∧ fr.length ≤ 1000 ∧ R.length + rs.length ≤ 400 ∧ (∀ r ∈ rs, isRow fr r = true ∧ r ∈ Y) ∧
  rs.length ∈ [0, 1, 2, 3, 4, 6] ∧ ∀ fs' H', StrM K M I H' s dx fs' fr S Y (R ++ rs) → Ex (Mq M s) H H' → Q (.int ((R ++ rs).length : Nat)) H'
end


/-! ### what a stream tells of itself: len, repr, bool, ==, twin, the facts -/
def reprS (n : Nat) : Str := ((Str.empty ++ T [83, 116, 114, 101, 97, 109, 40]) ++ Str.ofString (toString ((n : Nat) : Int))) ++ T [32, 109, 111, 109, 101, 110, 116, 115, 41]
theorem log_small {n : Nat} (h : n ≤ 1000) : ((n : Nat) : Int).natAbs.log2 < 1920 := by
  rw [Int.natAbs_natCast]
  exact Nat.lt_of_le_of_lt (Nat.log2_le_self _) (by omega)
section
variable {P : Program} {w : World} {K : PySem.W.Frag} {mg : Str → Option Value} {base : Heap}
theorem repr_J {te : TE} {σ : L2.St} {H : Hp} {Q : VK} {n : Nat} (hn : n ≤ 1000) (h : ∀ Z : VK, Z (.int (n : Nat)) H → te σ H Z) (q : Q (.str (reprS n)) H) : tJ [tC (.str (T [83, 116, 114, 101, 97, 109, 40])), tFmt te, tC (.str (T [32, 109, 111, 109, 101, 110, 116, 115, 41]))] σ H Q := by
  have l1 : (Str.ofString (toString ((n : Nat) : Int))).length ≤ 4 := toString_length_le (by omega) (by decide) (by omega)
  have hs : sizeLine = 16777216 := sizeLine_eq
  have l0 : (Str.empty ++ T [83, 116, 114, 101, 97, 109, 40]).length = 7 := rfl
  have l2 : (T [32, 109, 111, 109, 101, 110, 116, 115, 41]).length = 9 := rfl
  refine sx_j (sx_jc (sx_c ?_))
  refine ⟨_, rfl, by rw [l0, hs]; decide, ?_⟩
  refine sx_jc (sx_fmt (h _ (.inr ⟨_, rfl, log_small hn, ?_⟩)))
  refine ⟨_, rfl, by rw [str_app_len, l0, hs]; omega, ?_⟩
  refine sx_jc (sx_c ?_)
  refine ⟨_, rfl, by rw [str_app_len, str_app_len, l0, l2, hs]; omega, ?_⟩
  exact sx_jn q
theorem eqv_lst (a b : List PyData) : PyData.eqv (.list a) (.list b) = PyData.eqvAll a b := by simp only [PyData.eqv]
theorem eqv_tup (a b : List PyData) : PyData.eqv (.tuple a) (.tuple b) = PyData.eqvAll a b := by simp only [PyData.eqv]
theorem eqv_cons (x y : PyData) (a b : List PyData) : PyData.eqvAll (x :: a) (y :: b) = (PyData.eqv x y && PyData.eqvAll a b) := by simp only [PyData.eqvAll]
theorem eqv_nn : PyData.eqvAll [] [] = true := by simp only [PyData.eqvAll]
theorem eqv_nc (y : PyData) (b : List PyData) : PyData.eqvAll [] (y :: b) = false := by simp only [PyData.eqvAll]
theorem eqv_cn (y : PyData) (b : List PyData) : PyData.eqvAll (y :: b) [] = false := by simp only [PyData.eqvAll]
theorem eqv_all {α : Type} [DecidableEq α] {f : α → D} (h : ∀ a b, PyData.eqv (pyD (f a)) (pyD (f b)) = decide (a = b)) : ∀ {A B : List α}, PyData.eqvAll (pyAll (A.map f)) (pyAll (B.map f)) = decide (A = B)
  | [], [] => by simp only [List.map_nil, pyAll, eqv_nn, decide_true]
  | [], b :: B => by simp only [List.map_nil, List.map_cons, pyAll, eqv_nc]; rfl
  | a :: A, [] => by simp only [List.map_nil, List.map_cons, pyAll, eqv_cn]; rfl
  | a :: A, b :: B => by
    simp only [List.map_cons, pyAll, eqv_cons, eqv_all h (A := A) (B := B), h]
    rw [Bool.eq_iff_iff]
    simp
theorem eqv_T (a b : List Nat) : PyData.eqv (.str (T a)) (.str (T b)) = decide (a = b) := by
  rw [Bool.eq_iff_iff]
  simp only [PyData.eqv, beq_iff_eq, decide_eq_true_eq]
  exact ⟨fun h => T_inj h, fun h => by rw [h]⟩
theorem eqv_eS (a b : List Nat) : PyData.eqv (pyD (eS a)) (pyD (eS b)) = decide (a = b) := eqv_T a b
theorem eqv_eC (a b : List Nat × Nat) : PyData.eqv (pyD (eC a)) (pyD (eC b)) = decide (a = b) := by
  obtain ⟨a1, a2⟩ := a
  obtain ⟨b1, b2⟩ := b
  show PyData.eqv (.tuple [.str (T a1), .int (a2 : Nat)]) (.tuple [.str (T b1), .int (b2 : Nat)]) = _
  rw [eqv_tup, eqv_cons, eqv_cons, eqv_nn, eqv_T, Bool.and_true, Bool.eq_iff_iff]
  simp only [PyData.eqv, Bool.and_eq_true, decide_eq_true_eq, beq_iff_eq, Prod.mk.injEq]
  constructor
  · rintro ⟨h1, h2⟩; exact ⟨h1, by omega⟩
  · rintro ⟨h1, h2⟩; exact ⟨h1, by omega⟩
theorem eqAll_of {α : Type} {f : α → D} {n : Nat} : ∀ {l : List α}, (∀ a ∈ l, eqOk n (f a) = true) → eqAll n (l.map f) = true
  | [], _ => by simp only [List.map_nil, eqAll]
  | a :: l, h => by
    simp only [List.map_cons, eqAll, Bool.and_eq_true]
    exact ⟨h a List.mem_cons_self, eqAll_of fun b hb => h b (List.mem_cons_of_mem _ hb)⟩
theorem eq_Ls {α : Type} [DecidableEq α] {f : α → D} {n : Nat} {M : Addr → Prop} {H : Hp} {x y : V} {A B : List α} {Q : VK} (hf : ∀ a b, PyData.eqv (pyD (f a)) (pyD (f b)) = decide (a = b)) (hx : Rep K M H x (.lst (A.map f))) (hy : Rep K M H y (.lst (B.map f))) (hn : n ≤ 60) (ha : ∀ s ∈ A, eqOk n (f s) = true) (hb : ∀ s ∈ B, eqOk n (f s) = true) (q : Q (.bl (decide (A = B))) H) : rEqU K x y H Q := by
  refine eq_D (n := n + 1) (m := n + 1) hx hy (by simp only [eqOk]; exact eqAll_of ha) (by simp only [eqOk]; exact eqAll_of hb) (by omega) (by omega) ?_
  have e : PyData.eqv (pyD (.lst (A.map f))) (pyD (.lst (B.map f))) = decide (A = B) := by
    rw [← eqv_all hf]
    simp only [pyD, PyData.eqv]
  rw [e]
  exact q
theorem eok_S {n : Nat} {l : List Nat} (h : ∀ c ∈ l, c < 128) : eqOk n (eS l) = true := by
  cases n with
  | zero => show eqOk 0 (.str (T l)) = true; simp only [eqOk]; exact ok_T h
  | succ n => show eqOk (n + 1) (.str (T l)) = true; simp only [eqOk]; exact ok_T h
theorem eok_C {n : Nat} {p : List Nat × Nat} (h : ∀ c ∈ p.1, c < 128) : eqOk (n + 1) (eC p) = true := by
  have h1 := eok_S (n := n) h
  have h2 : eqOk n (.int (p.2 : Nat)) = true := by cases n <;> rfl
  show eqOk (n + 1) (.tup [eS p.1, .int (p.2 : Nat)]) = true
  simp only [eqOk, eqAll, h1, h2, Bool.and_true]
  exact ok_T h
theorem Ob.le {M M' : Addr → Prop} {H : Hp} {v : V} {c : Str} {ds : List (Str × D)} (hm : ∀ p, M p → M' p) (h : Ob K M' H v c ds) : Ob K M H v c ds := by
  obtain ⟨a, dx, fs, e1, n, e2, h1, h2⟩ := h
  exact ⟨a, dx, fs, e1, fun m => n (hm _ m), e2, fun f d hf => by obtain ⟨u, l, r⟩ := h1 f d hf; exact ⟨u, l, r.le hm⟩, h2⟩
theorem BandOk.le {M M' : Addr → Prop} {H : Hp} {v : V} {fr : List (List Nat × Nat)} {S Y : List (List Nat)} (hm : ∀ p, M p → M' p) (h : BandOk K M' H v fr S Y) : BandOk K M H v fr S Y := by
  obtain ⟨R, hp, h⟩ := h
  exact ⟨R, hp, Ob.le hm h⟩
/-- a stream that may change no longer does -/
theorem StrM.sh {M : Addr → Prop} {I : Hp → Prop} {H : Hp} {s dx : Addr} {fs : List (Str × V)} {fr : List (List Nat × Nat)} {S Y R : List (List Nat)} (h : StrM K M I H s dx fs fr S Y R) : StrV K M I H (.ref s) fr S Y R := by
  obtain ⟨hw, np, i, hfl, hno, bv, lv, h1, h2, hb, hr⟩ := h
  exact ⟨s, dx, fs, bv, lv, rfl, fun H' e _ => e s _ np i.2, h1, h2, hno, hb.le fun _ m => .inl m, hr.le fun _ m => .inl m⟩
theorem StrV.at {M : Addr → Prop} {I : Hp → Prop} {H : Hp} {x : V} {fr : List (List Nat × Nat)} {S Y R : List (List Nat)} (h : StrV K M I H x fr S Y R) (hI : I H) : ∃ (a dx : Addr) (fs : List (Str × V)), x = .ref a ∧ H a = some (.ins (He.ga K "Stream") dx fs) := by
  obtain ⟨s, dx, fs, bv, lv, e1, h1, h2, h3, h4, h5, h6⟩ := h
  exact ⟨s, dx, fs, e1, h1 H (Ex.refl _) hI⟩
theorem BandOk.at {M : Addr → Prop} {H : Hp} {x : V} {fr : List (List Nat × Nat)} {S Y : List (List Nat)} (h : BandOk K M H x fr S Y) : ∃ (a dx : Addr) (fs : List (Str × V)), x = .ref a ∧ H a = some (.ins (He.ga K "Band") dx fs) := by
  obtain ⟨R, _, a, dx, fs, e1, _, e2, _⟩ := h
  exact ⟨a, dx, fs, e1, e2⟩
def spSLen (K : PySem.W.Frag) : Sp := fun vs H Q _ => ∃ (M : Addr → Prop) (I : Hp → Prop) (x : V) (fr : List (List Nat × Nat)) (S Y R : List (List Nat)), I H ∧ vs = [x] ∧ StrV K M I H x fr S Y R ∧ Q (.int (R.length : Nat)) H
def spSRepr (K : PySem.W.Frag) : Sp := fun vs H Q _ => ∃ (M : Addr → Prop) (I : Hp → Prop) (x : V) (fr : List (List Nat × Nat)) (S Y R : List (List Nat)), I H ∧ vs = [x] ∧ StrV K M I H x fr S Y R ∧ R.length ≤ 1000 ∧ Q (.str (reprS R.length)) H
def spSBool : Sp := fun vs H Q _ => ∃ x, vs = [x] ∧ Q (.bl true) H
def spNames (K : PySem.W.Frag) : Sp := fun vs H Q _ => ∃ (M : Addr → Prop) (I : Hp → Prop) (x : V) (fr : List (List Nat × Nat)) (S Y : List (List Nat)), Wf M I ∧ I H ∧ vs = [x] ∧ BandOk K M H x fr S Y ∧ fr.length ≤ 1000 ∧ ∀ v H', Rep K M H' v (.lst (fr.map fun p => eS p.1)) → Ex M H H' → I H' → Q v H'
def spBEq (K : PySem.W.Frag) : Sp := fun vs H Q _ => ∃ (M : Addr → Prop) (x y : V) (fr fr2 : List (List Nat × Nat)) (S Y S2 Y2 : List (List Nat)), vs = [x, y] ∧ BandOk K M H x fr S Y ∧ BandOk K M H y fr2 S2 Y2 ∧ (∀ p ∈ fr, ∀ c ∈ p.1, c < 128) ∧ (∀ p ∈ fr2, ∀ c ∈ p.1, c < 128) ∧ (∀ r ∈ S, ∀ c ∈ r, c < 128) ∧ (∀ r ∈ S2, ∀ c ∈ r, c < 128) ∧ Q (.bl (decide (fr = fr2) && decide (S = S2))) H
def spSEq (K : PySem.W.Frag) : Sp := fun vs H Q _ => ∃ (M : Addr → Prop) (I : Hp → Prop) (x y : V) (fr fr2 : List (List Nat × Nat)) (S Y R S2 Y2 R2 : List (List Nat)), I H ∧ vs = [x, y] ∧ StrV K M I H x fr S Y R ∧ StrV K M I H y fr2 S2 Y2 R2 ∧ (∀ p ∈ fr, ∀ c ∈ p.1, c < 128) ∧ (∀ p ∈ fr2, ∀ c ∈ p.1, c < 128) ∧ (∀ r ∈ S, ∀ c ∈ r, c < 128) ∧ (∀ r ∈ S2, ∀ c ∈ r, c < 128) ∧ (∀ r ∈ R, ∀ c ∈ r, c < 128) ∧ (∀ r ∈ R2, ∀ c ∈ r, c < 128) ∧ Q (.bl (decide (fr = fr2) && decide (S = S2) && decide (R = R2))) H
def spTwin (K : PySem.W.Frag) : Sp := fun vs H Q _ => ∃ (M : Addr → Prop) (I : Hp → Prop) (x : V) (fr : List (List Nat × Nat)) (S Y R : List (List Nat)), Wf M I ∧ I H ∧ vs = [x] ∧ StrV K M I H x fr S Y R ∧ fr.length ≤ 1000 ∧ R.length ≤ 400 ∧ (∀ r ∈ R, isRow fr r = true ∧ r ∈ Y) ∧ ∀ s dx fs H', H s = none → StrM K M I H' s dx fs fr S Y R → Ex M H H' → Q (.ref s) H'
def factsD (n : Nat) (R : List (List Nat)) : D := .lst [.lst (R.map eS), .str (T (stF n R)), .int ((R.length : Nat) - ((telF n R 1 R.length).length : Nat)), .lst ((telF n R 1 R.length).map eN), .lst (endsD R), .int (R.length : Nat), .str (reprS R.length), .bl true]
def spFacts (K : PySem.W.Frag) : Sp := fun vs H Q _ => ∃ (M : Addr → Prop) (I : Hp → Prop) (x : V) (fr : List (List Nat × Nat)) (S Y R : List (List Nat)), Wf M I ∧ I H ∧ vs = [x] ∧ StrV K M I H x fr S Y R ∧ fr.length ≤ 1000 ∧ (∀ r ∈ R, r.length = fr.length) ∧ (∀ r ∈ R, ∀ c ∈ r, c < 128) ∧ R.length ≤ 1000 ∧ ∀ v H', Rep K M H' v (factsD fr.length R) → Ex M H H' → I H' → Q v H'
def spDueF (K : PySem.W.Frag) : Sp := fun vs H Q _ => ∃ (M : Addr → Prop) (I : Hp → Prop) (x : V) (n : Nat) (R : List (List Nat)), Wf M I ∧ I H ∧ vs = [.int n, x] ∧ Rep K M H x (.lst (R.map eS)) ∧ n ≤ 1000 ∧ R.length ≤ 1000 ∧ (∀ r ∈ R, r.length = n) ∧ (∀ r ∈ R, ∀ c ∈ r, c < 128) ∧ ∀ v H', Rep K M H' v (factsD n R) → Ex M H H' → I H' → Q v H'
end


/-! ### tellers behind a further row, plainly -/
theorem uni_46 {t r : List Nat} (ht : LotS t) (hl : r.length = t.length) (k : Nat) : (uni t (lot r)).getD k 46 = 46 ↔ t.getD k 46 = 46 ∧ r.getD k 46 = 46 := by
  have lts : t.getD k 46 = 46 ∨ t.getD k 46 = 43 := by
    by_cases hk : k < t.length
    · rw [List.getD_eq_getElem?_getD, List.getElem?_eq_getElem hk]
      exact ht _ (List.getElem_mem _)
    · exact .inl (get_out (by omega))
  rw [uni_D (by rw [lot_len]; exact hl), lot_D]
  by_cases e : r.getD k 46 = 46
  · rcases lts with e2 | e2
    · rw [e2, if_pos e]; exact ⟨fun _ => ⟨rfl, e⟩, fun _ => rfl⟩
    · rw [e2]; exact ⟨fun h => absurd h (by simp), fun h => absurd h.1 (by decide)⟩
  · rw [if_neg e, if_pos (.inr rfl)]; exact ⟨fun h => absurd h (by decide), fun h => absurd h.2 e⟩
theorem tell_tell : ∀ {ps : List (Nat × List Nat)} {s t : List Nat}, LotS s → LotS t → s.length = t.length → (∀ p ∈ ps, p.2.length = t.length) → (∀ k, s.getD k 46 ≠ 46 → t.getD k 46 ≠ 46) → tellF (tellF ps s) t = tellF ps t
  | [], _, _, _, _, _, _, _ => rfl
  | p :: ps, s, t, hs, ht, hl, hp, hst => by
    have hpl := hp p List.mem_cons_self
    have hp2 : ∀ q ∈ ps, q.2.length = t.length := fun q hq => hp q (List.mem_cons_of_mem _ hq)
    by_cases h1 : inB (lot p.2) s = true
    · have h2 : inB (lot p.2) t = true := (inB_iff hpl ht).mpr fun k hk => hst k ((inB_iff (by omega) hs).mp h1 k hk)
      rw [show tellF (p :: ps) s = tellF ps s by conv => lhs; unfold tellF; rw [if_pos h1]]
      rw [show tellF (p :: ps) t = tellF ps t by conv => lhs; unfold tellF; rw [if_pos h2]]
      exact tell_tell hs ht hl hp2 hst
    · have hul : (uni s (lot p.2)).length = s.length := uni_len (by rw [lot_len]; omega)
      have hul2 : (uni t (lot p.2)).length = t.length := uni_len (by rw [lot_len]; omega)
      rw [show tellF (p :: ps) s = p :: tellF ps (uni s (lot p.2)) by conv => lhs; unfold tellF; rw [if_neg h1]]
      by_cases h2 : inB (lot p.2) t = true
      · have h3 := (inB_iff hpl ht).mp h2
        rw [show tellF (p :: tellF ps (uni s (lot p.2))) t = tellF (tellF ps (uni s (lot p.2))) t by conv => lhs; unfold tellF; rw [if_pos h2]]
        rw [show tellF (p :: ps) t = tellF ps t by conv => lhs; unfold tellF; rw [if_pos h2]]
        refine tell_tell (lotS_uni _ _) ht (by omega) hp2 fun k hk => ?_
        by_cases e : s.getD k 46 = 46
        · refine h3 k fun e2 => hk ((uni_46 hs (by omega) k).mpr ⟨e, e2⟩)
        · exact hst k e
      · rw [show tellF (p :: tellF ps (uni s (lot p.2))) t = p :: tellF (tellF ps (uni s (lot p.2))) (uni t (lot p.2)) by conv => lhs; unfold tellF; rw [if_neg h2]]
        rw [show tellF (p :: ps) t = p :: tellF ps (uni t (lot p.2)) by conv => lhs; unfold tellF; rw [if_neg h2]]
        congr 1
        refine tell_tell (lotS_uni _ _) (lotS_uni _ _) (by omega) (fun q hq => by rw [hul2]; exact hp2 q hq) fun k hk e => ?_
        obtain ⟨e1, e2⟩ := (uni_46 ht hpl k).mp e
        apply hk
        refine (uni_46 hs (by omega) k).mpr ⟨?_, e2⟩
        apply Classical.byContradiction
        intro hn
        exact hst k hn e1
def prM (R : List (List Nat)) (ms : List Nat) : List (Nat × List Nat) := ms.map fun m => (m, R.getD (m - 1) [])
def behF (n : Nat) (R : List (List Nat)) (B : List Nat) : List Nat := (tellF (prM R (R.length :: B)) (List.replicate n 46)).map (·.1)
theorem beh_is {n : Nat} {R : List (List Nat)} {r : List Nat} (hR : ∀ q ∈ R, q.length = n) (hr : r.length = n) : behF n (R ++ [r]) (telF n R 1 R.length) = telF n (R ++ [r]) 1 (R ++ [r]).length := by
  have hb : LotS (List.replicate n 46) := fun c hc => .inl (List.eq_of_mem_replicate hc)
  have hpl : ∀ p ∈ prsF R 1 R.length, p.2.length = (List.replicate n 46).length := by
    intro p hp
    obtain ⟨i, hi⟩ := List.mem_iff_getElem?.mp hp
    obtain ⟨h1, rfl⟩ := prs_get.mp hi
    have hlt : R.length - i - 1 < R.length := by omega
    simp only [List.length_replicate]
    rw [List.getD_eq_getElem?_getD, List.getElem?_eq_getElem hlt]
    exact hR _ (List.getElem_mem _)
  have e1 : prsF (R ++ [r]) 1 (R ++ [r]).length = (R.length + 1, r) :: prsF R 1 R.length := by
    unfold prsF
    rw [List.length_append, List.length_singleton, show R.length + 1 - (1 - 1) = R.length + 1 by omega, List.range_succ_eq_map, List.map_cons, List.map_map]
    congr 1
    · simp
    · refine List.map_congr_left fun k hk => ?_
      have hk := List.mem_range.mp hk
      show (R.length + 1 - (k + 1), (R ++ [r]).getD (R.length + 1 - (k + 1) - 1) []) = _
      rw [show R.length + 1 - (k + 1) = R.length - k by omega, List.getD_eq_getElem?_getD, List.getElem?_append_left (by omega), ← List.getD_eq_getElem?_getD]
  have e2 : prM (R ++ [r]) ((R ++ [r]).length :: telF n R 1 R.length) = (R.length + 1, r) :: tellF (prsF R 1 R.length) (List.replicate n 46) := by
    unfold prM telF
    rw [List.map_cons, List.map_map]
    congr 1
    · simp
    · conv => rhs; rw [← List.map_id (tellF (prsF R 1 R.length) (List.replicate n 46))]
      refine List.map_congr_left fun p hp => ?_
      obtain ⟨i, hi⟩ := List.mem_iff_getElem?.mp (tell_sub.subset hp)
      obtain ⟨h1, rfl⟩ := prs_get.mp hi
      show (R.length - i, (R ++ [r]).getD (R.length - i - 1) []) = _
      rw [List.getD_eq_getElem?_getD, List.getElem?_append_left (by omega), ← List.getD_eq_getElem?_getD]
      rfl
  unfold behF
  rw [e2]
  unfold telF
  rw [e1]
  congr 1
  by_cases h : inB (lot r) (List.replicate n 46) = true
  · rw [show ∀ L, tellF ((R.length + 1, r) :: L) (List.replicate n 46) = tellF L (List.replicate n 46) from fun L => by conv => lhs; unfold tellF; rw [if_pos h]]
    rw [show tellF ((R.length + 1, r) :: prsF R 1 R.length) (List.replicate n 46) = tellF (prsF R 1 R.length) (List.replicate n 46) by conv => lhs; unfold tellF; rw [if_pos h]]
    exact tell_tell hb hb rfl hpl fun k h => h
  · rw [show ∀ L, tellF ((R.length + 1, r) :: L) (List.replicate n 46) = (R.length + 1, r) :: tellF L (uni (List.replicate n 46) (lot r)) from fun L => by conv => lhs; unfold tellF; rw [if_neg h]]
    rw [show tellF ((R.length + 1, r) :: prsF R 1 R.length) (List.replicate n 46) = (R.length + 1, r) :: tellF (prsF R 1 R.length) (uni (List.replicate n 46) (lot r)) by conv => lhs; unfold tellF; rw [if_neg h]]
    congr 1
    have hul : (uni (List.replicate n 46) (lot r)).length = (List.replicate n 46).length := uni_len (by rw [lot_len]; simpa using hr)
    refine tell_tell hb (lotS_uni _ _) hul.symm (fun q hq => by rw [hul]; exact hpl q hq) fun k hk => ?_
    exfalso
    apply hk
    by_cases hk2 : k < n
    · simp [List.getD_eq_getElem?_getD, hk2]
    · exact get_out (by simp; omega)


/-! ### counted standings, plainly -/
def getS (c : List (List Nat × Nat)) (s : List Nat) : Nat := ((c.find? fun p => decide (p.1 = s)).map (·.2)).getD 0
def addS (c : List (List Nat × Nat)) (s : List Nat) (m : Nat) : List (List Nat × Nat) :=
  if s ∈ c.map (·.1) then c.map fun p => if p.1 = s then (p.1, getS c s + m) else p else c ++ [(s, m)]
section
variable {c : List (List Nat × Nat)} {s t : List Nat} {m a b : Nat}
theorem get_none (h : s ∉ c.map (·.1)) : getS c s = 0 := by
  unfold getS
  rw [List.find?_eq_none.mpr fun p hp => by
    rw [decide_eq_true_eq]
    intro e
    exact h (e ▸ List.mem_map.mpr ⟨p, hp, rfl⟩)]
  rfl
theorem add_keys : (addS c s m).map (·.1) = if s ∈ c.map (·.1) then c.map (·.1) else c.map (·.1) ++ [s] := by
  unfold addS
  split
  · rw [List.map_map]
    refine List.map_congr_left fun p _ => ?_
    show (if p.1 = s then (p.1, getS c s + m) else p).1 = p.1
    split <;> rfl
  · rw [List.map_append]
    rfl
theorem add_nd (h : (c.map (·.1)).Nodup) : ((addS c s m).map (·.1)).Nodup := by
  rw [add_keys]
  split
  · exact h
  · rename_i hs
    rw [List.nodup_append]
    refine ⟨h, by simp, fun a ha b hb e => hs ?_⟩
    rw [List.mem_singleton] at hb
    rw [← hb, ← e]
    exact ha
theorem add_mem : t ∈ (addS c s m).map (·.1) ↔ t ∈ c.map (·.1) ∨ t = s := by
  rw [add_keys]
  split
  · rename_i hs
    exact ⟨.inl, fun h => h.elim id fun e => e ▸ hs⟩
  · rw [List.mem_append, List.mem_singleton]
theorem find_map {f : List Nat × Nat → List Nat × Nat} (hf : ∀ p, (f p).1 = p.1) : ∀ {c : List (List Nat × Nat)}, (c.map f).find? (fun p => decide (p.1 = s)) = (c.find? fun p => decide (p.1 = s)).map f
  | [] => rfl
  | p :: c => by
    rw [List.map_cons, List.find?_cons, List.find?_cons, hf]
    cases decide (p.1 = s)
    · exact find_map hf
    · rfl
theorem add_get : getS (addS c s m) s = getS c s + m := by
  unfold addS
  split
  · rename_i hs
    conv => lhs; unfold getS
    rw [find_map fun p => by split <;> rfl]
    obtain ⟨p, hp, e⟩ := List.mem_map.mp hs
    cases hf : c.find? fun p => decide (p.1 = s) with
    | none => exact absurd (List.find?_eq_none.mp hf p hp) (by simp [e])
    | some q =>
      have hq := List.find?_some hf
      have hq := of_decide_eq_true hq
      rw [Option.map_some, Option.map_some, Option.getD_some, if_pos hq]
      unfold getS
      rw [hf]
  · rename_i hs
    rw [get_none hs]
    unfold getS
    rw [List.find?_append, List.find?_eq_none.mpr fun p hp => by
      rw [decide_eq_true_eq]
      intro e
      exact hs (e ▸ List.mem_map.mpr ⟨p, hp, rfl⟩)]
    simp
theorem add_pos (h : s ∈ c.map (·.1)) : addS c s m = c.map fun p => if p.1 = s then (p.1, getS c s + m) else p := if_pos h
theorem add_neg (h : s ∉ c.map (·.1)) : addS c s m = c ++ [(s, m)] := if_neg h
theorem add_add : addS (addS c s a) s b = addS c s (a + b) := by
  have hk : s ∈ (addS c s a).map (·.1) := add_mem.mpr (.inr rfl)
  rw [add_pos hk, add_get]
  by_cases hs : s ∈ c.map (·.1)
  · rw [add_pos hs, add_pos hs, List.map_map]
    refine List.map_congr_left fun p _ => ?_
    show (if (if p.1 = s then (p.1, getS c s + a) else p).1 = s then ((if p.1 = s then (p.1, getS c s + a) else p).1, getS c s + a + b) else (if p.1 = s then (p.1, getS c s + a) else p)) = _
    by_cases e : p.1 = s
    · simp [e, Nat.add_assoc]
    · simp [e]
  · rw [add_neg hs, add_neg hs, get_none hs, List.map_append]
    congr 1
    · conv => rhs; rw [← List.map_id c]
      refine List.map_congr_left fun p hp => ?_
      rw [if_neg fun (e : p.1 = s) => hs (e ▸ List.mem_map.mpr ⟨p, hp, rfl⟩)]
      rfl
    · simp
theorem sum_upd {k : Nat} : ∀ {c : List (List Nat × Nat)}, (c.map (·.1)).Nodup → s ∈ c.map (·.1) → ((c.map fun p => if p.1 = s then (p.1, k) else p).map (·.2)).sum + getS c s = (c.map (·.2)).sum + k
  | [], _, h => by cases h
  | p :: c, hn, h => by
    rw [List.map_cons, List.nodup_cons] at hn
    by_cases e : p.1 = s
    · have hs : s ∉ c.map (·.1) := e ▸ hn.1
      have e2 : (c.map fun p => if p.1 = s then (p.1, k) else p) = c := by
        conv => rhs; rw [← List.map_id c]
        refine List.map_congr_left fun q hq => ?_
        rw [if_neg fun (e : q.1 = s) => hs (e ▸ List.mem_map.mpr ⟨q, hq, rfl⟩)]
        rfl
      have e3 : getS (p :: c) s = p.2 := by unfold getS; rw [List.find?_cons_of_pos (by rw [decide_eq_true_eq]; exact e)]; rfl
      rw [List.map_cons, e2, if_pos e, e3]
      simp only [List.map_cons, List.sum_cons]
      omega
    · have hs : s ∈ c.map (·.1) := by
        rw [List.map_cons] at h
        exact (List.mem_cons.mp h).elim (fun h => absurd h.symm e) id
      have e3 : getS (p :: c) s = getS c s := by unfold getS; rw [List.find?_cons_of_neg (by rw [decide_eq_true_eq]; exact e)]
      have ih := sum_upd (k := k) hn.2 hs
      rw [List.map_cons, if_neg e, e3]
      simp only [List.map_cons, List.sum_cons]
      omega
theorem add_sum (hn : (c.map (·.1)).Nodup) : ((addS c s m).map (·.2)).sum = (c.map (·.2)).sum + m := by
  unfold addS
  split
  · rename_i hs
    have := sum_upd (k := getS c s + m) hn hs
    omega
  · simp
end
def addAll (c : List (List Nat × Nat)) (l : List (List Nat)) : List (List Nat × Nat) := l.foldl (fun c s => addS c s 1) c
theorem addAll_app {c : List (List Nat × Nat)} {l m : List (List Nat)} : addAll c (l ++ m) = addAll (addAll c l) m := by unfold addAll; rw [List.foldl_append]
theorem addAll_rep {c : List (List Nat × Nat)} {s : List Nat} : ∀ m, addAll c (List.replicate (m + 1) s) = addS c s (m + 1)
  | 0 => rfl
  | m + 1 => by
    rw [List.replicate_succ', addAll_app, addAll_rep m]
    show addS (addS c s (m + 1)) s 1 = _
    rw [add_add]
theorem addAll_nd {l : List (List Nat)} : ∀ {c : List (List Nat × Nat)}, (c.map (·.1)).Nodup → ((addAll c l).map (·.1)).Nodup := by
  induction l with
  | nil => exact fun h => h
  | cons s l ih => exact fun h => ih (add_nd h)
theorem addAll_mem {l : List (List Nat)} {t : List Nat} : ∀ {c : List (List Nat × Nat)}, t ∈ (addAll c l).map (·.1) ↔ t ∈ c.map (·.1) ∨ t ∈ l := by
  induction l with
  | nil => exact fun {c} => ⟨.inl, fun h => h.elim id nofun⟩
  | cons s l ih =>
    intro c
    show t ∈ (addAll (addS c s 1) l).map (·.1) ↔ _
    rw [ih, add_mem, List.mem_cons]
    exact ⟨fun h => h.elim (fun h => h.elim .inl fun e => .inr (.inl e)) fun h => .inr (.inr h), fun h => h.elim (fun h => .inl (.inl h)) fun h => h.elim (fun e => .inl (.inr e)) .inr⟩
theorem addAll_sum {l : List (List Nat)} : ∀ {c : List (List Nat × Nat)}, (c.map (·.1)).Nodup → ((addAll c l).map (·.2)).sum = (c.map (·.2)).sum + l.length := by
  induction l with
  | nil => exact fun _ => rfl
  | cons s l ih =>
    intro c h
    show ((addAll (addS c s 1) l).map (·.2)).sum = _
    rw [ih (add_nd h), add_sum h, List.length_cons]
    omega
/-! #### the windows up to a moment -/
def winS : List (Nat × List Nat) → List Nat → Nat → List (List Nat × Nat)
  | [], s, la => [(s, la)]
  | p :: ts, s, la => (if p.1 < la then [(s, la - p.1)] else []) ++ winS ts (lay s p.2) p.1
theorem winS_cons {p : Nat × List Nat} {ts : List (Nat × List Nat)} {s : List Nat} {la : Nat} : winS (p :: ts) s la = (if p.1 < la then [(s, la - p.1)] else []) ++ winS ts (lay s p.2) p.1 := rfl
def expW (l : List (List Nat × Nat)) : List (List Nat) := l.flatMap fun p => List.replicate p.2 p.1
def addP (c : List (List Nat × Nat)) (l : List (List Nat × Nat)) : List (List Nat × Nat) := l.foldl (fun c p => addS c p.1 p.2) c
theorem addP_exp : ∀ {l : List (List Nat × Nat)} {c : List (List Nat × Nat)}, (∀ p ∈ l, 1 ≤ p.2) → addP c l = addAll c (expW l)
  | [], _, _ => rfl
  | p :: l, c, h => by
    have h1 := h p List.mem_cons_self
    show addP (addS c p.1 p.2) l = addAll c (List.replicate p.2 p.1 ++ expW l)
    rw [addAll_app, addP_exp fun q hq => h q (List.mem_cons_of_mem _ hq), show p.2 = (p.2 - 1) + 1 by omega, addAll_rep]
theorem win_pos : ∀ {ts : List (Nat × List Nat)} {s : List Nat} {la : Nat}, 1 ≤ la → (∀ p ∈ ts, 1 ≤ p.1) → ∀ q ∈ winS ts s la, 1 ≤ q.2
  | [], s, la, h, _, q, hq => by
    rw [List.mem_singleton.mp (show q ∈ [(s, la)] from hq)]
    exact h
  | p :: ts, s, la, h, hp, q, hq => by
    unfold winS at hq
    rcases List.mem_append.mp hq with hq | hq
    · split at hq
      · rw [List.mem_singleton.mp hq]
        show 1 ≤ la - p.1
        omega
      · cases hq
    · exact win_pos (hp p List.mem_cons_self) (fun r hr => hp r (List.mem_cons_of_mem _ hr)) q hq
theorem winS_len : ∀ {ts : List (Nat × List Nat)} {s : List Nat} {la : Nat}, (winS ts s la).length ≤ ts.length + 1
  | [], _, _ => Nat.le_refl _
  | p :: ts, s, la => by
    unfold winS
    have := winS_len (ts := ts) (s := lay s p.2) (la := p.1)
    rw [List.length_append, List.length_cons]
    split <;> simp <;> omega
def stT (ts : List (Nat × List Nat)) (s : List Nat) (low : Nat) : List Nat := ((ts.filter fun p => decide (low ≤ p.1)).map (·.2)).foldl lay s
theorem stT_none {ts : List (Nat × List Nat)} {s : List Nat} {low : Nat} (h : ∀ p ∈ ts, p.1 < low) : stT ts s low = s := by
  unfold stT
  rw [List.filter_eq_nil_iff.mpr fun p hp => by
    have := h p hp
    rw [decide_eq_true_eq]
    omega]
  rfl
theorem win_exp : ∀ {ts : List (Nat × List Nat)} {s : List Nat} {la : Nat}, ts.Pairwise (fun a b => b.1 < a.1) → (∀ p ∈ ts, p.1 ≤ la) → expW (winS ts s la) = (List.range la).map fun j => stT ts s (la - j)
  | [], s, la, _, _ => by
    show List.replicate la s ++ [] = _
    rw [List.append_nil]
    refine (List.eq_replicate_iff.mpr ⟨by simp, fun x hx => ?_⟩).symm
    obtain ⟨j, _, rfl⟩ := List.mem_map.mp hx
    rfl
  | p :: ts, s, la, hd, hp => by
    obtain ⟨h1, h2⟩ := List.pairwise_cons.mp hd
    have hpl := hp p List.mem_cons_self
    have ih := win_exp (s := lay s p.2) (la := p.1) h2 fun q hq => Nat.le_of_lt (h1 q hq)
    have e : expW (winS (p :: ts) s la) = List.replicate (la - p.1) s ++ expW (winS ts (lay s p.2) p.1) := by
      rw [winS_cons]
      unfold expW
      rw [List.flatMap_append]
      congr 1
      split
      · simp
      · rw [show la - p.1 = 0 by omega]; rfl
    rw [e, ih]
    have e2 : List.range la = List.range (la - p.1) ++ (List.range p.1).map fun j => la - p.1 + j := by
      conv => lhs; rw [show la = (la - p.1) + p.1 by omega]
      rw [List.range_add]
    conv => rhs; rw [e2]
    rw [List.map_append, List.map_map]
    congr 1
    · refine (List.eq_replicate_iff.mpr ⟨by simp, fun x hx => ?_⟩).symm
      obtain ⟨j, hj, rfl⟩ := List.mem_map.mp hx
      have hj := List.mem_range.mp hj
      refine stT_none fun q hq => ?_
      rcases List.mem_cons.mp hq with rfl | hq
      · omega
      · have := h1 q hq
        omega
    · refine List.map_congr_left fun j hj => ?_
      have hj := List.mem_range.mp hj
      show stT ts (lay s p.2) (p.1 - j) = stT (p :: ts) s (la - (la - p.1 + j))
      rw [show la - (la - p.1 + j) = p.1 - j by omega]
      unfold stT
      rw [List.filter_cons, if_pos (by rw [decide_eq_true_eq]; omega), List.map_cons, List.foldl_cons]
/-- the standing of the newest j rows up to the moment e -/
def sgF (n : Nat) (R : List (List Nat)) (e j : Nat) : List Nat := ((List.range j).map fun i => R.getD (e - i - 1) []).foldl lay (List.replicate n 46)
theorem sg_step {n : Nat} {R : List (List Nat)} {e j : Nat} : sgF n R e (j + 1) = lay (sgF n R e j) (R.getD (e - j - 1) []) := by
  unfold sgF
  rw [List.range_succ, List.map_append, List.foldl_append]
  rfl
def seqE (n : Nat) (R : List (List Nat)) (e : Nat) : List (List Nat) := (List.range e).map fun j => sgF n R e (j + 1)
def cntF (n : Nat) (R : List (List Nat)) : Nat → List (List Nat × Nat)
  | 0 => []
  | e + 1 => addAll (cntF n R e) (seqE n R (e + 1))
section
variable {n : Nat} {R : List (List Nat)}
theorem sg_len {e j : Nat} (hR : ∀ r ∈ R, r.length = n) (he : e ≤ R.length) : ∀ {j}, j ≤ e → (sgF n R e j).length = n
  | 0, _ => by simp [sgF]
  | j + 1, h => by
    rw [sg_step, lay_len, sg_len (e := e) (j := 0) hR he (by omega)]
    have hlt : e - j - 1 < R.length := by omega
    rw [sg_len (e := e) (j := 0) hR he (by omega), List.getD_eq_getElem?_getD, List.getElem?_eq_getElem hlt]
    exact hR _ (List.getElem_mem _)
theorem tell_fold : ∀ {ps : List (Nat × List Nat)} {t s : List Nat}, LotS t → s.length = t.length → (∀ p ∈ ps, p.2.length = t.length) → (∀ k, t.getD k 46 ≠ 46 → s.getD k 46 ≠ 46) → ((tellF ps t).map (·.2)).foldl lay s = (ps.map (·.2)).foldl lay s
  | [], _, _, _, _, _, _ => rfl
  | p :: ps, t, s, ht, hl, hp, hs => by
    have hpl := hp p List.mem_cons_self
    have hp2 : ∀ q ∈ ps, q.2.length = t.length := fun q hq => hp q (List.mem_cons_of_mem _ hq)
    by_cases h : inB (lot p.2) t = true
    · have h3 := (inB_iff hpl ht).mp h
      have e : lay s p.2 = s := by
        refine ext_D (lay_len (by omega)) fun k => ?_
        rw [lay_D (by omega)]
        by_cases e : s.getD k 46 = 46
        · rw [if_pos e, e]
          apply Classical.byContradiction
          intro hne
          exact hs k (h3 k hne) e
        · rw [if_neg e]
      rw [show tellF (p :: ps) t = tellF ps t by conv => lhs; unfold tellF; rw [if_pos h]]
      rw [List.map_cons, List.foldl_cons, e]
      exact tell_fold ht hl hp2 hs
    · have hul : (uni t (lot p.2)).length = t.length := uni_len (by rw [lot_len]; omega)
      rw [show tellF (p :: ps) t = p :: tellF ps (uni t (lot p.2)) by conv => lhs; unfold tellF; rw [if_neg h]]
      rw [List.map_cons, List.foldl_cons, List.map_cons, List.foldl_cons]
      refine tell_fold (lotS_uni _ _) (by rw [lay_len (by omega)]; omega) (fun q hq => by rw [hul]; exact hp2 q hq) fun k hk => ?_
      rw [lay_D (by omega)]
      by_cases e : s.getD k 46 = 46
      · rw [if_pos e]
        intro e2
        apply hk
        refine (uni_46 ht hpl k).mpr ⟨?_, e2⟩
        apply Classical.byContradiction
        intro hne
        exact hs k hne e
      · rw [if_neg e]
        exact e
theorem tell_split : ∀ {A B : List (Nat × List Nat)} {t : List Nat}, ∃ t', tellF (A ++ B) t = tellF A t ++ tellF B t'
  | [], B, t => ⟨t, rfl⟩
  | p :: A, B, t => by
    by_cases h : inB (lot p.2) t = true
    · obtain ⟨t', e⟩ := tell_split (A := A) (B := B) (t := t)
      refine ⟨t', ?_⟩
      rw [List.cons_append, show tellF (p :: (A ++ B)) t = tellF (A ++ B) t by conv => lhs; unfold tellF; rw [if_pos h], show tellF (p :: A) t = tellF A t by conv => lhs; unfold tellF; rw [if_pos h]]
      exact e
    · obtain ⟨t', e⟩ := tell_split (A := A) (B := B) (t := uni t (lot p.2))
      refine ⟨t', ?_⟩
      rw [List.cons_append, show tellF (p :: (A ++ B)) t = p :: tellF (A ++ B) (uni t (lot p.2)) by conv => lhs; unfold tellF; rw [if_neg h], show tellF (p :: A) t = p :: tellF A (uni t (lot p.2)) by conv => lhs; unfold tellF; rw [if_neg h], e]
      rfl
def telP (n : Nat) (R : List (List Nat)) (e : Nat) : List (Nat × List Nat) := tellF (prsF R 1 e) (List.replicate n 46)
theorem prs_len {e : Nat} (hR : ∀ r ∈ R, r.length = n) (he : e ≤ R.length) {l : Nat} : ∀ p ∈ prsF R l e, p.2.length = n ∧ l ≤ p.1 ∧ p.1 ≤ e := by
  intro p hp
  obtain ⟨i, hi⟩ := List.mem_iff_getElem?.mp hp
  obtain ⟨h1, rfl⟩ := prs_get.mp hi
  have hlt : e - i - 1 < R.length := by omega
  refine ⟨?_, by dsimp only; omega, by dsimp only; omega⟩
  dsimp only
  rw [List.getD_eq_getElem?_getD, List.getElem?_eq_getElem hlt]
  exact hR _ (List.getElem_mem _)
theorem blank_lotS : LotS (List.replicate n 46) := fun c hc => .inl (List.eq_of_mem_replicate hc)
theorem telP_st {e j : Nat} (hR : ∀ r ∈ R, r.length = n) (he : e ≤ R.length) (hj : j < e) : stT (telP n R e) (List.replicate n 46) (e - j) = sgF n R e (j + 1) := by
  have hs : prsF R 1 e = prsF R (e - j) e ++ (List.range (e - j - 1)).map fun k => (e - j - 1 - k, R.getD (e - j - 1 - k - 1) []) := by
    unfold prsF
    rw [show e - (1 - 1) = (j + 1) + (e - j - 1) by omega, List.range_add, List.map_append, List.map_map, show e - (e - j - 1) = j + 1 by omega]
    congr 1
    refine List.map_congr_left fun k hk => ?_
    have hk := List.mem_range.mp hk
    show (e - (j + 1 + k), R.getD (e - (j + 1 + k) - 1) []) = _
    rw [show e - (j + 1 + k) = e - j - 1 - k by omega]
  unfold telP
  rw [hs]
  obtain ⟨t', e2⟩ := tell_split (A := prsF R (e - j) e) (B := (List.range (e - j - 1)).map fun k => (e - j - 1 - k, R.getD (e - j - 1 - k - 1) [])) (t := List.replicate n 46)
  rw [e2]
  unfold stT
  rw [List.filter_append, List.filter_eq_self.mpr fun p hp => by
    have := (prs_len hR he p (tell_sub.subset hp)).2.1
    rw [decide_eq_true_eq]
    exact this]
  rw [List.filter_eq_nil_iff.mpr fun p hp => by
    obtain ⟨k, hk, rfl⟩ := List.mem_map.mp (tell_sub.subset hp)
    have hk := List.mem_range.mp hk
    rw [decide_eq_true_eq]
    dsimp only
    omega]
  rw [List.append_nil, tell_fold blank_lotS rfl (fun p hp => by rw [(prs_len hR he p hp).1]; simp) fun k h => h]
  unfold sgF prsF
  rw [List.map_map, show e - (e - j - 1) = j + 1 by omega]
  rfl
theorem telP_step {e : Nat} (hR : ∀ r ∈ R, r.length = n) (he : e < R.length) : tellF ((e + 1, R.getD e []) :: telP n R e) (List.replicate n 46) = telP n R (e + 1) := by
  have hb : LotS (List.replicate n 46) := blank_lotS
  have hrl : (R.getD e []).length = n := by
    rw [List.getD_eq_getElem?_getD, List.getElem?_eq_getElem he]
    exact hR _ (List.getElem_mem _)
  have hpl : ∀ p ∈ prsF R 1 e, p.2.length = (List.replicate n 46).length := fun p hp => by rw [(prs_len hR (by omega) p hp).1]; simp
  have e1 : prsF R 1 (e + 1) = (e + 1, R.getD e []) :: prsF R 1 e := by
    unfold prsF
    rw [show e + 1 - (1 - 1) = e + 1 by omega, List.range_succ_eq_map, List.map_cons, List.map_map]
    congr 1
    refine List.map_congr_left fun k hk => ?_
    show (e + 1 - (k + 1), R.getD (e + 1 - (k + 1) - 1) []) = _
    rw [show e + 1 - (k + 1) = e - k by omega]
  unfold telP
  rw [e1]
  by_cases h : inB (lot (R.getD e [])) (List.replicate n 46) = true
  · rw [show ∀ L, tellF ((e + 1, R.getD e []) :: L) (List.replicate n 46) = tellF L (List.replicate n 46) from fun L => by conv => lhs; unfold tellF; rw [if_pos h]]
    rw [show tellF ((e + 1, R.getD e []) :: prsF R 1 e) (List.replicate n 46) = tellF (prsF R 1 e) (List.replicate n 46) by conv => lhs; unfold tellF; rw [if_pos h]]
    exact tell_tell hb hb rfl hpl fun k h => h
  · rw [show ∀ L, tellF ((e + 1, R.getD e []) :: L) (List.replicate n 46) = (e + 1, R.getD e []) :: tellF L (uni (List.replicate n 46) (lot (R.getD e []))) from fun L => by conv => lhs; unfold tellF; rw [if_neg h]]
    rw [show tellF ((e + 1, R.getD e []) :: prsF R 1 e) (List.replicate n 46) = (e + 1, R.getD e []) :: tellF (prsF R 1 e) (uni (List.replicate n 46) (lot (R.getD e []))) by conv => lhs; unfold tellF; rw [if_neg h]]
    congr 1
    have hul : (uni (List.replicate n 46) (lot (R.getD e []))).length = (List.replicate n 46).length := uni_len (by rw [lot_len]; simpa using hrl)
    refine tell_tell hb (lotS_uni _ _) hul.symm (fun q hq => by rw [hul]; exact hpl q hq) fun k hk => ?_
    exfalso
    apply hk
    by_cases hk2 : k < n
    · simp [List.getD_eq_getElem?_getD, hk2]
    · exact get_out (by simp; omega)
theorem telP_desc {e : Nat} : (telP n R e).Pairwise fun a b => b.1 < a.1 := by
  unfold telP
  refine List.Pairwise.sublist tell_sub ?_
  unfold prsF
  rw [List.pairwise_map]
  refine List.Pairwise.imp_of_mem ?_ List.pairwise_lt_range
  intro a b ha hb hab
  have hb := List.mem_range.mp hb
  dsimp only
  omega
theorem telP_mem {e : Nat} (hR : ∀ r ∈ R, r.length = n) (he : e ≤ R.length) : ∀ p ∈ telP n R e, p.2.length = n ∧ 1 ≤ p.1 ∧ p.1 ≤ e := fun p hp => prs_len hR he p (tell_sub.subset hp)
theorem telP_len {e : Nat} : (telP n R e).length ≤ e := by
  have := (tell_sub (ps := prsF R 1 e) (t := List.replicate n 46)).length_le
  unfold prsF at this
  rw [List.length_map, List.length_range] at this
  unfold telP
  exact this
/-- what the program adds for a moment -/
theorem cnt_step {e : Nat} (hR : ∀ r ∈ R, r.length = n) (he : e + 1 ≤ R.length) : addP (cntF n R e) (winS (telP n R (e + 1)) (List.replicate n 46) (e + 1)) = cntF n R (e + 1) := by
  rw [addP_exp (win_pos (by omega) fun p hp => (telP_mem hR he p hp).2.1), win_exp telP_desc fun p hp => (telP_mem hR he p hp).2.2]
  show addAll _ _ = addAll _ (seqE n R (e + 1))
  congr 1
  refine List.map_congr_left fun j hj => ?_
  exact telP_st hR he (List.mem_range.mp hj)
theorem cnt_nd : ∀ {e}, ((cntF n R e).map (·.1)).Nodup
  | 0 => .nil
  | e + 1 => addAll_nd cnt_nd
theorem cnt_sum : ∀ {e}, 2 * ((cntF n R e).map (·.2)).sum = e * (e + 1)
  | 0 => rfl
  | e + 1 => by
    show 2 * ((addAll (cntF n R e) (seqE n R (e + 1))).map (·.2)).sum = _
    rw [addAll_sum cnt_nd, Nat.mul_add, cnt_sum]
    unfold seqE
    rw [List.length_map, List.length_range, ← Nat.add_mul, Nat.mul_comm]
theorem cnt_in {X : List (List Nat)} (h0 : List.replicate n 46 ∈ X) (hX : ∀ a ∈ X, ∀ b ∈ X, lay a b ∈ X) (hR : ∀ r ∈ R, r ∈ X) : ∀ {e}, e ≤ R.length → ∀ t ∈ (cntF n R e).map (·.1), t ∈ X
  | 0, _, t, ht => by cases ht
  | e + 1, he, t, ht => by
    rcases addAll_mem.mp (show t ∈ (addAll (cntF n R e) (seqE n R (e + 1))).map (·.1) from ht) with h | h
    · exact cnt_in h0 hX hR (by omega) t h
    · obtain ⟨j, hj, rfl⟩ := List.mem_map.mp h
      have hj := List.mem_range.mp hj
      have key : ∀ {j}, j ≤ e + 1 → sgF n R (e + 1) j ∈ X := by
        intro j
        induction j with
        | zero => exact fun _ => h0
        | succ j ih =>
          intro h
          rw [sg_step]
          refine hX _ (ih (by omega)) _ ?_
          have hlt : e + 1 - j - 1 < R.length := by omega
          rw [List.getD_eq_getElem?_getD, List.getElem?_eq_getElem hlt]
          exact hR _ (List.getElem_mem _)
      exact key hj
theorem len_sub {A B : List (List Nat)} (h : A.Nodup) (hs : ∀ a ∈ A, a ∈ B) : A.length ≤ B.length := List.Nodup.length_le_of_subset h hs
end
/-! #### dicts and sorted pairs -/
def cntK (c : List (List Nat × Nat)) : List (Key × V) := c.map fun p : List Nat × Nat => ((.inr (T p.1) : Key), V.int (p.2 : Nat))
theorem cnt_get (c : List (List Nat × Nat)) (s : List Nat) : (valV (cntK c) (.inr (T s))).getD (.int 0) = .int (getS c s : Nat) := by
  unfold cntK valV getS
  induction c with
  | nil => rfl
  | cons p c ih =>
    rw [List.map_cons, List.find?_cons, List.find?_cons]
    by_cases e : p.1 = s
    · subst e
      simp
    · rw [decide_eq_false e, decide_eq_false (show ¬ ((Sum.inr (T p.1) : Key) = .inr (T s)) from fun h => e (T_inj (by injection h)))]
      exact ih
theorem cnt_put {c : List (List Nat × Nat)} {s : List Nat} {m : Nat} : putK (cntK c) (.inr (T s)) (.int ((getS c s : Nat) + (m : Nat) : Int)) = cntK (addS c s m) := by
  have hany : ((cntK c).any fun kv => decide (kv.1 = (.inr (T s) : Key))) = decide (s ∈ c.map (·.1)) := by
    rw [Bool.eq_iff_iff, List.any_eq_true, decide_eq_true_eq, List.mem_map]
    unfold cntK
    constructor
    · rintro ⟨kv, h1, h2⟩
      obtain ⟨p, hp, rfl⟩ := List.mem_map.mp h1
      have h2 := of_decide_eq_true h2
      injection h2 with h2
      exact ⟨p, hp, T_inj h2⟩
    · rintro ⟨p, hp, rfl⟩
      exact ⟨_, List.mem_map.mpr ⟨p, hp, rfl⟩, decide_eq_true rfl⟩
  unfold putK addS
  rw [hany]
  by_cases h : s ∈ c.map (·.1)
  · rw [if_pos (decide_eq_true h), if_pos h]
    unfold cntK
    rw [List.map_map, List.map_map]
    refine List.map_congr_left fun p _ => ?_
    show (if (Sum.inr (T p.1) : Key) = .inr (T s) then _ else _) = _
    by_cases e : p.1 = s
    · rw [if_pos (by rw [e])]
      simp [e]
    · rw [if_neg fun h => e (T_inj (by injection h))]
      simp [e]
  · rw [if_neg (by rw [decide_eq_false h]; exact Bool.false_ne_true), if_neg h, get_none h]
    unfold cntK
    rw [List.map_append]
    simp
theorem leT_is (a b : List Nat) (g : List Nat → Int) : leT g a b = decide (¬ b < a) := by
  show (!PySem.W.dataLt (PyData.tuple [.str (T b), .int (g b)]) (PyData.tuple [.str (T a), .int (g a)])) = _
  rw [PySem.W.dataLt_pair (by simp [PySem.W.alike]) (by simp [PySem.W.alike]), PySem.W.dataLt_int, PySem.W.dataLt_str]
  simp only [PyData.eqv, beq_iff_eq]
  have et : (T b = T a) ↔ b = a := ⟨fun e => T_inj e, fun e => by rw [e]⟩
  have ec : ∀ l : List Nat, (T l).cps.toList = l := fun l => by rw [T_cps]
  rw [ec, ec]
  by_cases h2 : T b = T a
  · rw [if_pos h2]
    have := et.mp h2
    subst this
    simp
  · rw [if_neg h2]
    by_cases h3 : b < a
    · rw [decide_eq_true h3]; simp [h3]
    · rw [decide_eq_false h3]; simp [h3]
theorem leT_sort {g : List Nat → Int} {L ys : List (List Nat)} (hn : L.Nodup) (hp : ys.Perm L) (hs : sortedS (ys.map T) = true) : L.mergeSort (leT g) = ys := by
  have ht : ∀ a b c : List Nat, leT g a b = true → leT g b c = true → leT g a c = true := fun a b c h1 h2 => by
    rw [leT_is, decide_eq_true_eq] at *
    exact List.not_lt.mpr (List.le_trans (List.not_lt.mp h1) (List.not_lt.mp h2))
  have ho : ∀ a b : List Nat, (leT g a b || leT g b a) = true := fun a b => by
    rw [leT_is, leT_is, Bool.or_eq_true, decide_eq_true_eq, decide_eq_true_eq]
    by_cases h : b < a
    · exact .inr (List.lt_asymm h)
    · exact .inl h
  have hm := List.mergeSort_perm L (leT g)
  refine sort_two (g := fun _ => 0) ((List.pairwise_mergeSort ht ho L).imp fun {a b} h => ?_) ((rise_pw hs).imp fun {a b} h => .inr ⟨rfl, h⟩) (hm.nodup_iff.mpr hn) (hp.nodup_iff.mpr hn) fun r => by rw [hm.mem_iff, hp.mem_iff]
  rw [leT_is, decide_eq_true_eq] at h
  exact .inr ⟨rfl, h⟩


/-! ### standings of windows, counted -/
section
variable {P : Program} {w : World} {K : PySem.W.Frag} {mg : Str → Option Value} {base : Heap}
def eQ (p : List Nat × Nat) : D := .tup [.str (T p.1), .int (p.2 : Nat)]
def spWinS (K : PySem.W.Frag) : Sp := fun vs H Q _ => ∃ (M : Addr → Prop) (I : Hp → Prop) (x : V) (s : List Nat) (e : Nat) (ts : List (Nat × List Nat)), Wf M I ∧ I H ∧ vs = [.str (T s), x, .int e] ∧ Rep K M H x (.lst (ts.map eP)) ∧ s.length ≤ 1000 ∧ (∀ p ∈ ts, p.2.length = s.length) ∧ ts.length ≤ 1000 ∧
  ∀ v H', Rep K M H' v (.lst ((winS ts s e).map eQ)) → Ex M H H' → I H' → Q v H'
theorem ok_window_standings (B : Bl mg) (G1 : Df P w K mg base 1 "over" ["newer", "older"] [] (spLay K)) : Bok P w K mg base 2 "window_standings" s_window_standings ["nothing", "tellers", "end"] (spWinS K) := by
  refine Bok.mk sc_window_standings (fun vs H Q E h => ?_) (fun f cdv A outer s H vs Q E hr h => ⟨_, w_window_standings B G1 hr, ?_⟩)
  · obtain ⟨M, I, x, s, e, ts, _, _, rfl, _⟩ := h
    rfl
  · obtain ⟨M, I, x, s, e, ts, hw, hI, rfl, hx, hs, hts, htl, q⟩ := h
    unfold t_window_standings
    refine st_eq (σ' := [some (.str (T s)), some x, some (.int (e : Nat)), none, none, none, none, none]) rfl ?_
    walk_at "sx"
    refine lst_mut hw hI (by decide) fun p H1 hp np e1 w1 i1 => ?_
    have hx1 := (hx.off hp).ex e1
    have hW : ∀ xs, Wf (Mq M p) (Iq I p (.lst xs)) := fun xs => hw.add p _
    walk_at "sx"
    refine for_srcG (as := ts) (enc := eP) hx1 rfl (fun k σ H3 => ∃ (done : List (List Nat × Nat)) (acc : List V) (s3 : List Nat) (la : Nat) (u6 u7 : Option V), σ = [some (.str (T s)), some x, some (.int (e : Nat)), some (.ref p), some (.str (T s3)), some (.int (la : Nat)), u6, u7] ∧ done ++ winS (ts.drop k) s3 la = winS ts s e ∧ s3.length = s.length ∧ done.length ≤ k ∧ Iq I p (.lst acc) H3 ∧ Reps K (Mq M p) H3 acc (done.map eQ) ∧ Ex (Mq M p) H1 H3)
      ⟨[], [], s, e, _, _, rfl, rfl, rfl, by simp, i1, .nil, Ex.refl _⟩ (fun k σ H h => by obtain ⟨_, _, _, _, _, _, _, _, _, _, _, _, h⟩ := h; exact h) ?_ ?_
    · rintro k pr v σ H3 hk ⟨done, acc, s3, la, u6, u7, rfl, hd, hl3, hdl, i3, rs, e3⟩ rv
      have hkl := (List.getElem?_eq_some_iff.mp hk).1
      have hprl := hts pr (List.mem_of_getElem? hk)
      have hdrop : ts.drop k = pr :: ts.drop (k + 1) := by
        obtain ⟨h1, h2⟩ := List.getElem?_eq_some_iff.mp hk
        rw [← h2, List.getElem_cons_drop]
      rw [hdrop, winS_cons] at hd
      refine gs_pair rv fun v1 v2 r1 r2 => ?_
      cases rep_int r1
      cases rep_str r2
      dsimp only [List.set_cons_zero, List.set_cons_succ]
      have hal : acc.length ≤ 1000 := by have := rs.length; simp at this; omega
      refine sx_seqJ (fun σ H' => ∃ (done' : List (List Nat × Nat)) (acc' : List V), σ = [some (.str (T s)), some x, some (.int (e : Nat)), some (.ref p), some (.str (T s3)), some (.int (la : Nat)), some (.int (pr.1 : Nat)), some (.str (T pr.2))] ∧ done' ++ winS (ts.drop (k + 1)) (lay s3 pr.2) pr.1 = winS ts s e ∧ done'.length ≤ k + 1 ∧ Iq I p (.lst acc') H' ∧ Reps K (Mq M p) H' acc' (done'.map eQ) ∧ Ex (Mq M p) H3 H') (fun N hN => ?_) ?_
      · walk_at "sx"
        by_cases hlt : pr.1 < la
        · rw [if_pos hlt, ← List.append_assoc] at hd
          refine ifIsT (decide_eq_true (by omega)) ?_
          walk_at "sx"
          refine ⟨tyv_l i3.2, ?_⟩
          walk_at "sx"
          rw [show ((la : Nat) : Int) - ((pr.1 : Nat) : Int) = ((la - pr.1 : Nat) : Int) by omega]
          refine tup_end (K := K) (hW acc) i3 (.cons (.str _) (.cons (.int _) .nil)) (szOk (by simp)) fun v4 H4 e4 i4 r4 => ?_
          walk_at "sx"
          refine app_mut hw np i4 (by omega) fun H5 e5 w5 i5 => ?_
          walk_at "sx"
          refine hN _ _ ⟨done ++ [(s3, la - pr.1)], acc ++ [v4], rfl, hd, by simp; omega, i5, ?_, e4.trans e5⟩
          rw [List.map_append]
          exact ((rs.ex (e4.trans e5)).append (.cons (r4.ex e5) .nil))
        · rw [if_neg hlt, List.nil_append] at hd
          refine ifIsF (decide_eq_false (by omega)) ?_
          walk_at "sx"
          exact hN _ _ ⟨done, acc, rfl, hd, by omega, i3, rs, Ex.refl _⟩
      rintro σ H4 ⟨done', acc', rfl, hd', hdl', i4, rs4, e4⟩
      walk_at "sx"
      refine ⟨_, _, s3, pr.2, hW acc', i4, rfl, by omega, fun H5 e5 i5 => ?_⟩
      walk_at "sx"
      exact ⟨done', acc', lay s3 pr.2, pr.1, _, _, rfl, hd', by rw [lay_len (by omega)]; exact hl3, hdl', i5, rs4.ex e5, e3.trans (e4.trans e5)⟩
    · rintro σ H3 ⟨done, acc, s3, la, u6, u7, rfl, hd, hl3, hdl, i3, rs, e3⟩
      rw [List.drop_length] at hd
      have hal : acc.length ≤ 1000 := by have := rs.length; simp at this; omega
      walk_at "sx"
      refine ⟨tyv_l i3.2, ?_⟩
      walk_at "sx"
      refine tup_end (K := K) (hW acc) i3 (.cons (.str _) (.cons (.int _) .nil)) (szOk (by simp)) fun v4 H4 e4 i4 r4 => ?_
      walk_at "sx"
      refine app_mut hw np i4 (by omega) fun H5 e5 w5 i5 => ?_
      walk_at "sx"
      refine q _ H5 (.lst i5.2 np ?_) ((e1.trans (e3.trans (e4.trans e5))).shut hp) i5.1
      rw [← hd]
      show Reps K M H5 _ ((done ++ [(s3, la)]).map eQ)
      rw [List.map_append]
      exact (((rs.ex (e4.trans e5)).append (.cons (r4.ex e5) .nil))).le fun _ m => .inl m
theorem dnew_mut {M : Addr → Prop} {I : Hp → Prop} {H : Hp} {σ : L2.St} {Q : VK} (hw : Wf M I) (hI : I H) (q : ∀ p H', H p = none → ¬ M p → Ex (Mq M p) H H' → Iq I p (.dK []) H' → Q (.ref p) H') : tDNewK σ H Q := fun p hp => q p _ hp (hw.fresh hI hp) (Ex.of (same_upd hp)) ⟨hw.same (same_upd hp) hI, upd_same⟩
theorem dput_any {M : Addr → Prop} {I : Hp → Prop} {H : Hp} {p : Addr} {kvs : List (Key × V)} {k : Key} {v : V} {Z : Hp → Prop} (hw : Wf M I) (np : ¬ M p) (i : Iq I p (.dK kvs) H) (hl : kvs.length < 1000000) (q : ∀ H', Ex (Mq M p) H H' → Iq I p (.dK (putK kvs k v)) H' → Z H') : ∃ a H', V.ref p = .ref a ∧ DPut H a (kV k) v H' ∧ Z H' := by
  refine ⟨p, _, rfl, DPut.k i.2 (Nat.lt_of_lt_of_le hl (by decide)), ?_⟩
  obtain ⟨u1, u2⟩ := hw.put (o' := .dK (putK kvs k v)) np i
  exact q _ u2 u1
def keysF (c : List (List Nat × Nat)) : List (List Nat) := c.map (·.1)
def valsF (c : List (List Nat × Nat)) (ys : List (List Nat)) : List (List Nat × Nat) := ys.map fun s => (s, getS c s)
theorem cnt_val {c : List (List Nat × Nat)} {s : List Nat} (h : s ∈ c.map (·.1)) : valV (cntK c) (.inr (T s)) = some (.int (getS c s : Nat)) := by
  have := cnt_get c s
  cases hv : valV (cntK c) (.inr (T s)) with
  | some v => rw [hv] at this; rw [← this]; rfl
  | none =>
    exfalso
    unfold valV at hv
    rw [Option.map_eq_none_iff, List.find?_eq_none] at hv
    obtain ⟨p, hp, rfl⟩ := List.mem_map.mp h
    exact hv _ (List.mem_map.mpr ⟨p, hp, rfl⟩) (by simp)
theorem perm_T {ys : List Str} {F : List (List Nat)} (h : ys.Perm (F.map T)) : ∃ Z : List (List Nat), ys = Z.map T ∧ Z.Perm F := by
  refine ⟨ys.map fun z => z.cps.toList, ?_, ?_⟩
  · rw [List.map_map]
    conv => lhs; rw [← List.map_id ys]
    refine List.map_congr_left fun z hz => ?_
    obtain ⟨l, _, rfl⟩ := List.mem_map.mp (h.mem_iff.mp hz)
    rfl
  · have := h.map fun z => z.cps.toList
    rw [List.map_map] at this
    have e : (F.map ((fun z : Str => z.cps.toList) ∘ T)) = F := by
      conv => rhs; rw [← List.map_id F]
      rfl
    rw [e] at this
    exact this
def spCounts (K : PySem.W.Frag) : Sp := fun vs H Q _ => ∃ (M : Addr → Prop) (I : Hp → Prop) (x : V) (fr : List (List Nat × Nat)) (S Y R X : List (List Nat)), Wf M I ∧ I H ∧ vs = [x] ∧ StrV K M I H x fr S Y R ∧ fr.length ≤ 900 ∧ R.length ≤ 900 ∧ (∀ r ∈ R, r.length = fr.length) ∧ X.length ≤ 40 ∧ List.replicate fr.length 46 ∈ X ∧ (∀ a ∈ X, ∀ b ∈ X, lay a b ∈ X) ∧ (∀ r ∈ R, r ∈ X) ∧
  ∀ ys p H', ys.Perm (keysF (cntF fr.length R R.length)) → sortedS (ys.map T) = true → H p = none → ¬ M p → H' p = some (.dK (cntK (valsF (cntF fr.length R R.length) ys))) → Ex M H H' → I H' → Q (.ref p) H'
theorem ok_standing_counts (B : Bl mg) (CB : ClsF K "Band" fl_Band) (CS : ClsF K "Stream" fl_Stream) (G1 : DfM P w K mg base 2 "Band" "blank_row" ["self"] [] (spBBlank K)) (G2 : DfM P w K mg base 1 "Stream" "rows" ["self"] [] (spSRows K)) (G3 : Df P w K mg base 1 "lot_of" ["row"] [] (spLot K)) (G4 : Df P w K mg base 2 "newest_tellers" ["pairs", "told"] [] (spTell K)) (G5 : Df P w K mg base 2 "window_standings" ["nothing", "tellers", "end"] [] (spWinS K)) : Bok P w K mg base 3 "standing_counts" s_standing_counts ["stream"] (spCounts K) := by
  refine Bok.mk sc_standing_counts (fun vs H Q E h => ?_) (fun f cdv A outer s H vs Q E hr h => ⟨_, w_standing_counts B CB CS G1 G2 G3 G4 G5 hr, ?_⟩)
  · obtain ⟨M, I, x, fr, S, Y, R, X, _, _, rfl, _⟩ := h
    rfl
  · obtain ⟨M, I, x, fr, S, Y, R, X, hw, hI, rfl, hx, hf, hRl, hR, hX40, hX0, hXX, hRX, q⟩ := h
    have hcl : ∀ {e}, e ≤ R.length → (cntF fr.length R e).length ≤ 40 := fun {e} he => by
      have := len_sub (cnt_nd (n := fr.length) (R := R) (e := e)) (cnt_in hX0 hXX hRX he)
      rw [List.length_map] at this
      omega
    unfold t_standing_counts
    refine st_eq (σ' := [some x, none, none, none, none, none, none, none, none]) rfl ?_
    walk_at "sx"
    with_reducible refine sx_meth ?_
    with_reducible refine sx_fld ?_
    walk_at "sx"
    refine hx.band hI CS fun bv hb => ?_
    refine hb.meth (by decide) ?_
    walk_at "sx"
    refine ⟨M, bv, fr, S, Y, rfl, hb, by omega, ?_⟩
    walk_at "sx"
    refine dnew_mut hw hI fun q0 H1 hq nq e1 i1 => ?_
    have hW : ∀ c, Wf (Mq M q0) (Iq I q0 (.dK (cntK c))) := fun c => hw.add q0 _
    have i1 : Iq I q0 (.dK (cntK [])) H1 := i1
    with_reducible refine gs_name ?_
    dsimp only [List.set_cons_zero, List.set_cons_succ]
    walk_at "sx"
    refine lst_end (K := K) (hW []) i1 .nil (szOk (by simp)) fun v2 H2 e2 i2 r2 => ?_
    have x2 := ((hx.add (o := .dK (cntK [])) hq).ex e1).ex e2
    walk_at "sx"
    with_reducible refine sx_meth ?_
    walk_at "sx"
    refine x2.meth i2 (by decide) ?_
    walk_at "sx"
    refine ⟨_, _, x, fr, S, Y, R, hW [], i2, rfl, x2, fun v3 H3 r3 e3 i3 => ?_⟩
    refine for_enum (as := R) (enc := eS) r3 rfl (fun k σ H' => ∃ (vt : V) (u4 u5 u6 u7 u8 : Option V), σ = [some x, some (.str (T (List.replicate fr.length 46))), some (.ref q0), some vt, u4, u5, u6, u7, u8] ∧ Rep K (Mq M q0) H' vt (.lst ((telP fr.length R k).map eP)) ∧ Iq I q0 (.dK (cntK (cntF fr.length R k))) H' ∧ Ex (Mq M q0) H3 H')
      ⟨v2, _, _, _, _, _, rfl, r2.ex e3, i3, Ex.refl _⟩ (fun k σ H h => by obtain ⟨_, _, _, _, _, _, _, _, _, h⟩ := h; exact h) ?_ ?_
    · rintro k r v4 σ H4 H5 hk ⟨vt, u4, u5, u6, u7, u8, rfl, rt, i4, e4⟩ hsm rv
      cases rep_str rv
      obtain ⟨hk1, hk2⟩ := List.getElem?_eq_some_iff.mp hk
      have hrl : r.length = fr.length := hR r (List.mem_of_getElem? hk)
      have hrg : R.getD k [] = r := by rw [List.getD_eq_getElem?_getD, hk]; rfl
      have hWk := hW (cntF fr.length R k)
      have i5 := hWk.same hsm i4
      have e5 := e4.trans (Ex.of hsm)
      have rt5 := rt.ex (Ex.of hsm)
      have htl := telP_len (n := fr.length) (R := R) (e := k)
      dsimp only [List.set_cons_zero, List.set_cons_succ]
      walk_at "sx"
      rw [show ((k : Nat) : Int) + 1 = ((k + 1 : Nat) : Int) by omega]
      refine tup_end (K := K) hWk i5 (.cons (.int _) (.cons (.str _) .nil)) (szOk (by simp)) fun v6 H6 e6 i6 r6 => ?_
      walk_at "sx"
      refine lst_end (K := K) hWk i6 (.cons r6 .nil) (szOk (by simp)) fun v7 H7 e7 i7 r7 => ?_
      walk_at "sx"
      refine add_LL hWk i7 r7 (rt5.ex (e6.trans e7)) (szOk (by simp; omega)) fun v8 H8 e8 i8 r8 => ?_
      have r8 : Rep K (Mq M q0) H8 v8 (.lst (((k + 1, R.getD k []) :: telP fr.length R k).map eP)) := by rw [hrg]; exact r8
      walk_at "sx"
      refine ⟨_, _, List.replicate fr.length 46, hWk, i8, rfl, by simp; omega, fun H9 e9 i9 => ?_⟩
      rw [lot_blank]
      walk_at "sx"
      refine ⟨_, _, v8, _, List.replicate fr.length 46, hWk, i9, rfl, r8.ex e9, blank_lotS, by simp; omega, fun p hp => ?_, by simp; omega, fun v10 H10 r10 e10 i10 => ?_⟩
      · rw [List.length_replicate]
        rcases List.mem_cons.mp hp with rfl | hp
        · rw [hrg]; exact hrl
        · exact (telP_mem hR (by omega) p hp).1
      rw [telP_step hR hk1] at r10
      have htl2 := telP_len (n := fr.length) (R := R) (e := k + 1)
      walk_at "sx"
      refine ⟨_, _, v10, List.replicate fr.length 46, k + 1, telP fr.length R (k + 1), hWk, i10, rfl, r10, by simp; omega, fun p hp => by rw [List.length_replicate]; exact (telP_mem hR (by omega) p hp).1, by omega, fun v11 H11 r11 e11 i11 => ?_⟩
      have e511 := e6.trans (e7.trans (e8.trans (e9.trans (e10.trans e11))))
      have r10' := r10.ex e11
      have hst := cnt_step (n := fr.length) (R := R) (e := k) hR (by omega)
      generalize hws : winS (telP fr.length R (k + 1)) (List.replicate fr.length 46) (k + 1) = ws at r11 hst
      have hwl : ws.length ≤ k + 2 := by
        have := winS_len (ts := telP fr.length R (k + 1)) (s := List.replicate fr.length 46) (la := k + 1)
        rw [hws] at this
        omega
      refine for_srcG (as := ws) (enc := eQ) r11 rfl (fun j σ H' => ∃ (u7 u8 : Option V), σ = [some x, some (.str (T (List.replicate fr.length 46))), some (.ref q0), some v10, some (.int (k : Nat)), some (.str (T r)), some (.int ((k + 1 : Nat) : Int)), u7, u8] ∧ Iq I q0 (.dK (cntK (addP (cntF fr.length R k) (ws.take j)))) H' ∧ (addP (cntF fr.length R k) (ws.take j)).length ≤ 40 + j ∧ Ex (Mq M q0) H11 H')
        ⟨_, _, rfl, i11, hcl (by omega), Ex.refl _⟩ (fun k σ H h => by obtain ⟨_, _, _, _, _, h⟩ := h; exact h) ?_ ?_
      · rintro j pr v12 σ H12 hj ⟨u7, u8, rfl, i12, hl12, e12⟩ rv12
        have hjl := (List.getElem?_eq_some_iff.mp hj).1
        refine gs_pair rv12 fun w1 w2 q1 q2 => ?_
        cases rep_str q1
        cases rep_int q2
        dsimp only [List.set_cons_zero, List.set_cons_succ]
        with_reducible refine sx_dput ?_
        walk_at "sx"
        refine sx_dget2 ?_
        walk_at "sx"
        refine ⟨q0, rfl, .inl ⟨_, .inl i12.2⟩, ?_⟩
        walk_at "sx"
        refine ⟨_, DGet.k (k := .inr (T pr.1)) i12.2, ?_⟩
        rw [cnt_get]
        walk_at "sx"
        refine dput_any (k := .inr (T pr.1)) hw nq i12 (by unfold cntK; rw [List.length_map]; omega) fun H13 e13 i13 => ?_
        rw [cnt_put] at i13
        have ht : ws.take (j + 1) = ws.take j ++ [pr] := take_snoc hj
        have hap : addP (cntF fr.length R k) (ws.take (j + 1)) = addS (addP (cntF fr.length R k) (ws.take j)) pr.1 pr.2 := by
          rw [ht]; unfold addP; rw [List.foldl_append]; rfl
        refine ⟨_, _, rfl, by rw [hap]; exact i13, ?_, e12.trans e13⟩
        rw [hap]
        unfold addS
        split
        · rw [List.length_map]; omega
        · simp; omega
      · rintro σ H12 ⟨u7, u8, rfl, i12, hl12, e12⟩
        rw [List.take_length, hst] at i12
        exact ⟨v10, _, _, _, _, _, rfl, r10'.ex e12, i12, e5.trans (e511.trans e12)⟩
    · rintro σ H4 ⟨vt, u4, u5, u6, u7, u8, rfl, rt, i4, e4⟩
      have hcl0 := hcl (Nat.le_refl _)
      have hnd := cnt_nd (n := fr.length) (R := R) (e := R.length)
      generalize cntF fr.length R R.length = c at q i4 hcl0 hnd
      have hWc := hW c
      walk_at "sx"
      with_reducible refine sx_dc ?_
      walk_at "sx"
      refine ⟨q0, _, rfl, i4.2, fun L hL => ?_⟩
      rw [show (cntK c).map (fun kv => kV kv.1) = ((keysF c).map T).map V.str by unfold cntK keysF; rw [List.map_map, List.map_map, List.map_map]; rfl]
      have s5 := same_upd (o := .lst (((keysF c).map T).map V.str)) hL
      have i5 := hWc.same s5 i4
      have e5 := Ex.of (M := Mq M q0) s5
      have hL5 : upd H4 L (.lst (((keysF c).map T).map V.str)) L = some (.lst (((keysF c).map T).map V.str)) := upd_same
      generalize upd H4 L (.lst (((keysF c).map T).map V.str)) = H5 at i5 e5 hL5
      walk_at "sx"
      refine ⟨L, (keysF c).map T, rfl, SqL.of hL5, by unfold keysF; simp; omega, fun ys p hperm hsort hp => ?_⟩
      obtain ⟨Z, rfl, hZ⟩ := perm_T hperm
      have s6 := same_upd (o := .lst ((Z.map T).map V.str)) hp
      have i6 := hWc.same s6 i5
      have e6 := Ex.of (M := Mq M q0) s6
      have r6 : Rep K (Mq M q0) (upd H5 p (.lst ((Z.map T).map V.str))) (.ref p) (.lst (Z.map fun l => .str (T l))) := by
        refine .lst upd_same (hWc.fresh i5 hp) ?_
        rw [List.map_map]
        exact Reps.scal (f := fun l : List Nat => V.str (T l)) (g := fun l => D.str (T l)) (fun l => .str _) Z
      generalize upd H5 p (.lst ((Z.map T).map V.str)) = H6 at i6 e6 r6
      have hZn : Z.Nodup := hZ.nodup_iff.mpr hnd
      have e16 := (e2.trans (e3.trans (e4.trans (e5.trans e6))))
      have e06 : Ex M H H6 := (e1.trans e16).shut hq
      have hZl : Z.length ≤ 40 := by rw [hZ.length_eq]; unfold keysF; rw [List.length_map]; exact hcl0
      refine dc_txt (F := Z) (c := fun s => .int (getS c s : Nat)) hWc i6 r6 rfl hZn (by omega) (fun _ => rfl) (fun _ => rfl) (fun D l H' Z2 hD hl e i z => ?_) fun D H7 hD nD hDv e7 i7 => ?_
      · refine sx_dget ?_
        walk_at "sx"
        have hd := DGet.k (k := .inr (T l)) i.2
        rw [cnt_val (hZ.mem_iff.mp hl)] at hd
        exact ⟨q0, _, rfl, hd, z⟩
      · refine q Z D H7 hZ hsort (Ex.non hw i6.1 e06 hD) (fun h => nD (.inl h)) ?_ ((e1.trans (e16.trans e7)).shut hq) i7.1
        rw [hDv]
        unfold cntK valsF
        rw [List.map_map]
        rfl
end


/-! ### counted by growing windows; the dict told, changed, told again -/
theorem perm_sum {a b : List Nat} (h : a.Perm b) : a.sum = b.sum := by
  induction h with
  | nil => rfl
  | cons x _ ih => simp [ih]
  | swap x y l => simp; omega
  | trans _ _ i j => rw [i, j]
theorem vals_keys {c : List (List Nat × Nat)} (h : (c.map (·.1)).Nodup) : valsF c (keysF c) = c := by
  unfold valsF keysF
  rw [List.map_map]
  conv => rhs; rw [← List.map_id c]
  refine List.map_congr_left fun p hp => ?_
  have key : ∀ {c : List (List Nat × Nat)}, (c.map (·.1)).Nodup → p ∈ c → getS c p.1 = p.2 := by
    intro c
    induction c with
    | nil => exact fun _ h => by cases h
    | cons r c ih =>
      intro hn hp
      rw [List.map_cons, List.nodup_cons] at hn
      unfold getS
      rcases List.mem_cons.mp hp with rfl | hp
      · rw [List.find?_cons_of_pos (by simp)]; rfl
      · rw [List.find?_cons_of_neg (by
          rw [decide_eq_true_eq]
          intro e
          exact hn.1 (e ▸ List.mem_map.mpr ⟨p, hp, rfl⟩))]
        exact ih hn.2 hp
  show (p.1, getS c p.1) = id p
  rw [key h hp]
  rfl
theorem vals_sum {c : List (List Nat × Nat)} {ys : List (List Nat)} (h : (c.map (·.1)).Nodup) (hp : ys.Perm (keysF c)) : ((valsF c ys).map (·.2)).sum = (c.map (·.2)).sum := by
  have h1 : (valsF c ys).Perm (valsF c (keysF c)) := hp.map _
  rw [vals_keys h] at h1
  exact perm_sum (h1.map _)
theorem int_sum : ∀ l : List Nat, (l.map fun m : Nat => (m : Int)).sum = ((l.sum : Nat) : Int)
  | [] => rfl
  | m :: l => by rw [List.map_cons, List.sum_cons, List.sum_cons, int_sum l]; omega
section
variable {P : Program} {w : World} {K : PySem.W.Frag} {mg : Str → Option Value} {base : Heap}
theorem rep_flat {α : Type} {c : α} : ∀ n, (List.replicate n [c]).flatten = List.replicate n c
  | 0 => rfl
  | n + 1 => by rw [List.replicate_succ, List.flatten_cons, rep_flat n, List.replicate_succ]; rfl
/-- [x] * n -/
theorem mul_L1 {M : Addr → Prop} {I : Hp → Prop} {H : Hp} {y : V} {z : Str} {n : Nat} {Q : VK} (hw : Wf M I) (hI : I H) (hy : Rep K M H y (.lst [.str z])) (hn : n ≤ 1000) (q : ∀ v H', Ex M H H' → I H' → Rep K M H' v (.lst (List.replicate n (.str z))) → Q v H') : rMulU y (.int (n : Nat)) H Q := by
  cases hy with
  | @lst a xs _ h n1 r =>
    cases r with
    | cons r1 r2 =>
      cases r2
      cases rep_str r1
      refine .inr (.inr (.inr ⟨a, _, _, rfl, rfl, h, by omega, by omega, by simp; exact szOk (by omega), fun p hp => ?_⟩))
      have s := same_upd (o := .lst (List.replicate ((n : Nat) : Int).toNat [V.str z]).flatten) hp
      have e : (List.replicate ((n : Nat) : Int).toNat [V.str z]).flatten = List.replicate n (V.str z) := by rw [Int.toNat_natCast, rep_flat]
      rw [e] at s ⊢
      refine q _ _ (Ex.of s) (hw.same s hI) (.lst upd_same (hw.fresh hI hp) ?_)
      clear q s e hn
      generalize upd H p _ = H2
      induction n with
      | zero => exact .nil
      | succ n ih => rw [List.replicate_succ, List.replicate_succ]; exact .cons (.str _) ih
theorem sx_rng3d {ta : TA} {σ : L2.St} {H : Hp} {R : It → Hp → Prop} (h : ta σ H fun vs H1 => ∃ (i j c : Int) (n : Nat), vs = [.int i, .int j, .int c] ∧ RgC i j c n ∧ R (Itc i c n) H1) : iRng3 ta σ H R := h
def spCounted (K : PySem.W.Frag) : Sp := fun vs H Q _ => ∃ (M : Addr → Prop) (I : Hp → Prop) (x : V) (n : Nat) (R X : List (List Nat)), Wf M I ∧ I H ∧ vs = [.int n, x] ∧ Rep K M H x (.lst (R.map eS)) ∧ n ≤ 900 ∧ R.length ≤ 900 ∧ (∀ r ∈ R, r.length = n) ∧ X.length ≤ 40 ∧ List.replicate n 46 ∈ X ∧ (∀ a ∈ X, ∀ b ∈ X, lay a b ∈ X) ∧ (∀ r ∈ R, r ∈ X) ∧ (∀ r ∈ X, ∀ c ∈ r, c < 128) ∧
  ∀ v H', Rep K M H' v (.lst (((keysF (cntF n R R.length)).mergeSort (leT fun s => (getS (cntF n R R.length) s : Nat))).map (eT fun s => (getS (cntF n R R.length) s : Nat)))) → Ex M H H' → I H' → Q v H'
theorem ok_law_counted (B : Bl mg) : Bok P w K mg base 1 "_law_counted" s__law_counted ["_law_wide", "_law_past_here"] (spCounted K) := by
  refine Bok.mk sc__law_counted (fun vs H Q E h => ?_) (fun f cdv A outer s H vs Q E hr h => ⟨_, w__law_counted B hr, ?_⟩)
  · obtain ⟨M, I, x, n, R, X, _, _, rfl, _⟩ := h
    rfl
  · obtain ⟨M, I, x, n, R, X, hw, hI, rfl, hx, hn, hRl, hR, hX40, hX0, hXX, hRX, hXc, q⟩ := h
    have hcl : ∀ {e}, e ≤ R.length → (cntF n R e).length ≤ 40 := fun {e} he => by
      have := len_sub (cnt_nd (n := n) (R := R) (e := e)) (cnt_in hX0 hXX hRX he)
      rw [List.length_map] at this
      omega
    unfold t__law_counted
    refine st_eq (σ' := [some (.int (n : Nat)), some x, none, none, none, none, none, none]) rfl ?_
    walk_at "sx"
    refine dnew_mut hw hI fun q0 H1 hq nq e1 i1 => ?_
    have hW : ∀ c, Wf (Mq M q0) (Iq I q0 (.dK (cntK c))) := fun c => hw.add q0 _
    have i1 : Iq I q0 (.dK (cntK [])) H1 := i1
    have hx1 := (hx.off hq).ex e1
    with_reducible refine gs_name ?_
    dsimp only [List.set_cons_zero, List.set_cons_succ]
    walk_at "sx"
    refine len_R hx1 (.inl rfl) ?_
    rw [List.length_map]
    walk_at "sx"
    refine ⟨_, rfl, by omega, by omega, ?_⟩
    rw [Int.toNat_natCast]
    refine for_rng (fun k σ H' => ∃ (u3 u4 u5 u6 : Option V), σ = [some (.int (n : Nat)), some x, some (.ref q0), u3, u4, u5, u6, none] ∧ Iq I q0 (.dK (cntK (cntF n R k))) H' ∧ Ex (Mq M q0) H1 H')
      ⟨_, _, _, _, rfl, i1, Ex.refl _⟩ ?_ ?_
    · rintro k σ H3 hk ⟨u3, u4, u5, u6, rfl, i3, e3⟩
      dsimp only [List.set_cons_zero, List.set_cons_succ]
      rw [Int.zero_add]
      have hWk := hW (cntF n R k)
      have hx3 := hx1.ex e3
      walk_at "sx"
      refine lst_end (K := K) hWk i3 (.cons (.str _) .nil) (szOk (by simp)) fun v4 H4 e4 i4 r4 => ?_
      walk_at "sx"
      refine mul_L1 hWk i4 r4 (by omega) fun v5 H5 e5 i5 r5 => ?_
      have r5 : Rep K (Mq M q0) H5 v5 (.lst ((sgF n R (k + 1) 0).map fun c => .str (T [c]))) := by
        show Rep K (Mq M q0) H5 v5 (.lst ((List.replicate n 46).map fun c => .str (T [c])))
        rw [List.map_replicate]
        exact r5
      have e35 := e4.trans e5
      walk_at "sx"
      with_reducible refine sx_rng3d ?_
      walk_at "sx"
      refine ⟨_, _, _, _, rfl, RgC.neg (by omega) (by omega) (by omega) (by omega), ?_⟩
      rw [show (((k : Nat) : Int) - -1).toNat = k + 1 by omega]
      refine for_rngC (fun j σ H' => ∃ (v4 : V) (u5 u6 : Option V), σ = [some (.int (n : Nat)), some x, some (.ref q0), some (.int (k : Nat)), some v4, u5, u6, none] ∧ Rep K (Mq M q0) H' v4 (.lst ((sgF n R (k + 1) j).map fun c => .str (T [c]))) ∧ (addAll (cntF n R k) ((seqE n R (k + 1)).take j)).length ≤ 40 + j ∧ Iq I q0 (.dK (cntK (addAll (cntF n R k) ((seqE n R (k + 1)).take j)))) H' ∧ Ex (Mq M q0) H5 H')
        ⟨v5, _, _, rfl, r5, hcl (by omega), i5, Ex.refl _⟩ ?_ ?_
      · rintro j σ H6 hj ⟨v4, u5, u6, rfl, r6, hl6, i6, e6⟩
        have hx6 := hx3.ex (e35.trans e6)
        have hsl := sg_len (n := n) (R := R) (e := k + 1) (j := 0) hR (by omega) (show j ≤ k + 1 by omega)
        have hlt : k - j < R.length := by omega
        have hrl : (R.getD (k - j) []).length = n := by
          rw [List.getD_eq_getElem?_getD, List.getElem?_eq_getElem hlt]
          exact hR _ (List.getElem_mem _)
        have hst : sgF n R (k + 1) (j + 1) = lay (sgF n R (k + 1) j) (R.getD (k - j) []) := by
          rw [sg_step, show k + 1 - j - 1 = k - j by omega]
        have hWj := hW (addAll (cntF n R k) ((seqE n R (k + 1)).take j))
        dsimp only [List.set_cons_zero, List.set_cons_succ]
        rw [show ((k : Nat) : Int) + (j : Nat) * -1 = ((k - j : Nat) : Int) by omega]
        walk_at "sx"
        refine ⟨_, rfl, by omega, by omega, ?_⟩
        rw [Int.toNat_natCast]
        refine lc_rngN (K := K) (lo := 0) hWj i6 (szOk (by omega)) (fun _ => rfl) (fun _ => true) (fun k2 d => d = .str (T [(sgF n R (k + 1) (j + 1)).getD k2 46])) ?_ ?_ ?_
        · intro L acc k2 H7 hL nL hk2 wf hi ex Qt qt
          walk_at "sx"
          exact qt H7 hi (Ex.refl _)
        · intro L acc k2 H7 hL nL hk2 _ wf hi ex Qe qe
          rw [Int.zero_add]
          have hgl : (sgF n R (k + 1) j)[k2]? = some ((sgF n R (k + 1) j).getD k2 46) := by rw [List.getD_eq_getElem?_getD, List.getElem?_eq_getElem (by omega)]; rfl
          have hgr : (R.getD (k - j) [])[k2]? = some ((R.getD (k - j) []).getD k2 46) := by rw [List.getD_eq_getElem?_getD (l := R.getD (k - j) []), List.getElem?_eq_getElem (l := R.getD (k - j) []) (i := k2) (by omega)]; rfl
          have r7 := (r6.off hL).ex ex
          have hl : (sgF n R (k + 1) (j + 1)).getD k2 46 = if (sgF n R (k + 1) j).getD k2 46 = 46 then (R.getD (k - j) []).getD k2 46 else (sgF n R (k + 1) j).getD k2 46 := by rw [hst, lay_D (by omega)]
          walk_at "sx"
          refine ix_R (n := k2) (e := .str (T [(sgF n R (k + 1) j).getD k2 46])) r7 (.inl rfl) (by rw [List.getElem?_map, hgl]; rfl) fun v8 r8 => ?_
          cases rep_str r8
          walk_at "sx"
          by_cases hc : (sgF n R (k + 1) j).getD k2 46 = 46
          · rw [if_pos hc] at hl
            refine ifIsT (by simpa using hc) ?_
            walk_at "sx"
            refine ix_R (n := k - j) (e := eS (R.getD (k - j) [])) ((hx6.off hL).ex ex) (.inl rfl) (by simp [List.getD_eq_getElem?_getD, hlt]) fun v9 r9 => ?_
            cases rep_str r9
            walk_at "sx"
            refine ix_T (szOk (by omega)) hgr ?_
            exact qe _ _ H7 rfl (by rw [hl]; exact .str _) hi (Ex.refl _)
          · rw [if_neg hc] at hl
            refine ifIsF (by simpa using hc) ?_
            walk_at "sx"
            refine ix_R (n := k2) (e := .str (T [(sgF n R (k + 1) j).getD k2 46])) r7 (.inl rfl) (by rw [List.getElem?_map, hgl]; rfl) fun v9 r9 => ?_
            exact qe _ _ H7 rfl (by rw [hl]; exact r9) hi (Ex.refl _)
        intro L ds H7 hL a2 r7 e7 i7
        have hsl2 := sg_len (n := n) (R := R) (e := k + 1) (j := 0) hR (by omega) (show j + 1 ≤ k + 1 by omega)
        have r7 : Rep K (Mq M q0) H7 (.ref L) (.lst ((sgF n R (k + 1) (j + 1)).map fun c => .str (T [c]))) := by
          rw [a2.eq, filter_tt] at r7
          rw [show (sgF n R (k + 1) (j + 1)).map (fun c => D.str (T [c])) = (List.range n).map fun k2 => D.str (T [(sgF n R (k + 1) (j + 1)).getD k2 46]) from by
            refine List.ext_getElem (by simp [hsl2]) fun k2 h1 h2 => ?_
            have : k2 < (sgF n R (k + 1) (j + 1)).length := by simpa using h1
            simp [this]]
          exact r7
        walk_at "sx"
        refine join_1 (fun c : Nat => c) r7 (by omega) ?_
        rw [List.map_id']
        walk_at "sx"
        with_reducible refine sx_dput ?_
        walk_at "sx"
        refine sx_dget2 ?_
        walk_at "sx"
        refine ⟨q0, rfl, .inl ⟨_, .inl i7.2⟩, ?_⟩
        walk_at "sx"
        refine ⟨_, DGet.k (k := .inr (T (sgF n R (k + 1) (j + 1)))) i7.2, ?_⟩
        rw [cnt_get]
        walk_at "sx"
        refine dput_any (k := .inr (T (sgF n R (k + 1) (j + 1)))) hw nq i7 (by unfold cntK; rw [List.length_map]; omega) fun H8 e8 i8 => ?_
        have i8 : Iq I q0 (.dK (cntK (addS (addAll (cntF n R k) ((seqE n R (k + 1)).take j)) (sgF n R (k + 1) (j + 1)) 1))) H8 := by rw [← cnt_put]; exact i8
        have hap : addAll (cntF n R k) ((seqE n R (k + 1)).take (j + 1)) = addS (addAll (cntF n R k) ((seqE n R (k + 1)).take j)) (sgF n R (k + 1) (j + 1)) 1 := by
          have hg : (seqE n R (k + 1))[j]? = some (sgF n R (k + 1) (j + 1)) := by unfold seqE; rw [List.getElem?_map, List.getElem?_range (by omega)]; rfl
          rw [take_snoc hg, addAll_app]
          rfl
        refine ⟨.ref L, _, _, rfl, r7.ex e8, ?_, by rw [hap]; exact i8, e6.trans (e7.trans e8)⟩
        rw [hap]
        unfold addS
        split
        · rw [List.length_map]; omega
        · simp; omega
      · rintro σ H6 ⟨v4, u5, u6, rfl, r6, hl6, i6, e6⟩
        rw [List.take_of_length_le (by unfold seqE; simp)] at i6
        exact ⟨_, _, _, _, rfl, i6, e3.trans (e35.trans e6)⟩
    · rintro σ H3 ⟨u3, u4, u5, u6, rfl, i3, e3⟩
      have hcl0 := hcl (Nat.le_refl _)
      have hnd := cnt_nd (n := n) (R := R) (e := R.length)
      have hin := cnt_in (n := n) hX0 hXX hRX (Nat.le_refl _)
      generalize cntF n R R.length = c at q i3 hcl0 hnd hin
      walk_at "sx"
      refine sx_lock hw nq i3 fun od H4 i4 e4 Q' hQ' => ?_
      have hWf : Wf (Mq M q0) (Iq I q0 (.frz od (.dK (cntK c)))) := hw.add q0 _
      walk_at "sx"
      refine sx_keysV rfl i4.2 ?_
      refine lc_keys (K := K) (fun kv => .tup [match kv.1 with | .inr z => .str z | .inl i => .int i, match kv.1 with | .inr z => .int (getS c z.cps.toList : Nat) | .inl i => .int i]) hWf i4 (fun H' i => i.2) (by unfold cntK; rw [List.length_map]; exact szOk (by omega)) (fun _ => rfl) ?_ ?_
      · intro L acc a H5 hL ha wf hi ex Qe qe
        obtain ⟨p, hp, rfl⟩ := List.mem_map.mp ha
        walk_at "sx"
        refine sx_dget ?_
        walk_at "sx"
        refine ⟨q0, _, rfl, .inl ⟨_, .inr (T p.1), .inr ⟨od, hi.1.2⟩, rfl, (cnt_val (List.mem_map.mpr ⟨p, hp, rfl⟩)).symm⟩, ?_⟩
        walk_at "sx"
        refine tup_end (K := K) wf hi (.cons (.str _) (.cons (.int _) .nil)) (szOk (by simp)) fun v6 H6 e6 i6 r6 => ?_
        exact qe v6 H6 r6 i6 e6
      · intro y H5 r5 e5 i5
        refine hQ' y H5 i5 fun H6 i6 e6 => ?_
        have r6 : Rep K (Mq M q0) H6 y (.lst ((keysF c).map (eT fun s => (getS c s : Nat)))) := by
          unfold cntK at r5
          unfold keysF
          rw [List.map_map] at r5 ⊢
          exact r5.ex e6
        walk_at "sx"
        refine ⟨_, _, y, keysF c, _, hW c, i6, rfl, r6, by unfold keysF; rw [List.length_map]; omega, fun s hs ch hch => hXc s (hin s hs) ch hch, fun v7 H7 e7 i7 r7 => ?_⟩
        exact q v7 H7 (r7.le fun _ m => .inl m) ((e1.trans (e3.trans (e4.trans (e5.trans (e6.trans e7))))).shut hq) i7.1
end


/-! ### counts judged -/
section
variable {P : Program} {w : World} {K : PySem.W.Frag} {mg : Str → Option Value} {base : Heap}
theorem valV_mem {c : List (List Nat × Nat)} {ys : List (List Nat)} : (valsF c ys).map (·.1) = ys := by
  unfold valsF
  rw [List.map_map]
  conv => rhs; rw [← List.map_id ys]
  rfl
theorem eT_Q {c : List (List Nat × Nat)} {ys : List (List Nat)} : ys.map (eT fun s => (getS c s : Nat)) = (valsF c ys).map eQ := by
  unfold valsF
  rw [List.map_map]
  rfl
theorem cntK_Q {l : List (List Nat × Nat)} : (cntK l).map (fun kv : Key × V => D.tup [match kv.1 with | .inr z => .str z | .inl i => .int i, match kv.2 with | .int i => .int i | _ => .non]) = l.map eQ := by
  unfold cntK
  rw [List.map_map]
  rfl
theorem fit_Q {n : Nat} {l : List (List Nat × Nat)} (h : l.length ≤ 1000) : fitL (n + 2) (.lst (l.map eQ)) := fit_1 (by simp; omega) fun e he => by
  obtain ⟨p, _, rfl⟩ := List.mem_map.mp he
  exact .inr ⟨[.str (T p.1), .int (p.2 : Nat)], .inr rfl, by simp, fun f hf => by
    simp only [List.mem_cons, List.not_mem_nil, or_false] at hf
    rcases hf with rfl | rfl <;> exact fit_sc rfl _⟩
/-- [(p, q) for p, q in d.items()] -/
theorem items_all {M : Addr → Prop} {I : Hp → Prop} {H : Hp} {d : Addr} {l : List (List Nat × Nat)} {σ : L2.St} {Q : VK} (hw : Wf M I) (nd : ¬ M d) (hI : Iq I d (.dK (cntK l)) H) (hl : l.length ≤ 1000) (n : Nat) (hn : n ≤ 7) (hσ : σ.length = 11) (hv : σ[n]? = some (some (.ref d)))
    (q : ∀ y H', Rep K (Mq M d) H' y (.lst (l.map eQ)) → Ex (Mq M d) H H' → Iq I d (.dK (cntK l)) H' → Q y H') : tLockE (tLc (iItems (tVar n)) (gTup K 2 (gCons (gName 8) (gCons (gName 9) gNil))) tYes (tTup (tCons (tVar 8) (tCons (tVar 9) tNil))) [8, 9]) σ H Q := by
  refine sx_lock hw nd hI fun od H1 i1 e1 Q' hQ' => ?_
  have hWf : Wf (Mq M d) (Iq I d (.frz od (.dK (cntK l)))) := hw.add d _
  refine sx_lc ?_
  refine sx_itemsV hv i1.2 ?_
  have w1 : ∀ v w : V, (((wipe σ [8, 9]).set 8 (some v)).set 9 (some w))[8]? = some (some v) := fun v w => by
    rw [List.getElem?_set_ne (by decide), List.getElem?_set_self (by simp [wipe, hσ])]
  have w2 : ∀ v w : V, (((wipe σ [8, 9]).set 8 (some v)).set 9 (some w))[9]? = some (some w) := fun v w => by
    rw [List.getElem?_set_self (by simp [wipe, hσ])]
  refine lc_items (K := K) (fun kv : Key × V => D.tup [match kv.1 with | .inr z => .str z | .inl i => .int i, match kv.2 with | .int i => .int i | _ => .non]) hWf i1 (fun H' i => i.2) (by unfold cntK; rw [List.length_map]; exact szOk (by omega)) (fun v w => ?_) ?_ ?_
  · show ((((wipe σ [8, 9]).set 8 (some v)).set 9 (some w)).set 9 none).set 8 none = ((σ.set 9 none).set 8 none)
    show ((((((σ.set 9 none).set 8 none).set 8 (some v)).set 9 (some w)).set 9 none).set 8 none) = _
    rw [List.set_set, List.set_set, List.set_comm _ _ (by decide : (8 : Nat) ≠ 9), List.set_set, List.set_set]
  · intro L acc a H5 hL ha wf hi ex Qe qe
    obtain ⟨p, hp, rfl⟩ := List.mem_map.mp ha
    refine ⟨_, w1 _ _, _, w2 _ _, ?_⟩
    refine tup_end (K := K) wf hi (.cons (.str _) (.cons (.int _) .nil)) (szOk (by simp)) fun v6 H6 e6 i6 r6 => ?_
    exact qe v6 H6 r6 i6 e6
  · intro y H5 r5 e5 i5
    refine hQ' y H5 i5 fun H6 i6 e6 => ?_
    rw [cntK_Q] at r5
    exact q y H6 (r5.ex e6) (e1.trans (e5.trans e6)) i6
theorem rep_cnt {H : Hp} {p : Addr} {l : List (List Nat × Nat)} (h : H p = some (.dK (cntK l))) : Rep K (fun _ => False) H (.ref p) (.dct (l.map fun q : List Nat × Nat => ((.inr (T q.1) : Key), D.int (q.2 : Nat)))) := by
  refine .dct h (fun h => h) (by unfold cntK; rw [List.map_map, List.map_map]; rfl) ?_
  unfold cntK
  rw [List.map_map, List.map_map]
  exact Reps.scal (f := fun q : List Nat × Nat => V.int (q.2 : Nat)) (g := fun q => D.int (q.2 : Nat)) (fun _ => .int _) l
theorem ints_of {M : Addr → Prop} {H : Hp} : ∀ {l : List Nat} {xs : List V}, Reps K M H xs (l.map eN) → xs = l.map fun m : Nat => V.int m
  | [], _, h => by cases h; rfl
  | m :: l, _, h => by
    cases h with
    | cons h1 h2 => rw [rep_int h1, ints_of h2]; rfl
theorem raw_of {M : Addr → Prop} {H : Hp} {l : List Nat} {y : V} (h : Rep K M H y (.lst (l.map eN))) : ∃ a, y = .ref a ∧ H a = some (.lst (l.map fun m : Nat => V.int m)) := by
  cases h with
  | lst h1 n r => rw [ints_of r] at h1; exact ⟨_, rfl, h1⟩
theorem sum_N {M : Addr → Prop} {H : Hp} {l : List Nat} {y : V} {Q : VK} (h : Rep K M H y (.lst (l.map eN))) (q : Q (.int (l.sum : Nat)) H) : rSum K [y] H Q := by
  obtain ⟨a, rfl, h1⟩ := raw_of h
  refine ⟨a, l.map fun m : Nat => (m : Int), rfl, SqL.of (by rw [List.map_map]; exact h1), ?_⟩
  rw [int_sum]
  exact q
def spRight (K : PySem.W.Frag) : Sp := fun vs H Q _ => ∃ (M : Addr → Prop) (I : Hp → Prop) (x y : V) (bn : Bool) (fr : List (List Nat × Nat)) (S Y R X : List (List Nat)), Wf M I ∧ I H ∧ vs = [x, .int fr.length, y, .bl bn] ∧ StrV K M I H x fr S Y R ∧ Rep K M H y (.lst (R.map eS)) ∧ fr.length ≤ 900 ∧ R.length ≤ 900 ∧ (∀ r ∈ R, r.length = fr.length) ∧ X.length ≤ 40 ∧ List.replicate fr.length 46 ∈ X ∧ (∀ a ∈ X, ∀ b ∈ X, lay a b ∈ X) ∧ (∀ r ∈ R, r ∈ X) ∧ (∀ r ∈ X, ∀ c ∈ r, c < 128) ∧
  ∀ H', Ex M H H' → I H' → Q (.bl true) H'
theorem ok_law_right (B : Bl mg) (CS : ClsF K "Stream" fl_Stream) (G1 : DfM P w K mg base 1 "Stream" "rows" ["self"] [] (spSRows K)) (G2 : Df P w K mg base 1 "_law_counted" ["_law_wide", "_law_past_here"] [] (spCounted K)) (G3 : Df P w K mg base 5 "_law_same" ["_law_found", "_law_due"] [] (spSame K 4)) (G4 : Df P w K mg base 3 "standing_counts" ["stream"] [] (spCounts K)) (G5 : DfN P w K mg base 3 "standing_counts" ["stream"] 0 ["stream"] (kwV [.inl 0] []) (spCounts K)) : Bok P w K mg base 6 "_law_right" s__law_right ["_law_flow", "_law_wide", "_law_past_here", "_law_named"] (spRight K) := by
  refine Bok.mk sc__law_right (fun vs H Q E h => ?_) (fun f cdv A outer s H vs Q E hr h => ⟨_, w__law_right B CS G1 G2 G3 G4 G5 hr, ?_⟩)
  · obtain ⟨M, I, x, y, bn, fr, S, Y, R, X, _, _, rfl, _⟩ := h
    rfl
  · obtain ⟨M, I, x, y, bn, fr, S, Y, R, X, hw, hI, rfl, hx, hy, hf, hRl, hR, hX40, hX0, hXX, hRX, hXc, q⟩ := h
    have hcl : (cntF fr.length R R.length).length ≤ 40 := by
      have := len_sub (cnt_nd (n := fr.length) (R := R) (e := R.length)) (cnt_in hX0 hXX hRX (Nat.le_refl _))
      rw [List.length_map] at this
      omega
    have hnd := cnt_nd (n := fr.length) (R := R) (e := R.length)
    have hsum := cnt_sum (n := fr.length) (R := R) (e := R.length)
    unfold t__law_right
    refine st_eq (σ' := [some x, some (.int (fr.length : Nat)), some y, some (.bl bn), none, none, none, none, none, none, none]) rfl ?_
    have sp : ∀ {M : Addr → Prop} {I : Hp → Prop} {H : Hp} {Z : VK}, Wf M I → I H → StrV K M I H x fr S Y R → (∀ ys p H', ys.Perm (keysF (cntF fr.length R R.length)) → sortedS (ys.map T) = true → H p = none → ¬ M p → H' p = some (.dK (cntK (valsF (cntF fr.length R R.length) ys))) → Ex M H H' → I H' → Z (.ref p) H') → spCounts K [x] H Z E0 := fun {M I H Z} a b c d => ⟨M, I, x, fr, S, Y, R, X, a, b, rfl, c, hf, hRl, hR, hX40, hX0, hXX, hRX, d⟩
    have spC : ∀ {M : Addr → Prop} {I : Hp → Prop} {H : Hp} {Z : VK}, Wf M I → I H → Rep K M H y (.lst (R.map eS)) → (∀ v H', Rep K M H' v (.lst (((keysF (cntF fr.length R R.length)).mergeSort (leT fun s => (getS (cntF fr.length R R.length) s : Nat))).map (eT fun s => (getS (cntF fr.length R R.length) s : Nat)))) → Ex M H H' → I H' → Z v H') → spCounted K [.int (fr.length : Nat), y] H Z E0 := fun {M I H Z} a b c d => ⟨M, I, y, fr.length, R, X, a, b, rfl, c, hf, hRl, hR, hX40, hX0, hXX, hRX, hXc, d⟩
    generalize cntF fr.length R R.length = c at hcl hnd hsum sp spC
    have srt : ∀ {ys : List (List Nat)}, ys.Perm (keysF c) → sortedS (ys.map T) = true → ((keysF c).mergeSort (leT fun s => (getS c s : Nat))).map (eT fun s => (getS c s : Nat)) = (valsF c ys).map eQ := fun {ys} h1 h2 => by
      have hk : (keysF c).Nodup := hnd
      rw [leT_sort hk h1 h2, eT_Q]
    have vl : ∀ {ys : List (List Nat)}, ys.Perm (keysF c) → (valsF c ys).length ≤ 40 := fun {ys} h => by
      unfold valsF
      rw [List.length_map, h.length_eq]
      unfold keysF
      rw [List.length_map]
      exact hcl
    with_reducible refine sx_seq ?_
    refine sx_asgJ (fun v H' => ∃ ys p, v = .ref p ∧ ys.Perm (keysF c) ∧ sortedS (ys.map T) = true ∧ H p = none ∧ ¬ M p ∧ H' p = some (.dK (cntK (valsF c ys))) ∧ Ex M H H' ∧ I H') (fun Q' hQ' => ?_) ?_
    · walk_at "sx"
      refine ⟨_, rfl, ?_⟩
      cases bn with
      | true =>
        refine ifIsT rfl ?_
        with_reducible refine sx_callN ?_
        walk_at "sx"
        exact ⟨rfl, rfl, sp hw hI hx fun ys p H' a b c d e f g => hQ' _ _ ⟨ys, p, rfl, a, b, c, d, e, f, g⟩⟩
      | false =>
        refine ifIsF rfl ?_
        walk_at "sx"
        exact sp hw hI hx fun ys p H' a b c d e f g => hQ' _ _ ⟨ys, p, rfl, a, b, c, d, e, f, g⟩
    rintro v H1 ⟨ys, p, rfl, hys, hso, hp, np, hp1, e1, i1⟩
    have hvl := vl hys
    have i1' : Iq I p (.dK (cntK (valsF c ys))) H1 := ⟨i1, hp1⟩
    have hW : ∀ kvs, Wf (Mq M p) (Iq I p (.dK kvs)) := fun kvs => hw.add p _
    have e1w := Ex.wide (p := p) e1
    have x1 : ∀ kvs, StrV K (Mq M p) (Iq I p (.dK kvs)) H1 x fr S Y R := fun kvs => (hx.add (o := .dK kvs) hp).ex e1w
    have y1 := (hy.off hp).ex e1w
    with_reducible refine gs_name ?_
    dsimp only [List.set_cons_zero, List.set_cons_succ]
    walk_at "sx"
    refine isi_D (rep_cnt hp1) (.dct _) (kit_ty (b := "dict") (r := true) (by decide +kernel)) ?_
    walk_at "sx"
    refine spC (hW _) i1' y1 fun v2 H2 r2 e2 i2 => ?_
    rw [srt hys hso] at r2
    walk_at "sx"
    refine items_all hw np i2 (by omega) 4 (by decide) rfl rfl fun v3 H3 r3 e3 i3 => ?_
    with_reducible apply sx_nil
    refine ⟨_, _, rfl, ?_⟩
    dsimp only [List.set_cons_zero, List.set_cons_succ]
    walk_at "sx"
    refine ⟨_, _, _, _, _, hW _, i3, rfl, r3, r2.ex e3, fit_Q (n := 2) (by omega), fun H4 e4 i4 => ?_⟩
    walk_at "sx"
    refine lc_srcM (as := valsF c ys) (enc := eQ) (fun p => .int (p.2 : Nat)) (hW _) i4 (r3.ex e4) rfl (szOk (by omega)) (fun _ => rfl) ?_ ?_
    · intro L acc k pr v5 H5 hL ha rv wf hi ex Qe qe
      walk_at "sx"
      refine ix_R (n := 1) (e := .int (pr.2 : Nat)) rv (.inr rfl) rfl fun v6 r6 => ?_
      exact qe _ H5 r6 hi (Ex.refl _)
    intro v5 H5 r5 e5 i5
    have r5 : Rep K (Mq M p) H5 v5 (.lst (((valsF c ys).map (·.2)).map eN)) := by rw [List.map_map]; exact r5
    walk_at "sx"
    refine sum_N r5 ?_
    have hS : 2 * ((valsF c ys).map (·.2)).sum = R.length * (R.length + 1) := by rw [vals_sum hnd hys]; exact hsum
    refine mul_s (.inl ⟨by decide, by decide⟩) ?_
    walk_at "sx"
    have y5 := y1.ex (e2.trans (e3.trans (e4.trans e5)))
    refine len_R y5 (.inl rfl) ?_
    rw [List.length_map]
    walk_at "sx"
    refine len_R y5 (.inl rfl) ?_
    rw [List.length_map]
    walk_at "sx"
    refine mul_s (.inl ⟨by omega, by omega⟩) ?_
    have hS2 : (2 : Int) * (((valsF c ys).map (·.2)).sum : Nat) = (R.length : Nat) * ((R.length : Nat) + 1) := by
      have := congrArg (fun n : Nat => (n : Int)) hS
      simpa using this
    rw [hS2]
    walk_at "sx"
    refine ifIsF (by simp) ?_
    have e15 := e2.trans (e3.trans (e4.trans e5))
    have hkl : (cntK (valsF c ys)).length ≤ 40 := by unfold cntK; rw [List.length_map]; exact hvl
    have pl : ∀ (kvs : List (Key × V)) (k : Key) (v : V), (putK kvs k v).length ≤ kvs.length + 1 := fun kvs k v => by
      unfold putK
      split
      · rw [List.length_map]; omega
      · rw [List.length_append]; exact Nat.le_refl _
    with_reducible refine sx_next ?_
    dsimp only
    with_reducible refine sx_seq ?_
    with_reducible refine sx_dput ?_
    walk_at "sx"
    refine mul_Ti (n := fr.length) (l := [46]) (by omega) (by show 1 ≤ 100; decide) ?_
    rw [rep_flat]
    refine dput_any (k := .inr (T (List.replicate fr.length 46))) hw np i5 (by omega) fun H6 e6 i6 => ?_
    have hk6 := pl (cntK (valsF c ys)) (.inr (T (List.replicate fr.length 46))) (.int (-7))
    generalize hkv : putK (cntK (valsF c ys)) (.inr (T (List.replicate fr.length 46))) (.int (-7)) = kv6 at i6 hk6
    with_reducible refine sx_seq ?_
    with_reducible apply sx_drop
    refine sx_dpop1 ?_
    walk_at "sx"
    refine ⟨p, rfl, .inl ⟨_, .inl i6.2⟩, ?_⟩
    walk_at "sx"
    refine mul_Ti (n := fr.length) (l := [46]) (by omega) (by show 1 ≤ 100; decide) ?_
    rw [rep_flat]
    refine ⟨_, .inr (T (List.replicate fr.length 46)), .int (-7), i6.2, rfl, by rw [← hkv, valV_put, if_pos rfl], ?_⟩
    obtain ⟨i7, e7⟩ := hw.put (o' := .dK (dropK kv6 (.inr (T (List.replicate fr.length 46))))) np i6
    have hk7 : (dropK kv6 (.inr (T (List.replicate fr.length 46)))).length ≤ kv6.length := List.length_filter_le _ _
    generalize upd H6 p (.dK (dropK kv6 (.inr (T (List.replicate fr.length 46))))) = H7 at i7 e7
    generalize dropK kv6 (.inr (T (List.replicate fr.length 46))) = kv7 at i7 hk7
    with_reducible refine sx_seq ?_
    with_reducible refine sx_dput ?_
    walk_at "sx"
    refine dput_any (k := .inr (T [120])) hw np i7 (by omega) fun H8 e8 i8 => ?_
    generalize putK kv7 (.inr (T [120])) (.int 1) = kv8 at i8
    have e18 := e15.trans (e6.trans (e7.trans e8))
    have x8 := (x1 kv8).ex e18
    have r8 := r2.ex (e3.trans (e4.trans (e5.trans (e6.trans (e7.trans e8)))))
    have y8 := y5.ex (e6.trans (e7.trans e8))
    walk_at "sx"
    refine sp (hW kv8) i8 x8 fun ys2 p2 H9 hys2 hso2 hp2 np2 hp9 e9 i9 => ?_
    have hvl2 := vl hys2
    have i9' : Iq (Iq I p (.dK kv8)) p2 (.dK (cntK (valsF c ys2))) H9 := ⟨i9, hp9⟩
    have hW2 : Wf (Mq (Mq M p) p2) (Iq (Iq I p (.dK kv8)) p2 (.dK (cntK (valsF c ys2)))) := (hW kv8).add p2 _
    have e9w := Ex.wide (p := p2) e9
    have x9 := (x8.add (o := .dK (cntK (valsF c ys2))) hp2).ex e9w
    have r9 := (r8.off hp2).ex e9w
    have y9 := (y8.off hp2).ex e9w
    rw [← srt hys hso, srt hys2 hso2] at r9
    walk_at "sx"
    refine items_all (hW kv8) np2 i9' (by omega) 7 (by decide) rfl rfl fun v10 H10 r10 e10 i10 => ?_
    walk_at "sx"
    refine ⟨_, _, _, _, _, hW2, i10, rfl, r10, r9.ex e10, fit_Q (n := 2) (by omega), fun H11 e11 i11 => ?_⟩
    walk_at "sx"
    have x11 := x9.ex (e10.trans e11)
    with_reducible refine sx_meth ?_
    walk_at "sx"
    refine x11.meth i11 (by decide) ?_
    walk_at "sx"
    refine ⟨_, _, x, fr, S, Y, R, hW2, i11, rfl, x11, fun v12 H12 r12 e12 i12 => ?_⟩
    walk_at "sx"
    refine ⟨_, _, _, _, _, hW2, i12, rfl, r12, y9.ex (e10.trans (e11.trans e12)), fit_1 (n := 3) (by simp; omega) (fun e he => by obtain ⟨k, _, rfl⟩ := List.mem_map.mp he; exact fit_sc rfl _), fun H13 e13 i13 => ?_⟩
    refine q H13 ?_ i13.1.1
    have e813 : Ex (Mq M p) H8 H13 := (e9w.trans (e10.trans (e11.trans (e12.trans e13)))).shut hp2
    exact (e1w.trans (e18.trans e813)).shut hp
end


/-! ### a band, a stream made; slices; fits -/
section
variable {K : PySem.W.Frag} {M : Addr → Prop} {I : Hp → Prop} {H : Hp}
theorem new_band {v3 v4 : V} {fr : List (List Nat × Nat)} {S Y : List (List Nat)} {Z : Addr → Hp → Prop} (hw : Wf M I) (hI : I H) (r3 : Rep K M H v3 (.lst (fr.map eC))) (r4 : Rep K M H v4 (.lst (S.map eS))) (ok : FrOk fr) (nd : (fr.map (·.1)).Nodup) (l1 : 1 ≤ fr.length) (l2 : fr.length ≤ 12) (hs : S.length ≤ 30) (good : GoodS fr S) (hY : RowsOf S fr.length Y)
    (q : ∀ x H', H x = none → BandOk K M H' (.ref x) fr S Y → Ex M H H' → I H' → Z x H') : ∀ x dx, H x = none → H dx = none → dx ≠ x → spInit K (.ref x :: ([v3, v4] ++ [.int 800])) (upd (upd H dx (.own x)) x (.ins (He.ga K "Band") dx [])) (fun v H2 => v = .non ∧ Z x H2) E0 := by
  intro x dx hx hdx ne
  obtain ⟨nx, ex, ix⟩ := made hw hI (He.ga K "Band") hx hdx ne
  have rcx := (r3.off hx).ex (Ex.wide (p := x) ex)
  have ryx := (r4.off hx).ex (Ex.wide (p := x) ex)
  generalize upd (upd H dx (.own x)) x (.ins (He.ga K "Band") dx []) = H7 at ex ix rcx ryx
  refine ⟨_, _, x, dx, v3, v4, fr, S, Y, hw, nx, ix, rfl, rcx, ok, nd, l1, l2, ryx, hs, good, hY, fun fs R0 H8 hR0 hF e8 i8 => ⟨rfl, ?_⟩⟩
  have e68 : Ex M H H8 := ((Ex.wide (p := x) ex).trans e8).shut hx
  exact q x H8 hx ⟨R0, hR0, x, dx, fs, rfl, nx, i8.2, fun f d hf => by obtain ⟨u, l1, r1⟩ := hF.1 f d hf; exact ⟨u, l1, r1.le fun _ m => .inl m⟩, hF.2⟩ e68 i8.1
theorem new_stream {bv rv : V} {fr : List (List Nat × Nat)} {S Y R : List (List Nat)} {Z : Addr → Hp → Prop} (hw : Wf M I) (hI : I H) (hb : BandOk K M H bv fr S Y) (hr : Rep K M H rv (.lst (R.map eS))) (hf : fr.length ≤ 1000) (hl : R.length ≤ 400) (hR : ∀ r ∈ R, isRow fr r = true ∧ r ∈ Y)
    (q : ∀ s dx fs H', H s = none → StrM K M I H' s dx fs fr S Y R → Ex M H H' → Z s H') : ∀ x dx, H x = none → H dx = none → dx ≠ x → spSInit K (.ref x :: ([bv, rv] ++ [])) (upd (upd H dx (.own x)) x (.ins (He.ga K "Stream") dx [])) (fun v H2 => v = .non ∧ Z x H2) E0 := by
  intro s2 dx2 hs hdx ne
  obtain ⟨ns, exs, ixs⟩ := made hw hI (He.ga K "Stream") hs hdx ne
  have ru2 := (hr.off hs).ex (Ex.wide (p := s2) exs)
  have hb2 := (hb.off hs).ex (Ex.wide (p := s2) exs)
  generalize upd (upd H dx2 (.own s2)) s2 (.ins (He.ga K "Stream") dx2 []) = H1 at exs ixs ru2 hb2
  refine ⟨_, _, s2, dx2, bv, rv, fr, S, Y, R, hw, ns, ixs, rfl, hb2, ru2, hf, hl, hR, fun fs0 lv H2 f0 f1 f2 f3 r2 e2 i2 => ⟨rfl, ?_⟩⟩
  exact q s2 dx2 fs0 H2 hs ⟨hw, ns, i2, f0, f3, bv, lv, f1, f2, hb2.ex e2, r2⟩ (((Ex.wide (p := s2) exs).trans e2).shut hs)
end
theorem fit_T2 {l : List D} {n : Nat} (hl : l.length ≤ 100000) (h : ∀ e ∈ l, fitL n e) : fitL (n + 1) (.tup l) := .inr ⟨l, .inr rfl, hl, h⟩
theorem fit_S {l : List (List Nat)} {n : Nat} (hl : l.length ≤ 100000) : fitL (n + 1) (.lst (l.map eS)) := fit_1 (by simpa using hl) fun e he => by
  obtain ⟨k, _, rfl⟩ := List.mem_map.mp he
  exact fit_sc rfl _
theorem fit_T {l : List D} {n : Nat} (hl : l.length ≤ 100000) (h : ∀ e ∈ l, fitL n e) : fitL (n + 1) (.tup l) := .inr ⟨l, .inr rfl, hl, h⟩
theorem fit_o {R : List (List Nat)} {m n : Nat} : fitL n (oD (endF R m)) := by
  cases endF R m <;> exact fit_sc rfl _
theorem fit_od {o : Option Nat} {n : Nat} : fitL n (oD o) := by
  cases o <;> exact fit_sc rfl _
theorem fit_ends {R : List (List Nat)} {n : Nat} (h : R.length ≤ 1000) : fitL (n + 1) (.lst (endsD R)) := fit_1 (by unfold endsD; simp; omega) fun e he => by
  unfold endsD at he
  obtain ⟨k, _, rfl⟩ := List.mem_map.mp he
  exact fit_o
theorem fit_all {l : List D} {n : Nat} {d : D} (h1 : fitL n d) (h2 : ∀ e ∈ l, fitL n e) : ∀ e ∈ d :: l, fitL n e := fun e he => (List.mem_cons.mp he).elim (fun h => h ▸ h1) (h2 e)
theorem fit_no {n : Nat} : ∀ e ∈ ([] : List D), fitL n e := fun _ h => by cases h
theorem fit_facts2 {R : List (List Nat)} {n m : Nat} (h : R.length ≤ 1000) : fitL (n + 2) (factsD m R) := by
  have tl := tel_len (n := m) (R := R) (l := 1) (h := R.length) (Nat.le_refl _)
  exact fit_1 (by simp) (fit_all (fit_S (by omega)) (fit_all (fit_sc rfl _) (fit_all (fit_sc rfl _) (fit_all (fit_N (by omega)) (fit_all (fit_ends h) (fit_all (fit_sc rfl _) (fit_all (fit_sc rfl _) (fit_all (fit_sc rfl _) fit_no))))))))


/-! ### the law -/
section
variable {P : Program} {w : World} {K : PySem.W.Frag} {mg : Str → Option Value} {base : Heap}
def spLaw (K : PySem.W.Frag) : Sp := fun vs H Q _ => ∃ (a : Addr) (ns : List Int), vs = [.ref a] ∧ SqL K H a (ns.map V.int) ∧ ns.length ≤ 63 ∧ ∀ H', Q (.bl true) H'
theorem ok_law (B : Bl mg) (CB : ClsF K "Band" fl_Band) (CS : ClsF K "Stream" fl_Stream) (G1 : DfI P w K mg base 5 "Band" ["self", "cells", "seeds", "most"] [.int 800] (spInit K)) (G2 : DfI P w K mg base 3 "Stream" ["self", "band", "rows"] [] (spSInit K)) (G3 : DfP P w K mg base 4 "Stream" "standing" (spStand K)) (G4 : DfM P w K mg base 3 "Stream" "take" ["self", "moment"] [] (spTake K)) (G5 : DfS P w K mg base 3 "Stream" "tell" (spS 1 (spTellB K)))
    (G6 : Df P w K mg base 1 "_law_bag" ["_law_script"] [] (spBag K)) (G7 : Df P w K mg base 1 "_law_draw" ["_law_bag_here", "_law_top"] [] (spDraw K)) (G8 : Df P w K mg base 5 "_law_home" ["_law_bag_here"] [] (spHome K)) (G9 : Df P w K mg base 3 "_law_line" ["_law_bag_here", "_law_sown", "_law_kept"] [] (spLine K)) (G10 : Df P w K mg base 4 "_law_past" ["_law_bag_here", "_law_sown", "_law_kept", "_law_count"] [] (spPast K)) (G11 : Df P w K mg base 6 "_law_right" ["_law_flow", "_law_wide", "_law_past_here", "_law_named"] [] (spRight K))
    (G12 : Df P w K mg base 5 "_law_same" ["_law_found", "_law_due"] [] (spSame K 4)) (G13 : Df P w K mg base 1 "_law_standing" ["_law_wide", "_law_part"] [] (spLStand K))
    {f : Addr} {fd : FuncData} (F : FunD K "law" "law" (defArgs s_law) (defBody s_law) (defScope s_law) [] [] f fd) : FnOk P w K mg base (L2.CX P w) 7 f fd ["_law_script"] (spLaw K) := by
  refine F.ok sc_law (fun vs H Q E h => ?_) (fun cdv A outer s H vs Q E hr h => ⟨_, (w_law B CB CS G1 G2 G3 G4 G5 G6 G7 G8 G9 G10 G11 G12 G13 hr).nox, ?_⟩)
  · obtain ⟨a, ns, rfl, _⟩ := h
    rfl
  · obtain ⟨a, ns, rfl, ha, hns, q⟩ := h
    unfold t_law
    refine st_eq (σ' := [some (.ref a), none, none, none, none, none, none, none, none, none, none]) rfl ?_
    walk_at "sx"
    refine ⟨a, ns, rfl, ha, hns, fun b l H1 hbl bok => ?_⟩
    have hw := wfB (b := b) (l := l)
    have hB := hasB hbl
    have i1 : IB b l H1 := bok
    walk_at "sx"
    refine ⟨_, _, b, hw, i1, hB, rfl, fun v2 fr S X H2 hm rv2 e2 i2 => ?_⟩
    obtain ⟨Y, hY, hYX⟩ := rows_of hm.clo
    have hSr : ∀ s ∈ S, isRow fr s = true := fun s hs => (hm.good.rw s hs).1
    have hXr : ∀ r ∈ X, isRow fr r = true := fun r hr => cl_row rfl hSr ((hm.clo.mem r).mp hr)
    have hf := hm.l2
    have lnS : ∀ s ∈ S, s.length = fr.length := fun s hs => isRow_len (hSr s hs)
    have hXl : ∀ r ∈ X, r.length = fr.length := fun r hr => isRow_len (hXr r hr)
    have hXc : ∀ r ∈ X, ∀ c ∈ r, c < 128 := fun r hr => row_lt (hXr r hr)
    have hsub : ∀ s ∈ S, s ∈ X := fun s hs => (hm.clo.mem s).mpr (cl_self lnS hs)
    have hX0 : 0 < X.length := (List.getElem?_eq_some_iff.mp hm.clo.fst).1
    have hX40 := hm.clo.len
    have hs1 := hm.s1
    have hs2 := hm.s2
    have big : ∀ m : Int, m ≤ 1000 → m < 2 ^ 200 := fun m h => Int.lt_of_le_of_lt h (by decide)
    have hRln : ∀ (R : List (List Nat)), (∀ r ∈ R, r ∈ X) → ∀ r ∈ R, r.length = fr.length := fun R h r hr => hXl r (h r hr)
    have hRcn : ∀ (R : List (List Nat)), (∀ r ∈ R, r ∈ X) → ∀ r ∈ R, ∀ c ∈ r, c < 128 := fun R h r hr => hXc r (h r hr)
    have hRok : ∀ (R : List (List Nat)), (∀ r ∈ R, r ∈ X) → ∀ r ∈ R, isRow fr r = true ∧ r ∈ Y := fun R h r hr => ⟨hXr r (h r hr), (hYX r).mpr (h r hr)⟩
    walk_at "sx"
    refine gs_unl3 rv2 fun c y z rc ry rz => ?_
    dsimp only [List.set_cons_zero, List.set_cons_succ]
    walk_at "sx"
    refine len_R rc (.inl rfl) ?_
    rw [List.length_map]
    walk_at "sx"
    refine ⟨_, _, b, 15, hw, i2, hB, rfl, by decide, by decide, fun n0 H3 hn0 e3 i3 => ?_⟩
    walk_at "sx"
    refine ⟨_, _, b, y, z, S, X, n0, hw, i3, hB, rfl, ry.ex e3, rz.ex e3, by omega, by omega, by omega, by omega, hsub, hXc, by omega, fun v6 R H4 hRl hRX r6 e4 i4 => ?_⟩
    walk_at "sx"
    with_reducible refine sx_make ?_
    walk_at "sx"
    with_reducible refine sx_make ?_
    walk_at "sx"
    have e24 := e3.trans e4
    refine list_R hw i4 (rc.ex e24) (.inl rfl) fun v7 H5 e5 i5 r7 => ?_
    walk_at "sx"
    refine list_R hw i5 (ry.ex (e24.trans e5)) (.inl rfl) fun v8 H6 e6 i6 r8 => ?_
    walk_at "sx"
    refine new_band hw i6 (r7.ex e6) r8 hm.ok hm.nd hm.l1 hm.l2 (by omega) hm.good hY fun x H7 hx hb e7 i7 => ?_
    walk_at "sx"
    have e47 := e5.trans (e6.trans e7)
    refine list_R hw i7 (r6.ex e47) (.inl rfl) fun v9 H8 e8 i8 r9 => ?_
    walk_at "sx"
    refine new_stream hw i8 (hb.ex e8) r9 (by omega) (by omega) (hRok R hRX) fun s dx fs0 H9 hs sm e9 => ?_
    have ns : ¬ MB b l s := sm.2.1
    have off : ∀ {v : V} {d : D}, Rep K (MB b l) H8 v d → Rep K (Mq (MB b l) s) H9 v d := fun {v d} h => (h.off hs).ex (Ex.wide (p := s) e9)
    have e48 := e47.trans e8
    have e28 := e24.trans e48
    have rc9 := off (rc.ex e28)
    have ry9 := off (ry.ex e28)
    have rz9 := off (rz.ex e28)
    have rp9 := off (r6.ex e48)
    have hwS : ∀ fs, Wf (Mq (MB b l) s) (Iq (IB b l) s (.ins (He.ga K "Stream") dx fs)) := fun fs => hw.add s _
    have hBS : ∀ fs, HasBag (Mq (MB b l) s) (Iq (IB b l) s (.ins (He.ga K "Stream") dx fs)) b := fun fs => hB.add ns
    clear off r6 r7 r8 r9 rv2 hb rc ry rz e28 e48 e47 e24 e3 e4 e5 e6 e7 e8
    have hX0b : List.replicate fr.length 46 ∈ X := List.mem_of_getElem? hm.clo.fst
    have hXX : ∀ p ∈ X, ∀ q ∈ X, lay p q ∈ X := fun p hp q hq => (hm.clo.mem _).mpr (cl_lay lnS ((hm.clo.mem p).mp hp) ((hm.clo.mem q).mp hq))
    clear e9 hm hY lnS
    with_reducible refine gs_name ?_
    dsimp only [List.set_cons_zero, List.set_cons_succ]
    have hn14 : R.length ≤ 14 := by omega
    clear hRl
    have rt : ∀ {H' : Hp} {v6 : V} {R : List (List Nat)} {fs : List (Str × V)} {bn : Bool} {Z : VK}, StrM K (MB b l) (IB b l) H' s dx fs fr S Y R → Rep K (Mq (MB b l) s) H' v6 (.lst (R.map eS)) → R.length ≤ 900 → (∀ r ∈ R, r ∈ X) → (∀ H'', Ex (Mq (MB b l) s) H' H'' → Iq (IB b l) s (.ins (He.ga K "Stream") dx fs) H'' → Z (.bl true) H'') → spRight K [.ref s, .int (fr.length : Nat), v6, .bl bn] H' Z E0 := fun {H' v6 R fs bn Z} sm rp hl hX qz =>
      ⟨_, _, .ref s, v6, bn, fr, S, Y, R, X, hwS fs, sm.2.2.1, rfl, sm.v, rp, by omega, hl, hRln R hX, hX40, hX0b, hXX, hX, hXc, qz⟩
    walk_at "sx"
    refine rt sm rp9 (by omega) hRX fun H10 e10 i10 => ?_
    have sm10 := sm.ex e10 i10
    have rp10 := rp9.ex e10
    clear sm rp9
    walk_at "sx"
    refine ⟨_, rfl, by decide, by decide, ?_⟩
    refine for_rng (fun t σ H' => ∃ (v6 : V) (u8 u9 u10 : Option V), σ = [some (.ref a), some (.ref b), some c, some y, some z, some (.int (fr.length : Nat)), some v6, some (.ref s), u8, u9, u10] ∧ ∃ (fs : List (Str × V)) (R : List (List Nat)), StrM K (MB b l) (IB b l) H' s dx fs fr S Y R ∧ Rep K (Mq (MB b l) s) H' v6 (.lst (R.map eS)) ∧ t ≤ R.length ∧ R.length ≤ 14 + t ∧ (∀ r ∈ R, r ∈ X) ∧ Ex (Mq (MB b l) s) H9 H')
      ⟨v6, _, _, _, rfl, fs0, R, sm10, rp10, Nat.zero_le _, by omega, hRX, e10⟩ ?_ ?_
    · clear sm10 rp10 hRX hn14
      rintro t σ H0 ht ⟨v6, u8, u9, u10, rfl, fs, R, sm, rp, hRk, hRl, hRX, e0⟩
      have ht2 : t < 2 := ht
      have i0 := sm.2.2.1
      have hWf := hwS fs
      have hBg := hBS fs
      dsimp only [List.set_cons_zero, List.set_cons_succ]
      rw [Int.zero_add]
      walk_at "sx"
      refine ⟨_, _, b, y, z, S, X, hWf, i0, hBg, rfl, ry9.ex e0, rz9.ex e0, by omega, by omega, by omega, by omega, hsub, fun r H1 hrX e1 i1 => ?_⟩
      walk_at "sx"
      refine lst_end (K := K) hWf i1 (.cons (.str _) .nil) (szOk (by simp)) fun v2 H2 e2 i2 r2 => ?_
      refine add_LL hWf i2 (rp.ex (e1.trans e2)) r2 (szOk (by simp; omega)) fun v3 H3 e3 i3 r3 => ?_
      have r3 : Rep K (Mq (MB b l) s) H3 v3 (.lst ((R ++ [r]).map eS)) := by rw [List.map_append]; exact r3
      have e03 := e1.trans (e2.trans e3)
      have sm3 := sm.ex e03 i3
      walk_at "sx"
      with_reducible refine sx_methR ?_
      walk_at "sx"
      refine sm3.v.meth i3 (by decide) ?_
      walk_at "sx"
      refine tell_ok sm3 (rs := [r]) (.cons (.str _) .nil) (by omega) (by simp; omega) (fun q hq => by
        have : q = r := by simpa using hq
        subst this
        exact ⟨hXr q hrX, (hYX q).mpr hrX⟩) fun fs2 H4 sm4 e4 => ?_
      have hRX2 : ∀ q ∈ R ++ [r], q ∈ X := fun q hq => by
        rcases List.mem_append.mp hq with hq | hq
        · exact hRX q hq
        · rw [List.mem_singleton.mp hq]; exact hrX
      have hl2 : (R ++ [r]).length = R.length + 1 := by simp
      walk_at "sx"
      refine rt sm4 (r3.ex e4) (by omega) hRX2 fun H5 e5 i5 => ?_
      walk_at "sx"
      exact ⟨v3, _, _, _, rfl, fs2, R ++ [r], sm4.ex e5 i5, r3.ex (e4.trans e5), by omega, by omega, hRX2, e0.trans (e03.trans (e4.trans e5))⟩
    · clear sm10 rp10 hRX hn14
      rintro σ H0 ⟨v6, u8, u9, u10, rfl, fs, R, sm, rp, hRk, hRl, hRX, e0⟩
      have hRk2 : 2 ≤ R.length := hRk
      have hRl16 : R.length ≤ 14 + 2 := hRl
      have i0 := sm.2.2.1
      have hWf := hwS fs
      have hBg := hBS fs
      walk_at "sx"
      refine len_R rp (.inl rfl) ?_
      rw [List.length_map]
      walk_at "sx"
      refine ⟨_, _, b, _, hWf, i0, hBg, rfl, by omega, big _ (by omega), fun n1 H1 hn1 e1 i1 => ?_⟩
      have hn1' : n1 < R.length := by omega
      walk_at "sx"
      rw [show (1 : Int) + ((n1 : Nat) : Int) = ((n1 + 1 : Nat) : Int) by omega]
      with_reducible refine sx_meth ?_
      walk_at "sx"
      have sm1 := sm.ex e1 i1
      refine sm1.v.meth i1 (by decide) ?_
      walk_at "sx"
      refine ⟨_, _, s, dx, fs, fr, S, Y, R, n1 + 1, sm1, rfl, by omega, by omega, by omega, fun fs2 H2 sm2 e2 => ?_⟩
      have i2 := sm2.2.2.1
      have hW2 := hwS fs2
      have rp2 := rp.ex (e1.trans e2)
      walk_at "sx"
      rw [show ((n1 + 1 : Nat) : Int) - 1 = ((n1 : Nat) : Int) by omega]
      refine sl_Lto hW2 i2 rp2 fun v3 H3 e3 i3 r3 => ?_
      walk_at "sx"
      refine sl_Lfrom hW2 i3 (rp2.ex e3) fun v4 H4 e4 i4 r4 => ?_
      refine add_LL hW2 i4 (r3.ex e4) r4 (szOk (by simp; omega)) fun v5 H5 e5 i5 r5 => ?_
      have hRd : R.take (n1 + 1 - 1) ++ R.drop (n1 + 1) = R.take n1 ++ R.drop (n1 + 1) := rfl
      have r5 : Rep K (Mq (MB b l) s) H5 v5 (.lst ((R.take n1 ++ R.drop (n1 + 1)).map eS)) := by
        rw [List.map_append, List.map_take, List.map_drop]; exact r5
      rw [hRd] at sm2
      have sm5 := sm2.ex (e3.trans (e4.trans e5)) i5
      have hRX2 : ∀ q ∈ R.take n1 ++ R.drop (n1 + 1), q ∈ X := fun q hq => by
        rcases List.mem_append.mp hq with hq | hq
        · exact hRX q (List.mem_of_mem_take hq)
        · exact hRX q (List.mem_of_mem_drop hq)
      have hl2 : (R.take n1 ++ R.drop (n1 + 1)).length ≤ R.length := by simp; omega
      generalize R.take n1 ++ R.drop (n1 + 1) = R2 at sm5 r5 hRX2 hl2
      walk_at "sx"
      refine rt sm5 r5 (by omega) hRX2 fun H6 e6 i6 => ?_
      have sm6 := sm5.ex e6 i6
      walk_at "sx"
      with_reducible refine sx_prop ?_
      walk_at "sx"
      refine sm6.v.prop (Z := fun u => spStand K [u] H6 _ E0) i6 ?_
      refine ⟨_, _, .ref s, fr, S, Y, R2, hW2, i6, rfl, sm6.v, by omega, hRln R2 hRX2, fun H7 e7 i7 => ?_⟩
      walk_at "sx"
      refine ⟨_, _, v5, fr.length, R2, hW2, i7, rfl, r5.ex (e6.trans e7), by omega, by omega, hRln R2 hRX2, hRcn R2 hRX2, fun H8 e8 i8 => ?_⟩
      walk_at "sx"
      exact ⟨_, _, _, _, _, hW2, i8, rfl, .str _, .str _, fit_sc rfl _, fun H9' e9 i9 => q H9'⟩
end


end H31
namespace Hd31
open PySem PySem.Spec PyProof.Rows Nt G31
open L2 hiding rLen
theorem all_ok {P : Program} {w : World} {K : PySem.W.Frag} {h base : Heap} {mg : Str → Option Value} {f : Addr} {fd : FuncData} (X : K.In h) (G : h.Ns mainGlobals mg) (c : SaysX fa fn K) (F : FunD K "law" "law" (defArgs s_law) (defBody s_law) (defScope s_law) [] [] f fd) :
    FnOk P w K mg base (L2.CX P w) 7 f fd ["_law_script"] (H31.spLaw K) := by
  have B := bl X G c
  have h_blank_spBlank := H31.ok_blank (P := P) (w := w) (base := base) B (at_blank X G c)
  have h_is_name_spIsName := H31.ok_is_name (P := P) (w := w) (base := base) B (at_is_name X G c)
  have h_is_number_spIsNum := H31.ok_is_number (P := P) (w := w) (base := base) B (at_is_number X G c)
  have h_check_cells_spCheckC := H31.ok_check_cells (P := P) (w := w) (base := base) B h_is_name_spIsName h_is_number_spIsNum (at_check_cells X G c)
  have h_is_row_spIsRowD := H31.ok_is_row (P := P) (w := w) (base := base) B (at_is_row X G c)
  have h_check_seeds_spCheckS := H31.ok_check_seeds (P := P) (w := w) (base := base) B h_blank_spBlank h_is_row_spIsRowD (at_check_seeds X G c)
  have h_over_spLay := H31.ok_over (P := P) (w := w) (base := base) B (at_over X G c)
  have h_grown_rows_spGrown := H31.ok_grown_rows (P := P) (w := w) (base := base) B h_over_spLay (at_grown_rows X G c)
  have h_lot_of_spLot := H31.ok_lot_of (P := P) (w := w) (base := base) B (at_lot_of X G c)
  have h_ordered_lots_spOrd := H31.ok_ordered_lots (P := P) (w := w) (base := base) B (at_lot_size X G c) (at_ordered_lots X G c)
  have h_Band___init___spInit := H31.ok_init (P := P) (w := w) (base := base) B (cls_Band c) h_blank_spBlank h_check_cells_spCheckC h_check_seeds_spCheckS h_grown_rows_spGrown h_is_number_spIsNum h_lot_of_spLot h_ordered_lots_spOrd (at_Band___init__ X G c)
  have h_Band_check_row_spBCheck : Bok P w K mg base 2 _ _ _ _ := H31.ok_Band_check_row (P := P) (w := w) (base := base) B (cls_Band c) h_is_row_spIsRowD
  have h_Stream___init___spSInit : Bok P w K mg base 3 _ _ _ _ := H31.ok_Stream_init (P := P) (w := w) (base := base) B (cls_Band c) (cls_Stream c) (h_Band_check_row_spBCheck.dm (at_Band_check_row X G c))
  have h_Band_blank_row_spBBlank : Bok P w K mg base 2 _ _ _ _ := H31.ok_Band_blank_row (P := P) (w := w) (base := base) B (cls_Band c) h_blank_spBlank
  have h_Stream_window_row_spWin : Bok P w K mg base 3 _ _ _ _ := H31.ok_Stream_window_row (P := P) (w := w) (base := base) B (cls_Band c) (cls_Stream c) (h_Band_blank_row_spBBlank.dm (at_Band_blank_row X G c)) h_over_spLay
  have h_Stream_standing_spStand : Bok P w K mg base 4 _ _ _ _ := H31.ok_Stream_standing (P := P) (w := w) (base := base) B (cls_Stream c) (h_Stream_window_row_spWin.dm (at_Stream_window_row X G c))
  have h_is_number_spIsNumB : Bok P w K mg base 1 _ _ _ _ := H31.ok_is_numberB (P := P) (w := w) (base := base) B
  have h_Stream_check_moment_spSCheck : Bok P w K mg base 2 _ _ _ _ := H31.ok_Stream_check_moment (P := P) (w := w) (base := base) B (cls_Stream c) (h_is_number_spIsNumB.df (at_is_number X G c))
  have h_Stream_take_spTake : Bok P w K mg base 3 _ _ _ _ := H31.ok_Stream_take (P := P) (w := w) (base := base) B (cls_Stream c) (h_Stream_check_moment_spSCheck.dm (at_Stream_check_moment X G c))
  have h_Stream_tell_spTellB := H31.ok_Stream_tell (P := P) (w := w) (base := base) B (cls_Band c) (cls_Stream c) (at_Stream_tell X G c) (h_Band_check_row_spBCheck.dm (at_Band_check_row X G c))
  have h__law_bag_spBag : Bok P w K mg base 1 _ _ _ _ := H31.ok_bag (P := P) (w := w) (base := base) B
  have h__law_draw_spDraw : Bok P w K mg base 1 _ _ _ _ := H31.ok_draw (P := P) (w := w) (base := base) B
  have h__law_over_spOver : Bok P w K mg base 1 _ _ _ _ := H31.ok_over2 (P := P) (w := w) (base := base) B
  have h__law_closed_spClosed : Bok P w K mg base 2 _ _ _ _ := H31.ok_closed (P := P) (w := w) (base := base) B (h__law_over_spOver.df (at__law_over X G c))
  have h__law_of_spOf := H31.ok_of (P := P) (w := w) (base := base) B (h__law_draw_spDraw.df (at__law_draw X G c)) (at__law_of X G c)
  have h__law_word_spWord : Bok P w K mg base 3 _ _ _ _ := H31.ok_word (P := P) (w := w) (base := base) B (h__law_draw_spDraw.df (at__law_draw X G c)) h__law_of_spOf
  have h__law_frame_spFrame : Bok P w K mg base 4 _ _ _ _ := H31.ok_frame (P := P) (w := w) (base := base) B h__law_of_spOf (h__law_word_spWord.df (at__law_word X G c))
  have h__law_mended_spMend : Bok P w K mg base 1 _ _ _ _ := H31.ok_mended (P := P) (w := w) (base := base) B
  have h__law_seed_spSeed : Bok P w K mg base 2 _ _ _ _ := H31.ok_seed (P := P) (w := w) (base := base) B (h__law_draw_spDraw.df (at__law_draw X G c))
  have h__law_home_spHome : Bok P w K mg base 5 _ _ _ _ := H31.ok_home (P := P) (w := w) (base := base) B (h__law_closed_spClosed.df (at__law_closed X G c)) (h__law_draw_spDraw.df (at__law_draw X G c)) (h__law_frame_spFrame.df (at__law_frame X G c)) (h__law_mended_spMend.df (at__law_mended X G c)) h__law_of_spOf (h__law_seed_spSeed.df (at__law_seed X G c))
  have h__law_line_spLine : Bok P w K mg base 3 _ _ _ _ := H31.ok_line (P := P) (w := w) (base := base) B (h__law_draw_spDraw.df (at__law_draw X G c)) h__law_of_spOf
  have h__law_past_spPast : Bok P w K mg base 4 _ _ _ _ := H31.ok_past (P := P) (w := w) (base := base) B (h__law_draw_spDraw.df (at__law_draw X G c)) (h__law_line_spLine.df (at__law_line X G c))
  have h_Stream_rows_spSRows : Bok P w K mg base 1 _ _ _ _ := H31.ok_Stream_rows (P := P) (w := w) (base := base) B (cls_Stream c)
  have h__law_counted_spCounted : Bok P w K mg base 1 _ _ _ _ := H31.ok_law_counted (P := P) (w := w) (base := base) B
  have h__law_same_spSame := H31.ok_same (P := P) (w := w) (base := base) B (at__law_same X G c) 4
  have h_union_spUni := H31.ok_union (P := P) (w := w) (base := base) B (at_union X G c)
  have h_within_spIn := H31.ok_within (P := P) (w := w) (base := base) B (at_within X G c)
  have h_newest_tellers_spTell : Bok P w K mg base 2 _ _ _ _ := H31.ok_newest_tellers (P := P) (w := w) (base := base) B h_lot_of_spLot h_union_spUni h_within_spIn
  have h_window_standings_spWinS : Bok P w K mg base 2 _ _ _ _ := H31.ok_window_standings (P := P) (w := w) (base := base) B h_over_spLay
  have h_standing_counts_spCounts : Bok P w K mg base 3 _ _ _ _ := H31.ok_standing_counts (P := P) (w := w) (base := base) B (cls_Band c) (cls_Stream c) (h_Band_blank_row_spBBlank.dm (at_Band_blank_row X G c)) (h_Stream_rows_spSRows.dm (at_Stream_rows X G c)) h_lot_of_spLot (h_newest_tellers_spTell.df (at_newest_tellers X G c)) (h_window_standings_spWinS.df (at_window_standings X G c))
  have h__law_right_spRight : Bok P w K mg base 6 _ _ _ _ := H31.ok_law_right (P := P) (w := w) (base := base) B (cls_Stream c) (h_Stream_rows_spSRows.dm (at_Stream_rows X G c)) (h__law_counted_spCounted.df (at__law_counted X G c)) h__law_same_spSame (h_standing_counts_spCounts.df (at_standing_counts X G c)) (h_standing_counts_spCounts.dn (at_standing_counts__stream X G c))
  have h__law_standing_spLStand : Bok P w K mg base 1 _ _ _ _ := H31.ok_law_standing (P := P) (w := w) (base := base) B
  exact H31.ok_law (P := P) (w := w) (base := base) B (cls_Band c) (cls_Stream c) h_Band___init___spInit (h_Stream___init___spSInit.di (at_Stream___init__ X G c)) (h_Stream_standing_spStand.dp (at_Stream_standing X G c)) (h_Stream_take_spTake.dm (at_Stream_take X G c)) h_Stream_tell_spTellB (h__law_bag_spBag.df (at__law_bag X G c)) (h__law_draw_spDraw.df (at__law_draw X G c)) (h__law_home_spHome.df (at__law_home X G c)) (h__law_line_spLine.df (at__law_line X G c)) (h__law_past_spPast.df (at__law_past X G c)) (h__law_right_spRight.df (at__law_right X G c)) h__law_same_spSame (h__law_standing_spLStand.df (at__law_standing X G c)) F
theorem facts {P : Program} {w : World} {K : PySem.W.Frag} {h : Heap} {mg : Str → Option Value} {f : Addr} (X : K.In h) (G : h.Ns mainGlobals mg) (hfa : mg ("law" : Str) = some (.ref f)) (c : SaysX fa fn K) :
    ∃ fd : FuncData, (∀ (s : Shared) (v : Value), BindsTo s fd ⟨[v], []⟩ [("_law_script", v)]) ∧ ∀ base : Heap, K.In base → base.Ns mainGlobals mg → FnOk P w K mg base (L2.CX P w) 7 f fd ["_law_script"] (H31.spLaw K) := by
  obtain ⟨fd, F⟩ := c.def_ 43 (d := d_law) rfl
  have e := hfa.symm.trans (He.glo_ok X G (glo_law c))
  cases e
  have b := FunD.bindsA (ps := ["_law_script"]) F fun _ _ _ _ _ _ us hl => match us, hl with | [_], _ => rfl
  exact ⟨fd, fun s v => b s [v] rfl, fun base _ _ => all_ok X G c F⟩
end Hd31
open PySem PySem.W PySem.Calls PyProof.Rows
theorem PySem.Challenge.cw_newesttells_k31_standing_counts_of_windo_holds : PySem.Challenge.rw_newesttells_k31_standing_counts_of_windo.Holds := by
  w_on; o_law
  refine HandSHeadRun.head_any (r := OpenLaw.row PySem.Challenge.rw_newesttells_k31_standing_counts_of_windo) (q := view (OpenLaw.row PySem.Challenge.rw_newesttells_k31_standing_counts_of_windo).prog [74]) (H := Hd31.hk) (ob := Hd31.ob) (M := 8000) (loose := Hd31.loose) (d := HandSHeadRun.topDef (OpenLaw.row PySem.Challenge.rw_newesttells_k31_standing_counts_of_windo).prog 74) (kwd := []) Hd31.ob_eq
    (by kernel_rfl) (fun s => by kernel_rfl) Hd31.run (by kernel_rfl) (by kernel_rfl) (by kernel_rfl) (by rfl) (by first | assumption | decide +kernel) (by decide +kernel) ⟨rfl, rfl, rfl, rfl, rfl, by decide +kernel⟩ ?hw ?hc
  case hw => w_witness2
  case hc =>
    refine Nt.law_walk (l := PySem.Challenge.rw_newesttells_k31_standing_counts_of_windo) (n := 63) (k := 7) (x := "_law_script") rfl (by decide) (by kernel_rfl) ⟨rfl, by decide, by decide⟩ ?F
    intro w mg fa h Y G hmg0
    obtain ⟨K, KX, c⟩ := Y
    have hmg : mg ("law" : PySem.Str) = some (.ref fa) := by
      have e : (HandSHeadRun.topDef (OpenLaw.row PySem.Challenge.rw_newesttells_k31_standing_counts_of_windo).prog 74).name = ("law" : PySem.Str) := by kernel_rfl
      rw [← e]
      exact hmg0
    obtain ⟨fd, hb, hF⟩ := Hd31.facts (P := (PySem.Challenge.rw_newesttells_k31_standing_counts_of_windo).prog) (w := w) KX G hmg c
    exact ⟨K, fd, H31.spLaw K, KX, hb, fun H a ns hl hS => ⟨a, ns, rfl, hS, hl, fun _ => rfl⟩, hF⟩

