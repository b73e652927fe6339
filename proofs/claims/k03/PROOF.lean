import PyProof.Rows.All
import Wide.All
import OpenK.AllK
import Wide.FinOn
import KE.GoesEnum
import HandS.ForMost
import HandS.Walk
import HandS.Wide
import HandS.TupAny
import HandS.Defaults
import HandS.IsInst
import HandS.Words
import HandS.WordsList
import HandS.HeadEnd
import HandS.HeadHook1
import HandS.HeadHook2
import HandS.Exc
import HandS.TryOnly
import HandS.WordsExc
import HandS.Steps
import HandS.Style
import HandS.Flow
import HandS.Strs
import HandS.Deep
import HandS.Conv
import HandS.Dict
import HandS.Text
import HandS.Ends
import HandS.Set
import HandS.SetFor
import PyProof.Rows.SortShellAny
import PyProof.Rows.SetFrom
import KE.SortKeyHeap
import HandS.SortKw
import PySem.Challenge.RW_newesttells_k03_whole_rows_laid_over
import KE.KStateDown
import Lean
import HandS.Head0
import HandS.Head1
import HandS.Head2
set_option Elab.async false
set_option linter.all false
set_option maxRecDepth 100000
set_option maxHeartbeats 8000000
namespace Nt
open PySem PySem.Spec PyProof.Rows L2
/-! ### what may be walked beside another one -/
inductive Src where
  | lst (a : Addr)
  | tup (a : Addr)
  | txt (z : Str)
def Src.v : Src → V
  | .lst a => .ref a
  | .tup a => .ref a
  | .txt z => .str z
def signs (z : Str) : List V := z.cps.toList.map fun c => .str ⟨#[c]⟩
def Src.has (K : PySem.W.Frag) (H : Hp) : Src → List V → Prop
  | .lst a, xs => SqL K H a xs
  | .tup a, xs => SqT K H a xs
  | .txt z, xs => xs = signs z
def Src.far (c : Addr) : Src → Prop
  | .lst a => a ≠ c
  | .tup a => a ≠ c
  | .txt _ => True
def Src.at_ (it : Addr) (i : Nat) (h : Heap) : Src → Prop
  | .lst a => h.IsListIter it a i
  | .tup a => h.IsTupleIter it a i
  | .txt z => ∃ t, h.IsStrIter it (strIterType z) z t i
def Src.fp (it : Addr) : Src → List Addr
  | .lst a => [it, a]
  | .tup a => [it, a]
  | .txt _ => [it]
theorem Src.mem_fp {it : Addr} : ∀ s : Src, it ∈ s.fp it
  | .lst _ => by simp [Src.fp]
  | .tup _ => by simp [Src.fp]
  | .txt _ => by simp [Src.fp]
theorem Src.not_fp {it c : Addr} (hi : c ≠ it) : ∀ s : Src, s.far c → c ∉ s.fp it
  | .lst _, h => by simp [Src.fp]; exact ⟨hi, fun e => h e.symm⟩
  | .tup _, h => by simp [Src.fp]; exact ⟨hi, fun e => h e.symm⟩
  | .txt _, _ => by simp [Src.fp]; exact hi
theorem Src.at_obj {it : Addr} {i : Nat} {h : Heap} : ∀ s : Src, s.at_ it i h → ∃ o, h.get? it = some o ∧ ∀ v, o.data ≠ .cell v
  | .lst _, ⟨o, e, _, d⟩ => ⟨o, e, fun v q => by rw [d] at q; cases q⟩
  | .tup _, ⟨o, e, _, d⟩ => ⟨o, e, fun v q => by rw [d] at q; cases q⟩
  | .txt _, ⟨_, o, e, _, d⟩ => ⟨o, e, fun v q => by rw [d] at q; cases q⟩
theorem Src.at_keep {it : Addr} {i : Nat} {h h' : Heap} (k : ∀ o, h.get? it = some o → h'.get? it = some o) : ∀ s : Src, s.at_ it i h → s.at_ it i h'
  | .lst _, x => Heap.IsListIter.at x k
  | .tup _, x => Heap.IsTupleIter.at x k
  | .txt _, ⟨t, o, e, r⟩ => ⟨t, o, k o e, r⟩
variable {X : Cx} {pins : List (Addr × Obj)} {σ : L2.St} {H : Hp} {s : Shared}
/-- what such a thing draws at a turn -/
structure Drawn (X : Cx) (s : Shared) (S : Src) (it : Addr) (i : Nat) (xs : List V) (P : Nat → Value → Prop) (T : Nat → Heap → Prop) : Prop where
  dr : ∀ A : Around, A.handled = none → Draws X.prog X.w A it (S.fp it) xs.length P T
  here : T i s.heap
  rel : ∀ j u, P j u → ∃ x, xs[j]? = some x ∧ RelV x u
  to : ∀ j h, T j h → S.at_ it j h
theorem drawn (I : Inv X pins σ H s) {S : Src} {it : Addr} {i : Nat} {xs : List V} (hs : S.has X.K H xs) (hf : S.far it) (ha : S.at_ it i s.heap) :
    ∃ P T, Drawn X s S it i xs P T := by
  cases S with
  | lst a =>
    obtain ⟨its, rv, p, hz⟩ := I.list hs
    have el : its.toArray.size = xs.length := by rw [List.size_toArray]; exact rv.length.symm
    refine ⟨fun i v => its.toArray[i]? = some v, fun i h => h.IsListIter it a i ∧ h.IsList a its.toArray, ⟨fun A hA => ?_, ⟨ha, p.isList⟩, fun j u e => ?_, fun j h z => z.1⟩⟩
    · rw [← el]
      exact Draws.list hA it a hf its.toArray
    · have e2 : its[j]? = some u := by simpa using e
      have hj : j < xs.length := by
        have := (List.getElem?_eq_some_iff.mp e2).1
        have := rv.length
        omega
      obtain ⟨u', e3, r⟩ := rv.get (i := j) (x := xs[j]) (by simp [hj])
      rw [e2] at e3
      cases e3
      exact ⟨xs[j], by simp [hj], r⟩
  | tup a =>
    obtain ⟨its, rv, p, hz⟩ := I.tuple hs
    have el : its.toArray.size = xs.length := by rw [List.size_toArray]; exact rv.length.symm
    refine ⟨fun i v => its.toArray[i]? = some v, fun i h => h.IsTupleIter it a i ∧ h.IsTuple a its.toArray, ⟨fun A hA => ?_, ⟨ha, p⟩, fun j u e => ?_, fun j h z => z.1⟩⟩
    · rw [← el]
      exact Draws.tuple hA it a hf its.toArray
    · have e2 : its[j]? = some u := by simpa using e
      have hj : j < xs.length := by
        have := (List.getElem?_eq_some_iff.mp e2).1
        have := rv.length
        omega
      obtain ⟨u', e3, r⟩ := rv.get (i := j) (x := xs[j]) (by simp [hj])
      rw [e2] at e3
      cases e3
      exact ⟨xs[j], by simp [hj], r⟩
  | txt z =>
    obtain ⟨t, ha⟩ := ha
    have hs : xs = signs z := hs
    subst hs
    have el : z.cps.size = (signs z).length := by simp [signs]
    refine ⟨fun i v => ∃ c u, z.cps[i]? = some c ∧ v = .str ⟨#[c]⟩ u, fun i h => h.IsStrIter it (strIterType z) z t i, ⟨fun A hA => ?_, ha, fun j u e => ?_, fun j h y => ⟨t, y⟩⟩⟩
    · rw [← el]
      exact Draws.text hA it z t
    · obtain ⟨c, q, e1, e2⟩ := e
      subst e2
      refine ⟨.str ⟨#[c]⟩, ?_, ⟨_, rfl⟩⟩
      simp [signs, e1]

/-! ### zip of two -/
def ItZ (K : PySem.W.Frag) (S1 S2 : Src) : It where
  go := fun i H => ∃ xs ys : List V, S1.has K H xs ∧ S2.has K H ys ∧ i < xs.length ∧ i < ys.length
  yld := fun i H v H' => ∃ T x y, v = .ref T ∧ H T = none ∧ H' = upd H T (.tup [x, y]) ∧ (∀ xs, S1.has K H xs → xs[i]? = some x) ∧ ∀ ys, S2.has K H ys → ys[i]? = some y
  stop := fun i H => ∃ xs ys : List V, S1.has K H xs ∧ S2.has K H ys ∧ i = min xs.length ys.length
theorem has_inj (I : Inv X pins σ H s) {S : Src} {xs ys : List V} (h : S.has X.K H xs) (h' : S.has X.K H ys) : xs = ys := by
  cases S with
  | lst a => exact I.list_inj h h'
  | tup a => exact I.tuple_inj h h'
  | txt z => exact Eq.trans h (Eq.symm h')
structure ZS (z TI TO i1 i2 : Addr) (S1 S2 : Src) : Prop where
  n1 : TI ≠ z
  n2 : TO ≠ z
  n3 : TI ≠ TO
  n4 : TI ≠ i1
  n5 : TI ≠ i2
  n6 : z ≠ i1
  n7 : z ≠ i2
  n8 : TO ≠ i1
  n9 : TO ≠ i2
  n0 : i1 ≠ i2
  a1 : S1.far z
  a2 : S1.far TO
  a3 : S1.far i1
  a4 : S1.far i2
  b1 : S2.far z
  b2 : S2.far TO
  b3 : S2.far i1
  b4 : S2.far i2
theorem ZS.sep {z TI TO i1 i2 : Addr} {S1 S2 : Src} (D : ZS z TI TO i1 i2 S1 S2) : ZipSep2 z TI TO i1 i2 (S1.fp i1) (S2.fp i2) where
  TIz := D.n1
  TOz := D.n2
  TITO := D.n3
  TIi1 := D.n4
  mem1 := S1.mem_fp
  zf1 := S1.not_fp D.n6 D.a1
  Tf1 := S1.not_fp D.n8 D.a2
  TIi2 := D.n5
  mem2 := S2.mem_fp
  zf2 := S2.not_fp D.n7 D.b1
  Tf2 := S2.not_fp D.n9 D.b2
  sep1_2 := S2.not_fp D.n0 D.b3
  sep2_1 := S1.not_fp (fun e => D.n0 e.symm) D.a4
theorem five {α : Type} {c a1 a2 a3 a4 a5 : α} : c ∈ [a1, a2, a3, a4, a5] ↔ c = a1 ∨ c = a2 ∨ c = a3 ∨ c = a4 ∨ c = a5 := by simp
def ZSt (S1 S2 : Src) (z TI TO i1 i2 : Addr) (i : Nat) (h : Heap) : Prop :=
  IsZip h z TI TO .none ∧ IsTupOf2 h TI (.ref i1) (.ref i2) ∧ (∃ x y, IsTupOf2 h TO x y) ∧ S1.at_ i1 i h ∧ S2.at_ i2 i h
theorem turn_zipS {P : Program} {w : World} {K : PySem.W.Frag} {elts : List Expr} {kk : Nat} {tpos : Pos} {S1 S2 : Src} {z TI TO i1 i2 : Addr} (D : ZS z TI TO i1 i2 S1 S2) :
    Turn P w K (.Tuple elts kk tpos) (ItZ K S1 S2) [z, TI, TO, i1, i2] z (ZSt S1 S2 z TI TO i1 i2) where
  mem := by simp
  obj := fun i h st c hc => by
    obtain ⟨q1, q2, ⟨x, y, q3⟩, q4, q5⟩ := st
    rcases five.mp hc with rfl | rfl | rfl | rfl | rfl
    · exact ⟨_, q1, nofun⟩
    · exact ⟨_, q2, nofun⟩
    · exact ⟨_, q3, nofun⟩
    · exact S1.at_obj q4
    · exact S2.at_obj q5
  keep := fun i h h' st k => by
    obtain ⟨q1, q2, ⟨x, y, q3⟩, q4, q5⟩ := st
    exact ⟨k z (by simp) _ q1, k TI (by simp) _ q2, ⟨x, y, k TO (by simp) _ q3⟩, S1.at_keep (k i1 (by simp)) q4, S2.at_keep (k i2 (by simp)) q5⟩
  item := by
    intro X hP hw hK hc i pins s σ H E I hf st hg
    subst hP hw hK
    obtain ⟨q1, q2, ⟨x0, y0, q3⟩, q4, q5⟩ := st
    obtain ⟨xs, ys, g1, g2, l1, l2⟩ := hg
    obtain ⟨P1, T1, D1⟩ := drawn I g1 D.a3 q4
    obtain ⟨P2, T2, D2⟩ := drawn I g2 D.b4 q5
    have hh : X.A.in1.handled = none := I.ok.hd hc
    have hzl : z < s.heap.objs.size := Heap.lt_size q1
    refine wpAny_pyNext_zipD2_item D.sep (D1.dr _ hh) (D2.dr _ hh) q1 q2 q3 D1.here D2.here l1 l2 fun u1 u2 h' tk p1 p2 z' TO' t1 t2 hT hsz hk => ?_
    obtain ⟨x, hx, r1⟩ := D1.rel _ _ p1
    obtain ⟨y, hy, r2⟩ := D2.rel _ _ p2
    refine ⟨_, rfl, wpAny_letOwnedTupleGo_zip (s := { s with heap := h', toks := tk }) z' fun h'' z'' sb => ?_⟩
    have hT2 : IsTupOf2 h'' s.heap.objs.size u1 u2 := (sb.2 _ (Nat.ne_of_gt hzl)).trans hT
    have new : ObjOk X.prog X.w (upd H s.heap.objs.size (.tup [x, y])) h'' s.heap.objs.size (.tup [x, y]) := by
      refine ⟨(by show 2 ≤ sizeLine; decide), [u1, u2], .cons r1 (.cons r2 .nil), ?_⟩
      exact ⟨_, hT2, rfl, _, rfl⟩
    have lt : ∀ c ∈ [z, TI, TO, i1, i2], c < s.heap.objs.size := fun c hcm => by
      rcases five.mp hcm with rfl | rfl | rfl | rfl | rfl
      · exact hzl
      · exact Heap.lt_size q2
      · exact Heap.lt_size q3
      · obtain ⟨_, e, _⟩ := S1.at_obj q4; exact Heap.lt_size e
      · obtain ⟨_, e, _⟩ := S2.at_obj q5; exact Heap.lt_size e
    have I1 : Inv X pins σ (upd H s.heap.objs.size (.tup [x, y])) { s with heap := h'', toks := tk } :=
      I.turnedNew (t' := tk) (ch := [z, TI, TO, i1, i2]) (fun c o hb q => by
        have hb' := fun e => hb (five.mpr e)
        exact (sb.2 c fun e => hb' (.inl e)).trans (hk c o (fun e => hb' (.inl e)) (fun e => hb' (.inr (.inr (.inl e)))) (fun e => hb' (.inr (.inr (.inr (.inl e))))) (fun e => hb' (.inr (.inr (.inr (.inr e))))) q)) hf (Nat.le_refl _) new
    refine ⟨.ref s.heap.objs.size, _, I1, rfl, ⟨_, x, y, rfl, I.hok.fresh (Nat.le_refl _), rfl, fun l hl => ?_, fun l hl => ?_⟩, ⟨z'', ?_, ⟨u1, u2, ?_⟩, ?_, ?_⟩, fun c hcm => ?_⟩
    · rw [has_inj I hl g1]; exact hx
    · rw [has_inj I hl g2]; exact hy
    · exact (sb.2 _ D.n1).trans (hk _ _ D.n1 D.n3 D.n4 D.n5 q2)
    · exact (sb.2 _ D.n2).trans TO'
    · exact S1.at_keep (fun o q => (sb.2 _ fun e => D.n6 e.symm).trans q) (D1.to _ _ t1)
    · exact S2.at_keep (fun o q => (sb.2 _ fun e => D.n7 e.symm).trans q) (D2.to _ _ t2)
    · rw [upd_ne (Nat.ne_of_lt (lt c hcm))]
      exact (hf c hcm).1
  done := by
    intro X hP hw hK hc i pins s σ H E I hf st hg
    subst hP hw hK
    obtain ⟨q1, q2, ⟨x0, y0, q3⟩, q4, q5⟩ := st
    obtain ⟨xs, ys, g1, g2, he⟩ := hg
    obtain ⟨P1, T1, D1⟩ := drawn I g1 D.a3 q4
    obtain ⟨P2, T2, D2⟩ := drawn I g2 D.b4 q5
    have hh : X.A.in1.handled = none := I.ok.hd hc
    refine wpAny_pyNext_zipD2_end D.sep (D1.dr _ hh) (D2.dr _ hh) q1 q2 q3 D1.here D2.here (by omega) (by omega) (by omega) fun h' tk hk => ⟨rfl, ?_⟩
    refine I.turnedL (t' := tk) (ch := [z, TI, TO, i1, i2]) (fun c o hb q => ?_) hf
    have hb' := fun e => hb (five.mpr e)
    exact hk c o (fun e => hb' (.inl e)) (fun e => hb' (.inr (.inr (.inl e)))) (fun e => hb' (.inr (.inr (.inr (.inl e))))) (fun e => hb' (.inr (.inr (.inr (.inr e))))) q
  self := fun A i s Q E st h => wpAny_pyIter_zip st.1 h
/-- how such a thing begins -/
theorem src_begins (I : Inv X pins σ H s) {S : Src} {xs : List V} {u : Value} (hs : S.has X.K H xs) (r : RelV S.v u) :
    ∃ o G, Begins u o G ∧ G s.heap ∧ (∀ h it, h.get? it = some o → S.at_ it 0 h) ∧ ∀ c, s.heap.objs.size ≤ c → S.far c := by
  cases S with
  | lst a =>
    obtain ⟨its, rv, p, hz⟩ := I.list hs
    have e : u = .ref a := r
    subst e
    exact ⟨_, _, begins_list a its.toArray, p.isList, fun h it e => ⟨_, e, rfl, rfl⟩, fun c hc => Nat.ne_of_lt (Nat.lt_of_lt_of_le p.lt hc)⟩
  | tup a =>
    obtain ⟨its, rv, p, hz⟩ := I.tuple hs
    have e : u = .ref a := r
    subst e
    obtain ⟨o1, ho1, _⟩ := id p
    exact ⟨_, _, begins_tuple a its.toArray, p, fun h it e => ⟨_, e, rfl, rfl⟩, fun c hc => Nat.ne_of_lt (Nat.lt_of_lt_of_le (Heap.lt_size ho1) hc)⟩
  | txt z =>
    obtain ⟨t, rfl⟩ := r
    exact ⟨_, _, begins_text z t, trivial, fun h it e => ⟨t, _, e, rfl, rfl⟩, fun c hc => trivial⟩
def zipR (K : PySem.W.Frag) (R : It → Hp → Prop) : List V → Hp → Prop := fun vs H1 => ∃ S1 S2 xs ys, vs = [Src.v S1, Src.v S2] ∧ S1.has K H1 xs ∧ S2.has K H1 ys ∧ R (ItZ K S1 S2) H1
def iZipS (K : PySem.W.Frag) (ta : TA) : TI := fun σ H R => ta σ H (zipR K R)
theorem pi_zipS {X : Cx} {e e2 : Expr} {ta : TA} {p pos tpos : Pos} {elts : List Expr} {kk : Nat} (hg : Gl X "zip") (hm : X.mg "zip" = none) (ha : PA X [e, e2] ta)
    (hs : starEach [e, e2] X.env = (false, eval e X.env) :: starEach [e2] X.env := by rfl) (hpl : (backTo pos (starEach [e2] X.env)).any (·.1) = false := by rfl) :
    PI X (.Tuple elts kk tpos) (.Call (.Name "zip" p) [e, e2] [] pos) (iZipS X.K ta) := by
  refine ⟨fun pins s σ H R I h => ?_⟩
  refine Call_ (ld_blt I hg hm PyProof.Rows.boot_zip (PyProof.Rows.callWith_type1 (thn (ha.run pos pins s σ H _ I h) fun us s1 ⟨vs, H1, I1, r1, q1⟩ => ?_) hs hpl))
  obtain ⟨S1, S2, xs, ys, rfl, h1, h2, q⟩ := q1
  obtain ⟨u1, u2, rfl, r1, r2⟩ := vals2 r1
  obtain ⟨o1, G1, B1, b1, t1, f1⟩ := src_begins I1 h1 r1
  obtain ⟨o2, G2, B2, b2, t2, f2⟩ := src_begins I1 h2 r2
  refine zip_begins2 B1 B2 b1 b2 fun h' hz hTI hTO e1 e2 hsz hk => wpAny_pyIter_zip hz ?_
  generalize hN : s1.heap.objs.size = N at *
  have I2 : Inv X pins σ H1 { s1 with heap := h' } := I1.kept (t' := s1.toks) hk
  have D : ZS (N + 4) (N + 2) (N + 3) N (N + 1) S1 S2 :=
    { n1 := Nat.ne_of_lt (Nat.lt_add_of_pos_right (n := N + 2) (k := 2) (by decide)), n2 := Nat.ne_of_lt (Nat.lt_add_of_pos_right (n := N + 3) (k := 1) (by decide)),
      n3 := Nat.ne_of_lt (Nat.lt_add_of_pos_right (n := N + 2) (k := 1) (by decide)), n4 := Nat.ne_of_gt (Nat.lt_add_of_pos_right (n := N) (k := 2) (by decide)),
      n5 := Nat.ne_of_gt (Nat.lt_add_of_pos_right (n := N + 1) (k := 1) (by decide)), n6 := Nat.ne_of_gt (Nat.lt_add_of_pos_right (n := N) (k := 4) (by decide)),
      n7 := Nat.ne_of_gt (Nat.lt_add_of_pos_right (n := N + 1) (k := 3) (by decide)), n8 := Nat.ne_of_gt (Nat.lt_add_of_pos_right (n := N) (k := 3) (by decide)),
      n9 := Nat.ne_of_gt (Nat.lt_add_of_pos_right (n := N + 1) (k := 2) (by decide)), n0 := Nat.ne_of_lt (Nat.lt_add_of_pos_right (n := N) (k := 1) (by decide)),
      a1 := f1 _ (Nat.le_add_right _ _), a2 := f1 _ (Nat.le_add_right _ _), a3 := f1 _ (Nat.le_refl _), a4 := f1 _ (Nat.le_add_right _ _),
      b1 := f2 _ (Nat.le_add_right _ _), b2 := f2 _ (Nat.le_add_right _ _), b3 := f2 _ (Nat.le_refl _), b4 := f2 _ (Nat.le_add_right _ _) }
  refine ⟨N + 4, [N + 4, N + 2, N + 3, N, N + 1], _, _, H1, rfl, I2, turn_zipS D, ⟨hz, hTI, ⟨_, _, hTO⟩, t1 _ _ e1, t2 _ _ e2⟩, fun c hcm => ?_, q⟩
  have hle : s1.heap.objs.size ≤ c := by
    rw [hN]
    rcases five.mp hcm with rfl | rfl | rfl | rfl | rfl
    · exact Nat.le_add_right _ _
    · exact Nat.le_add_right _ _
    · exact Nat.le_add_right _ _
    · exact Nat.le_refl _
    · exact Nat.le_add_right _ _
  exact I1.fpOk hle (I1.hok.fresh hle)
theorem walk_zipS {K : PySem.W.Frag} {S1 S2 : Src} {xs ys : List V} {n : Nat} (hn : n = min xs.length ys.length) :
    L2.Walk (ItZ K S1 S2) n (fun H => S1.has K H xs ∧ S2.has K H ys) (YPair (fun i => xs[i]?) (fun i => ys[i]?)) := by
  subst hn
  refine ⟨fun i H hi q => ⟨xs, ys, q.1, q.2, by omega, by omega⟩, fun H q => ⟨xs, ys, q.1, q.2, rfl⟩, fun i H v H' _ q y => ?_⟩
  obtain ⟨T, x, u, h1, h2, h3, h4, h5⟩ := y
  exact ⟨T, x, u, h1, h2, h3, h4 xs q.1, h5 ys q.2⟩

/-! ### enumerate of one -/
def ItE (K : PySem.W.Frag) (S : Src) : It where
  go := fun i H => ∃ xs : List V, S.has K H xs ∧ i < xs.length
  yld := fun i H v H' => ∃ T x, v = .ref T ∧ H T = none ∧ H' = upd H T (.tup [.int (i : Nat), x]) ∧ ∀ xs, S.has K H xs → xs[i]? = some x
  stop := fun i H => ∃ xs : List V, S.has K H xs ∧ i = xs.length
def ESt (S : Src) (e it : Addr) (i : Nat) (h : Heap) : Prop := (∃ old, IsEnum h e it ((i : Nat) : Int) old) ∧ S.at_ it i h
theorem turn_enumS {P : Program} {w : World} {K : PySem.W.Frag} {elts : List Expr} {kk : Nat} {tpos : Pos} {S : Src} {e it : Addr} (hne : e ≠ it) (fe : S.far e) (fi : S.far it) :
    Turn P w K (.Tuple elts kk tpos) (ItE K S) [e, it] e (ESt S e it) where
  mem := by simp
  obj := fun i h st c hc => by
    obtain ⟨⟨old, q1⟩, q2⟩ := st
    rcases (by simpa using hc : c = e ∨ c = it) with rfl | rfl
    · exact ⟨_, q1, nofun⟩
    · exact S.at_obj q2
  keep := fun i h h' st k => by
    obtain ⟨⟨old, q1⟩, q2⟩ := st
    exact ⟨⟨old, k e (by simp) _ q1⟩, S.at_keep (k it (by simp)) q2⟩
  item := by
    intro X hP hw hK hc i pins s σ H E I hf st hg
    subst hP hw hK
    obtain ⟨⟨old, q1⟩, q2⟩ := st
    obtain ⟨xs, g1, l1⟩ := hg
    obtain ⟨P1, T1, D1⟩ := drawn I g1 fi q2
    have hh : X.A.in1.handled = none := I.ok.hd hc
    have hel : e < s.heap.objs.size := Heap.lt_size q1
    refine wpAny_pyNext_enum_itemC (D1.dr _ hh) q1 D1.here l1 hne (S.not_fp hne fe) fun u h' tk p1 ho t1 hT hsz hk => ?_
    obtain ⟨x, hx, r1⟩ := D1.rel _ _ p1
    refine ⟨_, rfl, wpAny_letOwnedTupleGo_enum (s := { s with heap := h', toks := tk + 1 }) ho fun h'' he' sb => ?_⟩
    have hT2 : h''.get? s.heap.objs.size = some { cls := .type "tuple", data := .seq #[.int i tk, u] } := (sb.2 _ (Nat.ne_of_gt hel)).trans hT
    have new : ObjOk X.prog X.w (upd H s.heap.objs.size (.tup [.int (i : Nat), x])) h'' s.heap.objs.size (.tup [.int (i : Nat), x]) := by
      refine ⟨(by show 2 ≤ sizeLine; decide), [.int i tk, u], .cons ⟨_, rfl⟩ (.cons r1 .nil), ?_⟩
      exact ⟨_, hT2, rfl, _, rfl⟩
    have lt : ∀ c ∈ [e, it], c < s.heap.objs.size := fun c hcm => by
      rcases (by simpa using hcm : c = e ∨ c = it) with rfl | rfl
      · exact hel
      · obtain ⟨_, e, _⟩ := S.at_obj q2; exact Heap.lt_size e
    have I1 : Inv X pins σ (upd H s.heap.objs.size (.tup [.int (i : Nat), x])) { s with heap := h'', toks := tk + 1 } :=
      I.turnedNew (t' := tk + 1) (ch := [e, it]) (fun c o hb q => by
        have hb' : ¬ (c = e ∨ c = it) := fun z => hb (by simpa using z)
        exact (sb.2 c fun z => hb' (.inl z)).trans (hk c o (fun z => hb' (.inl z)) (fun z => hb' (.inr z)) q)) hf (Nat.le_refl _) new
    refine ⟨.ref s.heap.objs.size, _, I1, rfl, ⟨_, x, rfl, I.hok.fresh (Nat.le_refl _), rfl, fun l hl => ?_⟩, ⟨⟨u, ?_⟩, ?_⟩, fun c hcm => ?_⟩
    · rw [has_inj I hl g1]; exact hx
    · have e1 : (((i + 1 : Nat) : Nat) : Int) = (i : Int) + 1 := by omega
      rw [e1]
      exact he'
    · exact S.at_keep (fun o q => (sb.2 _ fun z => hne z.symm).trans q) (D1.to _ _ t1)
    · rw [upd_ne (Nat.ne_of_lt (lt c hcm))]
      exact (hf c hcm).1
  done := by
    intro X hP hw hK hc i pins s σ H E I hf st hg
    subst hP hw hK
    obtain ⟨⟨old, q1⟩, q2⟩ := st
    obtain ⟨xs, g1, he⟩ := hg
    obtain ⟨P1, T1, D1⟩ := drawn I g1 fi q2
    have hh : X.A.in1.handled = none := I.ok.hd hc
    subst he
    refine wpAny_pyNext_enum_endD (D1.dr _ hh) q1 D1.here fun h' hk => ⟨rfl, ?_⟩
    refine I.turnedL (t' := s.toks) (ch := [e, it]) (fun c o hb q => ?_) hf
    have hb' : ¬ (c = e ∨ c = it) := fun z => hb (by simpa using z)
    exact hk c o (fun z => hb' (.inr z)) q
  self := fun A i s Q E st h => by
    obtain ⟨⟨old, q1⟩, _⟩ := st
    exact wpAny_pyIter_enum q1 h
theorem meets_enum1 {v : Value} {o : Obj} {G : Heap → Prop} (B : Begins v o G) :
    Meets (Builtin.«enumerate.__new__» ⟨[.type "enumerate", v], []⟩) (fun _ R s => G s.heap ∧
      R (.ok (.ret (.ref (s.heap.push o).objs.size))) { s with heap := (s.heap.push o).push { cls := .type "enumerate", data := .fields #[.none, .bool false, .ref s.heap.objs.size, rawInt 0, .none, .none] } }) :=
  .of_wp fun prog w A R s h => by
    obtain ⟨hp, g, d, tk, os⟩ := s
    obtain ⟨h1, h⟩ := h
    have hsub := sub_enumerate
    have q1 : ∀ {A' : Around} {E : Value → Shared → Prop} {Q : Value → Shared → Prop}, Q (.ref hp.objs.size) ⟨hp.push o, g, d, tk, os⟩ → wpAny (model prog w) A' (pyIter v) Q E ⟨hp, g, d, tk, os⟩ :=
      fun q => B.iter prog w _ _ ⟨hp, g, d, tk, os⟩ _ h1 q
    wp_walk using q1
    refine wpAny_stack_any fun st => wpAny_pure ?_
    split
    · rename_i c _ _ _ _ _
      cases (c == Value.type "enumerate") <;> (wp_walk using q1; exact ⟨_, rfl, h⟩)
    · wp_walk using q1
      exact ⟨_, rfl, h⟩
theorem call_enumS {prog : Program} {w : World} {A : Around} {E : Value → Shared → Prop} {s : Shared} {v : Value} {o : Obj} {G : Heap → Prop} {Q : Value → Shared → Prop} (B : Begins v o G) (h1 : G s.heap)
    (h : ∀ h', IsEnum h' (s.heap.objs.size + 1) s.heap.objs.size 0 .none → h'.get? s.heap.objs.size = some o → (∀ b o, s.heap.get? b = some o → h'.get? b = some o) → Q (.ref (s.heap.objs.size + 1)) { s with heap := h' }) :
    wpAny (model prog w) A (call (.type "enumerate") [v]) Q E s := by
  refine callType_new F.called_enumerate (by decide) (F.typeCall_enumerate_1 _) (F.newCall_enumerate_1 _) (fun obj => F.args_object_init_2 obj _) F.entry_enumerate_new (meets_enum1 B) ⟨h1, ?_⟩
  have hz : (s.heap.push o).objs.size = s.heap.objs.size + 1 := Heap.size_push ..
  show _ ∧ _
  rw [hz]
  generalize he : (s.heap.push o).push { cls := .type "enumerate", data := .fields #[.none, .bool false, .ref s.heap.objs.size, rawInt 0, .none, .none] } = h2
  have g1 : IsEnum h2 (s.heap.objs.size + 1) s.heap.objs.size 0 .none := by
    rw [← he, ← hz]
    exact Heap.get?_push_size _ rfl
  refine ⟨⟨_, g1, rfl⟩, h _ g1 ?_ fun b u x => ?_⟩
  · rw [← he]
    exact Heap.get?_push_of_some _ (Heap.get?_push_size _ B.free)
  · rw [← he]
    exact Heap.get?_push_of_some _ (Heap.get?_push_of_some _ x)
def enumR (K : PySem.W.Frag) (R : It → Hp → Prop) : List V → Hp → Prop := fun vs H1 => ∃ S xs, vs = [Src.v S] ∧ S.has K H1 xs ∧ R (ItE K S) H1
def iEnumS (K : PySem.W.Frag) (ta : TA) : TI := fun σ H R => ta σ H (enumR K R)
theorem pi_enumS {X : Cx} {e : Expr} {ta : TA} {p pos tpos : Pos} {elts : List Expr} {kk : Nat} (hg : Gl X "enumerate") (hm : X.mg "enumerate" = none) (ha : PA X [e] ta)
    (hs : starEach [e] X.env = [(false, eval e X.env)] := by rfl) : PI X (.Tuple elts kk tpos) (.Call (.Name "enumerate" p) [e] [] pos) (iEnumS X.K ta) := by
  refine ⟨fun pins s σ H R I h => ?_⟩
  refine Call_ (ld_blt I hg hm boot_enumerate (PyProof.Rows.callWith_type1 (thn (ha.run pos pins s σ H _ I h) fun us s1 ⟨vs, H1, I1, r1, q1⟩ => ?_) hs rfl))
  obtain ⟨S, xs, rfl, h1, q⟩ := q1
  obtain ⟨u1, rfl, r2⟩ := vals1 r1
  obtain ⟨o, G, B, b, t, f⟩ := src_begins I1 h1 r2
  refine call_enumS B b fun h' he e1 hk => wpAny_pyIter_enum he ?_
  have I2 : Inv X pins σ H1 { s1 with heap := h' } := I1.kept (t' := s1.toks) hk
  refine ⟨s1.heap.objs.size + 1, [s1.heap.objs.size + 1, s1.heap.objs.size], _, _, H1, rfl, I2, turn_enumS (Nat.succ_ne_self _) (f _ (Nat.le_add_right _ _)) (f _ (Nat.le_refl _)), ⟨⟨.none, he⟩, t _ _ e1⟩, fun c hcm => ?_, q⟩
  have hle : s1.heap.objs.size ≤ c := by
    rcases (by simpa using hcm : c = s1.heap.objs.size + 1 ∨ c = s1.heap.objs.size) with rfl | rfl
    · exact Nat.le_add_right _ _
    · exact Nat.le_refl _
  exact I1.fpOk hle (I1.hok.fresh hle)
theorem walk_enumS {K : PySem.W.Frag} {S : Src} {xs : List V} : L2.Walk (ItE K S) xs.length (fun H => S.has K H xs) (YPair (fun i => some (.int (i : Nat))) (fun i => xs[i]?)) := by
  refine ⟨fun i H hi q => ⟨xs, q, hi⟩, fun H q => ⟨xs, q, rfl⟩, fun i H v H' _ q y => ?_⟩
  obtain ⟨T, x, h1, h2, h3, h4⟩ := y
  exact ⟨T, .int (i : Nat), x, h1, h2, h3, rfl, h4 xs q⟩

/-! ### one of them alone -/
def srcR (K : PySem.W.Frag) (R : It → Hp → Prop) : VK := fun x H1 => (∃ a, x = .ref a ∧ (∃ xs, SqL K H1 a xs) ∧ R (Itl K a) H1) ∨ (∃ a, x = .ref a ∧ (∃ xs, SqT K H1 a xs) ∧ R (Itt K a) H1) ∨ ∃ z, x = .str z ∧ R (Its z) H1
def iSrc (K : PySem.W.Frag) (tl : TE) : TI := fun σ H R => tl σ H (srcR K R)
theorem pi_src {X : Cx} {tg l : Expr} {tl : TE} (hl : PE X l tl) : PI X tg l (iSrc X.K tl) := by
  refine ⟨fun pins s σ H R I h => ?_⟩
  refine thn (hl.run pins s σ H _ I h) fun v s1 ⟨x, H1, I1, r1, q1⟩ => ?_
  rcases q1 with ⟨a, rfl, ⟨xs, hq⟩, q⟩ | ⟨a, rfl, ⟨xs, hq⟩, q⟩ | ⟨z, rfl, q⟩
  · obtain ⟨its, rv, p, hz⟩ := I1.list hq
    cases (show v = Value.ref a from r1)
    refine wpAny_pyIter_list p.isList ?_
    exact pi_one (tk := s1.toks) I1 _ (turn_list a _) ⟨_, Heap.get?_push_size _ rfl, rfl, rfl⟩ q
  · obtain ⟨its, rv, p, hz⟩ := I1.tuple hq
    cases (show v = Value.ref a from r1)
    refine wpAny_pyIter_tuple (show s1.heap.IsTuple a its.toArray from p) ?_
    exact pi_one (tk := s1.toks) I1 _ (turn_tuple a _) ⟨_, Heap.get?_push_size _ rfl, rfl, rfl⟩ q
  · obtain ⟨t, rfl⟩ := r1
    cases ha : z.cps.all (· < 128)
    · refine wpAny_pyIter_wide ha ?_
      exact pi_one (tk := s1.toks) I1 _ (turn_str _ z t _ (.inr rfl)) ⟨_, Heap.get?_push_size _ rfl, rfl, rfl⟩ q
    · refine wpAny_pyIter_ascii ha ?_
      exact pi_one (tk := s1.toks) I1 _ (turn_str _ z t _ (.inl rfl)) ⟨_, Heap.get?_push_size _ rfl, rfl, rfl⟩ q
end Nt

namespace Nt
open PySem PySem.Spec PyProof.Rows L2
/-! ### worlds: M the addresses that may change, I what is kept of them -/
structure Wf (M : Addr → Prop) (I : Hp → Prop) : Prop where
  live : ∀ H, I H → ∀ p, M p → H p ≠ none
  stable : ∀ H H', I H → (∀ p, M p → H' p = H p) → I H'
def Ex (M : Addr → Prop) (H H' : Hp) : Prop := ∀ p o, ¬ M p → H p = some o → H' p = some o
theorem Ex.refl {M : Addr → Prop} (H : Hp) : Ex M H H := fun _ _ _ h => h
theorem Ex.trans {M : Addr → Prop} {H H1 H2 : Hp} (a : Ex M H H1) (b : Ex M H1 H2) : Ex M H H2 := fun p o n h => b p o n (a p o n h)
theorem Ex.of {M : Addr → Prop} {H H' : Hp} (a : L2.Same H H') : Ex M H H' := fun p o _ h => a p o h
theorem Wf.same {M : Addr → Prop} {I : Hp → Prop} (w : Wf M I) {H H' : Hp} (e : L2.Same H H') (h : I H) : I H' := by
  refine w.stable H H' h fun p hp => ?_
  cases q : H p with
  | none => exact absurd q (w.live H h p hp)
  | some o => exact e p o q
theorem same_upd {H : Hp} {p : Addr} {o : HO} (h : H p = none) : L2.Same H (upd H p o) := fun a u e => by
  rw [upd_ne (ne_of_none e h)]
  exact e
theorem Wf.fresh {M : Addr → Prop} {I : Hp → Prop} (w : Wf M I) {H : Hp} {p : Addr} (h : I H) (hp : H p = none) : ¬ M p := fun m => w.live H h p m hp
/-- nothing changes -/
def M0 : Addr → Prop := fun _ => False
def I0 : Hp → Prop := fun _ => True
theorem wf0 : Wf M0 I0 := ⟨fun _ _ _ h => h.elim, fun _ _ _ _ => trivial⟩
/-- one object more that may change: its content told -/
def Mq (M : Addr → Prop) (q : Addr) : Addr → Prop := fun p => M p ∨ p = q
def Iq (I : Hp → Prop) (q : Addr) (o : HO) : Hp → Prop := fun H => I H ∧ H q = some o
theorem Wf.add {M : Addr → Prop} {I : Hp → Prop} (w : Wf M I) (q : Addr) (o : HO) : Wf (Mq M q) (Iq I q o) where
  live := fun H h p hp => by
    rcases hp with hp | rfl
    · exact w.live H h.1 p hp
    · rw [h.2]; exact nofun
  stable := fun H H' h e => ⟨w.stable H H' h.1 fun p hp => e p (.inl hp), (e q (.inr rfl)).trans h.2⟩
/-- the object changes -/
theorem Wf.put {M : Addr → Prop} {I : Hp → Prop} (w : Wf M I) {q : Addr} {o o' : HO} {H : Hp} (hq : ¬ M q) (h : Iq I q o H) : Iq I q o' (upd H q o') ∧ Ex (Mq M q) H (upd H q o') := by
  refine ⟨⟨w.stable _ _ h.1 fun p hp => upd_ne fun e => hq (e ▸ hp), upd_same⟩, fun p u n e => ?_⟩
  rw [upd_ne fun z => n (.inr z)]
  exact e

/-! ### data -/
inductive D where
  | non
  | bl (b : Bool)
  | int (i : Int)
  | str (z : Str)
  | lst (l : List D)
  | tup (l : List D)
  | dct (l : List (Key × D))
  | oth (n : Nat)
mutual
inductive Rep (K : PySem.W.Frag) (M : Addr → Prop) (H : Hp) : V → D → Prop
  | non : Rep K M H .non .non
  | bl (b : Bool) : Rep K M H (.bl b) (.bl b)
  | int (i : Int) : Rep K M H (.int i) (.int i)
  | str (z : Str) : Rep K M H (.str z) (.str z)
  | lst {a : Addr} {xs : List V} {ds : List D} : H a = some (.lst xs) → ¬ M a → Reps K M H xs ds → Rep K M H (.ref a) (.lst ds)
  | tup {a : Addr} {xs : List V} {ds : List D} : H a = some (.tup xs) → ¬ M a → Reps K M H xs ds → Rep K M H (.ref a) (.tup ds)
  | dct {a : Addr} {kvs : List (Key × V)} {ds : List (Key × D)} : H a = some (.dK kvs) → ¬ M a → kvs.map (·.1) = ds.map (·.1) → Reps K M H (kvs.map (·.2)) (ds.map (·.2)) → Rep K M H (.ref a) (.dct ds)
  | oth {a : Addr} {φ : Heap → Prop} {n : Nat} : H a = some (.ext φ) → ¬ M a → Rep K M H (.ref a) (.oth n)
inductive Reps (K : PySem.W.Frag) (M : Addr → Prop) (H : Hp) : List V → List D → Prop
  | nil : Reps K M H [] []
  | cons {v : V} {vs : List V} {d : D} {ds : List D} : Rep K M H v d → Reps K M H vs ds → Reps K M H (v :: vs) (d :: ds)
end
section
variable {K : PySem.W.Frag} {M M' : Addr → Prop} {H H' : Hp}
theorem sq_l {a : Addr} {xs : List V} (e : Ex M H H') (hm : ¬ M a) (h : SqL K H a xs) : SqL K H' a xs := by
  rcases h with (h | ⟨o, h⟩) | h
  · exact .inl (.inl (e _ _ hm h))
  · exact .inl (.inr ⟨o, e _ _ hm h⟩)
  · exact .inr h
theorem sq_t {a : Addr} {xs : List V} (e : Ex M H H') (hm : ¬ M a) (h : SqT K H a xs) : SqT K H' a xs := by
  rcases h with (h | ⟨o, h⟩) | h
  · exact .inl (.inl (e _ _ hm h))
  · exact .inl (.inr ⟨o, e _ _ hm h⟩)
  · exact .inr h
mutual
theorem Rep.ex (e : Ex M H H') : ∀ {v : V} {d : D}, Rep K M H v d → Rep K M H' v d
  | _, _, .non => .non
  | _, _, .bl b => .bl b
  | _, _, .int i => .int i
  | _, _, .str z => .str z
  | _, _, .lst h n r => .lst (e _ _ n h) n (Reps.ex e r)
  | _, _, .tup h n r => .tup (e _ _ n h) n (Reps.ex e r)
  | _, _, .dct h n k r => .dct (e _ _ n h) n k (Reps.ex e r)
  | _, _, .oth h n => .oth (e _ _ n h) n
theorem Reps.ex (e : Ex M H H') : ∀ {v : List V} {d : List D}, Reps K M H v d → Reps K M H' v d
  | _, _, .nil => .nil
  | _, _, .cons h r => .cons (Rep.ex e h) (Reps.ex e r)
end
theorem Rep.same (e : L2.Same H H') {v : V} {d : D} (h : Rep K M H v d) : Rep K M H' v d := h.ex (.of e)
theorem Reps.same (e : L2.Same H H') {v : List V} {d : List D} (h : Reps K M H v d) : Reps K M H' v d := h.ex (.of e)
mutual
theorem Rep.le (hm : ∀ p, M p → M' p) : ∀ {v : V} {d : D}, Rep K M' H v d → Rep K M H v d
  | _, _, .non => .non
  | _, _, .bl b => .bl b
  | _, _, .int i => .int i
  | _, _, .str z => .str z
  | _, _, .lst h n r => .lst h (fun m => n (hm _ m)) (Reps.le hm r)
  | _, _, .tup h n r => .tup h (fun m => n (hm _ m)) (Reps.le hm r)
  | _, _, .dct h n k r => .dct h (fun m => n (hm _ m)) k (Reps.le hm r)
  | _, _, .oth h n => .oth h fun m => n (hm _ m)
theorem Reps.le (hm : ∀ p, M p → M' p) : ∀ {v : List V} {d : List D}, Reps K M' H v d → Reps K M H v d
  | _, _, .nil => .nil
  | _, _, .cons h r => .cons (Rep.le hm h) (Reps.le hm r)
end
mutual
/-- the addresses of data lie in H: one that H has not may be let change -/
theorem Rep.off {q : Addr} (hq : H q = none) : ∀ {v : V} {d : D}, Rep K M H v d → Rep K (Mq M q) H v d
  | _, _, .non => .non
  | _, _, .bl b => .bl b
  | _, _, .int i => .int i
  | _, _, .str z => .str z
  | _, _, .lst h n r => .lst h (fun m => m.elim n fun e => by rw [e, hq] at h; cases h) (Reps.off hq r)
  | _, _, .tup h n r => .tup h (fun m => m.elim n fun e => by rw [e, hq] at h; cases h) (Reps.off hq r)
  | _, _, .dct h n k r => .dct h (fun m => m.elim n fun e => by rw [e, hq] at h; cases h) k (Reps.off hq r)
  | _, _, .oth h n => .oth h fun m => m.elim n fun e => by rw [e, hq] at h; cases h
theorem Reps.off {q : Addr} (hq : H q = none) : ∀ {v : List V} {d : List D}, Reps K M H v d → Reps K (Mq M q) H v d
  | _, _, .nil => .nil
  | _, _, .cons h r => .cons (Rep.off hq h) (Reps.off hq r)
end
/-- what may change no longer does -/
theorem Rep.on {q : Addr} : ∀ {v : V} {d : D}, Rep K (Mq M q) H v d → Rep K M H v d := fun {v d} h => h.le fun p m => .inl m
end
end Nt

namespace Nt
open PySem PySem.Spec PyProof.Rows L2
/-! ### signs by their numbers -/
def T (l : List Nat) : Str := ⟨l.toArray⟩
theorem T_cps (l : List Nat) : (T l).cps.toList = l := rfl
theorem T_len (l : List Nat) : (T l).length = l.length := by simp [T, Str.length]
theorem T_app (l m : List Nat) : (T l) ++ (T m) = T (l ++ m) := by
  show (⟨(T l).cps ++ (T m).cps⟩ : Str) = _
  simp [T]
theorem T_inj {l m : List Nat} (h : T l = T m) : l = m := by
  have := congrArg (fun z : Str => z.cps.toList) h
  simpa [T] using this
theorem T_one (c : Nat) : (⟨#[c]⟩ : Str) = T [c] := rfl
theorem signs_T (l : List Nat) : signs (T l) = l.map fun c => .str (T [c]) := by simp [signs, T]
/-! ### universal operators: what is done shows by the values -/
def rAddU (K : PySem.W.Frag) : R2 := fun x y H Q =>
  rI0 (fun i j => .int (i + j)) x y H Q ∨ (∃ i j, x = .str i ∧ y = .str j ∧ i.length + j.length ≤ sizeLine ∧ Q (.str (i ++ j)) H) ∨ rCat x y H Q ∨ rCatA K x y H Q
theorem op_addU {X : Cx} : OpR X (binaryOp .Add) (rAddU X.K) := op_add.or (op_add_str.or (op_cat.or op_catA))
def rRepS : R2 := fun x y H Q => ∃ z k, x = .str z ∧ y = .int k ∧ 0 ≤ k ∧ k ≤ 100000 ∧ z.length ≤ 100 ∧ Q (.str (T (List.replicate k.toNat z.cps.toList).flatten)) H
theorem rep_cps (z : Str) (n : Nat) : (⟨(List.replicate n z.cps).foldl (· ++ ·) #[]⟩ : Str) = T (List.replicate n z.cps.toList).flatten := by
  have h : ∀ (m : Nat) (a : Array Nat), ((List.replicate m z.cps).foldl (· ++ ·) a).toList = a.toList ++ (List.replicate m z.cps.toList).flatten := by
    intro m
    induction m with
    | zero => intro a; simp
    | succ m ih => intro a; simp [List.replicate_succ, ih]
  have e := h n #[]
  simp only [List.nil_append] at e
  unfold T
  congr 1
  exact Array.toList_inj.mp (by simpa using e)
theorem op_repS {X : Cx} : OpR X (binaryOp .Mult) rRepS := by
  intro pins s σ H x y v u Q I rx ry h
  obtain ⟨z, k, rfl, rfl, h0, h1, h2, q⟩ := h
  obtain ⟨t, rfl⟩ := rx
  obtain ⟨t2, rfl⟩ := ry
  have e := rep_cps z k.toNat
  have hz : z.length * k.toNat ≤ 100 * 100000 := Nat.mul_le_mul h2 (by omega)
  have el : z.length = z.cps.size := rfl
  have hs : sizeLine = 16777216 := sizeLine_eq
  have hz2 : k.toNat * z.cps.size ≤ 10000000 := by rw [Nat.mul_comm]; exact hz
  refine PySem.P.mul_str (by
      have a1 : ¬ k < -(2 ^ 63 : Int) := by omega
      have a2 : ¬ k ≥ 2 ^ 63 := by omega
      rw [decide_eq_false a1, decide_eq_false a2]; rfl) (fun a _ hh => ?_) (fun _ _ => ?_) ?_
  · have : (2 ^ 63 - 1 : Int) / k ≥ 1000 := by
      apply Int.le_ediv_of_mul_le (by omega)
      omega
    omega
  · show Builtin.Str.tooLong (z.length * k.toNat) = false
    unfold Builtin.Str.tooLong
    first
      | (simp only [decide_eq_false_iff_not]; omega)
      | (rw [decide_eq_false]; omega)
      | (simp; omega)
  · by_cases c1 : k < 1
    · rw [if_pos c1]
      have k0 : k.toNat = 0 := by omega
      rw [k0] at q
      exact ⟨by decide, ⟨.str _, H, I.tok _, ⟨_, rfl⟩, q⟩⟩
    · rw [if_neg c1]
      by_cases c2 : (k == 1 || z.length == 0) = true
      · rw [if_pos c2]
        have ez : T (List.replicate k.toNat z.cps.toList).flatten = z := by
          rcases Bool.or_eq_true_iff.mp c2 with c | c
          · have : k = 1 := by simpa using c
            subst this
            simp [T]
          · have c' : z.cps.size = 0 := by simpa [el] using c
            have : z.cps = #[] := Array.size_eq_zero_iff.mp c'
            obtain ⟨cp⟩ := z
            simp only at this
            subst this
            simp [T]
        rw [ez] at q
        exact ⟨.str _, H, I, ⟨_, rfl⟩, q⟩
      · rw [if_neg c2]
        rw [← e] at q
        refine ⟨?_, ⟨.str _, H, I.tok _, ⟨_, rfl⟩, q⟩⟩
        rw [e]
        first
          | (simp [T, Str.length] at *; omega)
          | (show (T _).length ≤ _; rw [T_len]; simp; omega)
end Nt

namespace Nt
open PySem PySem.Spec PyProof.Rows L2
/-! ### lists, place by place -/
inductive A2 {α β : Type} (P : α → β → Prop) : List α → List β → Prop
  | nil : A2 P [] []
  | cons {a b as bs} : P a b → A2 P as bs → A2 P (a :: as) (b :: bs)
theorem A2.append {α β : Type} {P : α → β → Prop} : ∀ {as cs : List α} {bs ds : List β}, A2 P as bs → A2 P cs ds → A2 P (as ++ cs) (bs ++ ds)
  | _, _, _, _, .nil, h => h
  | _, _, _, _, .cons x y, h => .cons x (y.append h)
theorem A2.length {α β : Type} {P : α → β → Prop} : ∀ {as : List α} {bs : List β}, A2 P as bs → bs.length = as.length
  | _, _, .nil => rfl
  | _, _, .cons _ y => congrArg (· + 1) y.length
theorem A2.eq {α β : Type} {f : α → β} : ∀ {as : List α} {bs : List β}, A2 (fun a b => b = f a) as bs → bs = as.map f
  | _, _, .nil => rfl
  | _, _, .cons x y => by rw [x, y.eq]; rfl
theorem A2.imp {α β : Type} {P Q : α → β → Prop} (h : ∀ a b, P a b → Q a b) : ∀ {as : List α} {bs : List β}, A2 P as bs → A2 Q as bs
  | _, _, .nil => .nil
  | _, _, .cons x y => .cons (h _ _ x) (y.imp h)
theorem A2.map {α β : Type} {f : α → β} : ∀ as : List α, A2 (fun a b => b = f a) as (as.map f)
  | [] => .nil
  | _ :: as => .cons rfl (A2.map as)
/-- the second parts are of a form -/
theorem A2.ex {α β γ : Type} {P : α → β → Prop} {Q : α → γ → Prop} {g : γ → β} (h : ∀ a b, P a b → ∃ c, b = g c ∧ Q a c) : ∀ {as : List α} {bs : List β}, A2 P as bs → ∃ cs, bs = cs.map g ∧ A2 Q as cs
  | _, _, .nil => ⟨[], rfl, .nil⟩
  | _, _, .cons x y => by
    obtain ⟨c, e, q⟩ := h _ _ x
    obtain ⟨cs, e2, q2⟩ := y.ex h
    exact ⟨c :: cs, by rw [e, e2]; rfl, .cons q q2⟩
theorem A2.all {α β : Type} {P : α → β → Prop} {Q : β → Prop} (h : ∀ a b, P a b → Q b) : ∀ {as : List α} {bs : List β}, A2 P as bs → ∀ b ∈ bs, Q b
  | _, _, .nil, _, hb => by cases hb
  | _, _, .cons x y, b, hb => by
    rcases List.mem_cons.mp hb with rfl | hb
    · exact h _ _ x
    · exact y.all h b hb
section
variable {K : PySem.W.Frag} {M : Addr → Prop} {H : Hp}
theorem Reps.append : ∀ {xs ys : List V} {ds es : List D}, Reps K M H xs ds → Reps K M H ys es → Reps K M H (xs ++ ys) (ds ++ es)
  | _, _, _, _, .nil, h => h
  | _, _, _, _, .cons x y, h => .cons x (y.append h)
theorem Reps.length : ∀ {xs : List V} {ds : List D}, Reps K M H xs ds → xs.length = ds.length
  | _, _, .nil => rfl
  | _, _, .cons _ y => congrArg (· + 1) y.length
theorem Reps.get : ∀ {xs : List V} {ds : List D} {k : Nat} {d : D}, Reps K M H xs ds → ds[k]? = some d → ∃ x, xs[k]? = some x ∧ Rep K M H x d
  | _, _, 0, _, .cons x _, h => ⟨_, rfl, by cases h; exact x⟩
  | _, _, k + 1, _, .cons _ y, h => y.get (k := k) h
theorem Reps.take : ∀ {xs : List V} {ds : List D} (k : Nat), Reps K M H xs ds → Reps K M H (xs.take k) (ds.take k)
  | _, _, 0, _ => by simp; exact .nil
  | _, _, k + 1, .nil => .nil
  | _, _, k + 1, .cons x y => .cons x (y.take k)
theorem Reps.drop : ∀ {xs : List V} {ds : List D} (k : Nat), Reps K M H xs ds → Reps K M H (xs.drop k) (ds.drop k)
  | _, _, 0, h => h
  | _, _, k + 1, .nil => .nil
  | _, _, k + 1, .cons x y => y.drop k
theorem Reps.reverse : ∀ {xs : List V} {ds : List D}, Reps K M H xs ds → Reps K M H xs.reverse ds.reverse
  | _, _, .nil => .nil
  | _, _, .cons x y => by simp only [List.reverse_cons]; exact y.reverse.append (.cons x .nil)
/-- scalars stand for themselves -/
theorem Reps.scal {α : Type} {f : α → V} {g : α → D} (hfg : ∀ a, Rep K M H (f a) (g a)) : ∀ l : List α, Reps K M H (l.map f) (l.map g)
  | [] => .nil
  | a :: l => .cons (hfg a) (Reps.scal hfg l)
theorem Reps.scal_inv {α : Type} {f : α → V} {g : α → D} (hfg : ∀ a v, Rep K M H v (g a) → v = f a) : ∀ {l : List α} {xs : List V}, Reps K M H xs (l.map g) → xs = l.map f
  | [], _, .nil => rfl
  | a :: l, _, .cons x y => by rw [hfg a _ x, Reps.scal_inv hfg y]; rfl
theorem rep_int {v : V} {i : Int} (h : Rep K M H v (.int i)) : v = .int i := by cases h; rfl
theorem rep_str {v : V} {i : Str} (h : Rep K M H v (.str i)) : v = .str i := by cases h; rfl
theorem rep_bl {v : V} {i : Bool} (h : Rep K M H v (.bl i)) : v = .bl i := by cases h; rfl
theorem rep_non {v : V} (h : Rep K M H v .non) : v = .non := by cases h; rfl
end
/-! ### what may be walked -/
def D.elems : D → Option (List D)
  | .lst l => some l
  | .tup l => some l
  | .str z => some (z.cps.toList.map fun c => .str (T [c]))
  | _ => none
theorem src_of {K : PySem.W.Frag} {M : Addr → Prop} {H : Hp} {v : V} {d : D} {ds : List D} (h : Rep K M H v d) (e : d.elems = some ds) :
    ∃ S xs, v = Src.v S ∧ Reps K M H xs ds ∧ ∀ H', Ex M H H' → S.has K H' xs := by
  cases h with
  | lst h n r => cases e; exact ⟨.lst _, _, rfl, r, fun H' x => SqL.of (x _ _ n h)⟩
  | tup h n r => cases e; exact ⟨.tup _, _, rfl, r, fun H' x => SqT.of (x _ _ n h)⟩
  | str z =>
    cases e
    refine ⟨.txt z, signs z, rfl, ?_, fun _ _ => rfl⟩
    unfold signs
    exact Reps.scal (fun c => .str (T [c])) _
  | _ => cases e
/-! ### comprehensions -/
def Bd (g : TG) (Y : Hp → V → Hp → Prop) (σ σ2 : L2.St) : Prop := ∀ H x H' (Qc : L2.St → Hp → Prop), Y H x H' → (∀ H2, L2.Same H H2 → Qc σ2 H2) → g x σ H' Qc
theorem bd_name {i : Nat} {σ : L2.St} {v : V} {Y : Hp → V → Hp → Prop} (hY : ∀ H x H', Y H x H' → H' = H ∧ x = v) : Bd (gName i) Y σ (σ.set i (some v)) := fun H x H' Qc y q => by
  obtain ⟨rfl, rfl⟩ := hY _ _ _ y
  exact q _ (L2.Same.refl _)
theorem bd_pair {K : PySem.W.Frag} {i j : Nat} {σ : L2.St} {v w : V} {Y : Hp → V → Hp → Prop} (hY : ∀ H x H', Y H x H' → ∃ p, x = .ref p ∧ H p = none ∧ H' = upd H p (.tup [v, w])) :
    Bd (gTup K 2 (gCons (gName i) (gCons (gName j) gNil))) Y σ ((σ.set i (some v)).set j (some w)) := fun H x H' Qc y q => by
  obtain ⟨p, rfl, hp, rfl⟩ := hY _ _ _ y
  exact ⟨p, [v, w], rfl, SqT.of upd_same, rfl, v, [w], rfl, w, [], rfl, rfl, q _ (same_upd hp)⟩
section
variable {K : PySem.W.Frag} {M : Addr → Prop} {I : Hp → Prop} {J : It} {G : Hp → Prop} {Y : Nat → Hp → V → Hp → Prop} {α : Type} {as : List α} {g : TG} {tt : TT} {te : TE} {vs : List Nat} {σ : L2.St} {H1 : Hp}
theorem iq_of {q : Addr} {o : HO} {H : Hp} (h : Iq I q o H) : I H := h.1
theorem take_snoc {k : Nat} {a : α} (h : as[k]? = some a) : as.take (k + 1) = as.take k ++ [a] := by
  have hk := (List.getElem?_eq_some_iff.mp h)
  obtain ⟨hk, e⟩ := hk
  rw [List.take_succ_eq_append_getElem hk, e]
theorem lc_any {Q : VK} (w : L2.Walk J as.length G Y) (hw : Wf M I) (hI : I H1) (p : α → Bool) (P : α → D → Prop) (asg : Nat → α → L2.St) (hG : ∀ H', Ex M H1 H' → G H') (hlen : as.length ≤ sizeLine)
    (hb : ∀ k a, as[k]? = some a → Bd g (Y k) (wipe σ vs) (asg k a)) (hwp : ∀ k a, wipe (asg k a) vs = wipe σ vs)
    (ht : ∀ L acc k a H, H1 L = none → ¬ M L → as[k]? = some a → Wf (Mq M L) (Iq I L (.lst acc)) → Iq I L (.lst acc) H → Ex (Mq M L) H1 H →
      ∀ Qt : Bool → Hp → Prop, (∀ H3, Iq I L (.lst acc) H3 → Ex (Mq M L) H H3 → Qt (p a) H3) → tt (asg k a) H Qt)
    (he : ∀ L acc k a H, H1 L = none → ¬ M L → as[k]? = some a → p a = true → Wf (Mq M L) (Iq I L (.lst acc)) → Iq I L (.lst acc) H → Ex (Mq M L) H1 H →
      ∀ Qe : VK, (∀ y d H4, P a d → Rep K (Mq M L) H4 y d → Iq I L (.lst acc) H4 → Ex (Mq M L) H H4 → Qe y H4) → te (asg k a) H Qe)
    (hd : ∀ L ds H', H1 L = none → A2 P (as.filter p) ds → Rep K M H' (.ref L) (.lst ds) → Ex M H1 H' → I H' → Q (.ref L) H') :
    ∀ L, H1 L = none → ∃ W : Nat → Nat → Hp → Prop, (∃ m, W 0 m (upd H1 L (.lst []))) ∧ ∀ i m H, W i m H →
      (J.stop i H ∧ Q (.ref L) H) ∨ (J.go i H ∧ ∃ Nx : Hp → Prop, (∀ H', Nx H' → ∃ m', m' < m ∧ W (i + 1) m' H') ∧ ∀ x H', J.yld i H x H' → g x (wipe σ vs) H' fun σ2 H2 => wipe σ2 vs = wipe σ vs ∧ tt σ2 H2 fun b H3 =>
        if b = true then te σ2 H3 fun y H4 => ∃ acc, H4 L = some (.lst acc) ∧ acc.length < sizeLine ∧ Nx (upd H4 L (.lst (acc ++ [y]))) else Nx H3) := by
  intro L hL
  have nM : ¬ M L := hw.fresh hI hL
  have exL : ∀ {H' : Hp}, Ex (Mq M L) H1 H' → Ex M H1 H' := fun e p o n h => e p o (fun m => m.elim n fun z => by rw [z, hL] at h; cases h) h
  refine lc_it w (fun k H => ∃ acc ds, Iq I L (.lst acc) H ∧ A2 P ((as.take k).filter p) ds ∧ Reps K (Mq M L) H acc ds ∧ Ex (Mq M L) H1 H) ?_ (fun k H _ h => ?_) ?_ ?_
  · refine ⟨[], [], ⟨hw.same (same_upd hL) hI, upd_same⟩, .nil, .nil, Ex.of (same_upd hL)⟩
  · obtain ⟨acc, ds, _, _, _, e⟩ := h
    exact hG H (exL e)
  · rintro k x H H' hk ⟨acc, ds, i1, a2, rs, e⟩ y
    have ha : as[k]? = some as[k] := by simp [hk]
    have wf' := hw.add L (.lst acc)
    have hlen2 : acc.length < sizeLine := by
      have l1 := rs.length
      have l2 := a2.length
      have l3 : ((as.take k).filter p).length ≤ (as.take k).length := List.length_filter_le _ _
      have l4 : (as.take k).length ≤ k := by simp; omega
      omega
    refine hb k _ ha H x H' _ y fun H2 sm => ⟨hwp k _, ?_⟩
    have i2 := wf'.same sm i1
    have e2 : Ex (Mq M L) H1 H2 := e.trans (Ex.of sm)
    have rs2 := rs.same sm
    refine ht L acc k _ H2 hL nM ha wf' i2 e2 _ fun H3 i3 e3 => ?_
    cases hp : p as[k] with
    | false =>
      simp only [Bool.false_eq_true, if_false]
      refine ⟨acc, ds, i3, ?_, rs2.ex e3, e2.trans e3⟩
      rw [take_snoc ha, List.filter_append]
      simpa [hp] using a2
    | true =>
      simp only [if_true]
      refine he L acc k _ H3 hL nM ha hp wf' i3 (e2.trans e3) _ fun y d H4 py ry i4 e4 => ⟨acc, i4.2, hlen2, ?_⟩
      obtain ⟨i5, e5⟩ := hw.put (o' := .lst (acc ++ [y])) nM i4
      refine ⟨acc ++ [y], ds ++ [d], i5, ?_, ?_, ((e2.trans e3).trans e4).trans e5⟩
      · rw [take_snoc ha, List.filter_append]
        refine a2.append ?_
        simp [hp]
        exact .cons py .nil
      · exact (((rs2.ex e3).ex e4).append (.cons ry .nil)).ex e5
  · rintro H ⟨acc, ds, i1, a2, rs, e⟩
    refine hd L ds H hL ?_ (.lst i1.2 nM (rs.le fun p m => .inl m)) (exL e) i1.1
    simpa using a2
end
end Nt

namespace Nt
open PySem PySem.Spec PyProof.Rows L2
/-! ### comprehensions and loops by what is walked -/
def LcR (g : TG) (tt : TT) (te : TE) (vs : List Nat) (σ : L2.St) (Q : VK) : It → Hp → Prop := fun J H1 => ∀ L, H1 L = none → ∃ W : Nat → Nat → Hp → Prop, (∃ m, W 0 m (upd H1 L (.lst []))) ∧ ∀ i m H, W i m H →
  (J.stop i H ∧ Q (.ref L) H) ∨ (J.go i H ∧ ∃ Nx : Hp → Prop, (∀ H', Nx H' → ∃ m', m' < m ∧ W (i + 1) m' H') ∧ ∀ x H', J.yld i H x H' → g x (wipe σ vs) H' fun σ2 H2 => wipe σ2 vs = wipe σ vs ∧ tt σ2 H2 fun b H3 =>
    if b = true then te σ2 H3 fun y H4 => ∃ acc, H4 L = some (.lst acc) ∧ acc.length < sizeLine ∧ Nx (upd H4 L (.lst (acc ++ [y]))) else Nx H3)
theorem sx_lc {wi : TI} {g : TG} {tt : TT} {te : TE} {vs : List Nat} {σ : L2.St} {H : Hp} {Q : VK} (h : wi σ H (LcR g tt te vs σ Q)) : tLc wi g tt te vs σ H Q := h
def ForR (g : TG) (tb : TS) (D : Ends) (σ : L2.St) : It → Hp → Prop := fun J H1 => ∃ W : Nat → Nat → L2.St → Hp → Prop, (∃ m, W 0 m σ H1) ∧ ∀ i m σ H, W i m σ H →
  (J.stop i H ∧ D.nx σ H) ∨ (J.go i H ∧ ∃ N : L2.St → Hp → Prop, (∀ σ' H', N σ' H' → ∃ m', m' < m ∧ W (i + 1) m' σ' H') ∧ ∀ x H', J.yld i H x H' → g x σ H' fun σ2 H2 => tb { D with nx := N, ct := N, bk := D.nx } σ2 H2)
theorem sx_for {wi : TI} {g : TG} {tb : TS} {D : Ends} {σ : L2.St} {H : Hp} (h : wi σ H (ForR g tb D σ)) : tFor wi g tb D σ H := h
theorem sx_isrc {K : PySem.W.Frag} {tl : TE} {σ : L2.St} {H : Hp} {R : It → Hp → Prop} (h : tl σ H (srcR K R)) : iSrc K tl σ H R := h
theorem sx_izip {K : PySem.W.Frag} {ta : TA} {σ : L2.St} {H : Hp} {R : It → Hp → Prop} (h : ta σ H (zipR K R)) : iZipS K ta σ H R := h
theorem sx_ienum {K : PySem.W.Frag} {ta : TA} {σ : L2.St} {H : Hp} {R : It → Hp → Prop} (h : ta σ H (enumR K R)) : iEnumS K ta σ H R := h
section
variable {K : PySem.W.Frag} {M : Addr → Prop} {I : Hp → Prop} {α β : Type} {as : List α} {bs : List β} {tt : TT} {te : TE} {vs : List Nat} {σ : L2.St} {H1 : Hp} {Q : VK} {enc : α → D} {enc2 : β → D}
theorem reps_at {H : Hp} {xs : List V} {k : Nat} {a : α} (r : Reps K M H xs (as.map enc)) (h : as[k]? = some a) : ∃ x, xs[k]? = some x ∧ Rep K M H x (enc a) := r.get (by simp [h])
theorem reps_len {H : Hp} {xs : List V} (r : Reps K M H xs (as.map enc)) : xs.length = as.length := by simpa using r.length
/-- [e for x in s if t] -/
theorem lc_src {i : Nat} {x : V} {d : D} (hw : Wf M I) (hI : I H1) (hx : Rep K M H1 x d) (hd : d.elems = some (as.map enc)) (hlen : as.length ≤ sizeLine) (hwp : ∀ v, wipe ((wipe σ vs).set i (some v)) vs = wipe σ vs) (p : α → Bool) (P : α → D → Prop)
    (ht : ∀ (L : Addr) (acc : List V) (k : Nat) (a : α) (v : V) (H : Hp), H1 L = none → ¬ M L → as[k]? = some a → Rep K (Mq M L) H v (enc a) → Wf (Mq M L) (Iq I L (.lst acc)) → Iq I L (.lst acc) H → Ex (Mq M L) H1 H →
      ∀ Qt : Bool → Hp → Prop, (∀ H3, Iq I L (.lst acc) H3 → Ex (Mq M L) H H3 → Qt (p a) H3) → tt ((wipe σ vs).set i (some v)) H Qt)
    (he : ∀ (L : Addr) (acc : List V) (k : Nat) (a : α) (v : V) (H : Hp), H1 L = none → ¬ M L → as[k]? = some a → p a = true → Rep K (Mq M L) H v (enc a) → Wf (Mq M L) (Iq I L (.lst acc)) → Iq I L (.lst acc) H → Ex (Mq M L) H1 H →
      ∀ Qe : VK, (∀ y d H4, P a d → Rep K (Mq M L) H4 y d → Iq I L (.lst acc) H4 → Ex (Mq M L) H H4 → Qe y H4) → te ((wipe σ vs).set i (some v)) H Qe)
    (hq : ∀ y ds H', A2 P (as.filter p) ds → Rep K M H' y (.lst ds) → Ex M H1 H' → I H' → Q y H') : srcR K (LcR (gName i) tt te vs σ Q) x H1 := by
  obtain ⟨S, xs, rfl, r, hS⟩ := src_of hx hd
  have hl := reps_len r
  have key : ∀ {J : It} {G : Hp → Prop} {Y : Nat → Hp → V → Hp → Prop}, L2.Walk J as.length G Y → (∀ H', Ex M H1 H' → G H') → (∀ k H x H', Y k H x H' → H' = H ∧ xs[k]? = some x) → LcR (gName i) tt te vs σ Q J H1 := fun {J G Y} w hG hY => by
    refine lc_any (K := K) w hw hI p P (fun k _ => (wipe σ vs).set i (some (xs.getD k .non))) hG hlen (fun k a ha => ?_) (fun k a => hwp _) ?_ ?_ ?_
    · exact bd_name fun H x H' y => by
        obtain ⟨e1, e2⟩ := hY k H x H' y
        exact ⟨e1, by simp [List.getD, e2]⟩
    · intro L acc k a H hL nL ha wf hi ex Qt q
      obtain ⟨v, hv, rv⟩ := reps_at r ha
      have e : xs.getD k .non = v := by simp [List.getD, hv]
      rw [e]
      exact ht L acc k a v H hL nL ha ((rv.off hL).ex ex) wf hi ex Qt q
    · intro L acc k a H hL nL ha hp wf hi ex Qt q
      obtain ⟨v, hv, rv⟩ := reps_at r ha
      have e : xs.getD k .non = v := by simp [List.getD, hv]
      rw [e]
      exact he L acc k a v H hL nL ha hp ((rv.off hL).ex ex) wf hi ex Qt q
    · exact fun L ds H' hL a2 rp ex hi => hq _ ds H' a2 rp ex hi
  cases S with
  | lst a =>
    refine .inl ⟨a, rfl, ⟨xs, hS H1 (Ex.refl _)⟩, ?_⟩
    have w := walk_list (K := K) (a := a) (xs := xs)
    rw [hl] at w
    exact key w hS fun k H x H' y => y
  | tup a =>
    refine .inr (.inl ⟨a, rfl, ⟨xs, hS H1 (Ex.refl _)⟩, ?_⟩)
    have w := walk_tup (K := K) (a := a) (xs := xs)
    rw [hl] at w
    exact key w hS fun k H x H' y => y
  | txt z =>
    refine .inr (.inr ⟨z, rfl, ?_⟩)
    have hxs : xs = signs z := hS H1 (Ex.refl _)
    have w := walk_str (z := z)
    have hz : z.cps.size = as.length := by rw [← hl, hxs]; simp [signs]
    rw [hz] at w
    refine key w (fun _ _ => trivial) fun k H x H' y => ⟨y.1, ?_⟩
    obtain ⟨_, c, e1, e2⟩ := y
    rw [hxs, e2]
    simp [signs, e1]
/-- [e for x, y in zip(s, t) if ..] -/
theorem lc_zip {i j : Nat} {x1 x2 : V} {d1 d2 : D} (hw : Wf M I) (hI : I H1) (hx : Rep K M H1 x1 d1) (hd : d1.elems = some (as.map enc)) (hx2 : Rep K M H1 x2 d2) (hd2 : d2.elems = some (bs.map enc2)) (hlen : as.length ≤ sizeLine)
    (hwp : ∀ v w, wipe (((wipe σ vs).set i (some v)).set j (some w)) vs = wipe σ vs) (p : α × β → Bool) (P : α × β → D → Prop)
    (ht : ∀ (L : Addr) (acc : List V) (k : Nat) (a : α) (b : β) (v w : V) (H : Hp), H1 L = none → ¬ M L → as[k]? = some a → bs[k]? = some b → Rep K (Mq M L) H v (enc a) → Rep K (Mq M L) H w (enc2 b) → Wf (Mq M L) (Iq I L (.lst acc)) → Iq I L (.lst acc) H → Ex (Mq M L) H1 H →
      ∀ Qt : Bool → Hp → Prop, (∀ H3, Iq I L (.lst acc) H3 → Ex (Mq M L) H H3 → Qt (p (a, b)) H3) → tt (((wipe σ vs).set i (some v)).set j (some w)) H Qt)
    (he : ∀ (L : Addr) (acc : List V) (k : Nat) (a : α) (b : β) (v w : V) (H : Hp), H1 L = none → ¬ M L → as[k]? = some a → bs[k]? = some b → p (a, b) = true → Rep K (Mq M L) H v (enc a) → Rep K (Mq M L) H w (enc2 b) → Wf (Mq M L) (Iq I L (.lst acc)) → Iq I L (.lst acc) H → Ex (Mq M L) H1 H →
      ∀ Qe : VK, (∀ y d H4, P (a, b) d → Rep K (Mq M L) H4 y d → Iq I L (.lst acc) H4 → Ex (Mq M L) H H4 → Qe y H4) → te (((wipe σ vs).set i (some v)).set j (some w)) H Qe)
    (hq : ∀ y ds H', A2 P ((as.zip bs).filter p) ds → Rep K M H' y (.lst ds) → Ex M H1 H' → I H' → Q y H') : zipR K (LcR (gTup K 2 (gCons (gName i) (gCons (gName j) gNil))) tt te vs σ Q) [x1, x2] H1 := by
  obtain ⟨S1, xs, rfl, r, hS⟩ := src_of hx hd
  obtain ⟨S2, ys, rfl, r2, hS2⟩ := src_of hx2 hd2
  have hl := reps_len r
  have hl2 := reps_len r2
  refine ⟨S1, S2, xs, ys, rfl, hS _ (Ex.refl _), hS2 _ (Ex.refl _), ?_⟩
  have hz : (as.zip bs).length = min xs.length ys.length := by rw [List.length_zip, hl, hl2]
  have at_ : ∀ {k : Nat} {ab : α × β}, (as.zip bs)[k]? = some ab → as[k]? = some ab.1 ∧ bs[k]? = some ab.2 := fun {k ab} h => by
    obtain ⟨a, b⟩ := ab
    exact List.getElem?_zip_eq_some.mp h
  refine lc_any (K := K) (walk_zipS hz) hw hI p P (fun k _ => ((wipe σ vs).set i (some (xs.getD k .non))).set j (some (ys.getD k .non))) (fun H' e => ⟨hS H' e, hS2 H' e⟩) (by rw [List.length_zip]; omega) (fun k a ha => ?_) (fun k a => hwp _ _) ?_ ?_ ?_
  · exact bd_pair fun H x H' y => by
      obtain ⟨T, u, v, e1, e2, e3, e4, e5⟩ := y
      refine ⟨T, e1, e2, ?_⟩
      simp [List.getD, e4, e5, e3]
  · intro L acc k ab H hL nL ha wf hi ex Qt q
    obtain ⟨h1, h2⟩ := at_ ha
    obtain ⟨v, hv, rv⟩ := reps_at r h1
    obtain ⟨w, hv2, rv2⟩ := reps_at r2 h2
    have e : xs.getD k .non = v := by simp [List.getD, hv]
    have e2 : ys.getD k .non = w := by simp [List.getD, hv2]
    rw [e, e2]
    exact ht L acc k ab.1 ab.2 v w H hL nL h1 h2 ((rv.off hL).ex ex) ((rv2.off hL).ex ex) wf hi ex Qt q
  · intro L acc k ab H hL nL ha hp wf hi ex Qt q
    obtain ⟨h1, h2⟩ := at_ ha
    obtain ⟨v, hv, rv⟩ := reps_at r h1
    obtain ⟨w, hv2, rv2⟩ := reps_at r2 h2
    have e : xs.getD k .non = v := by simp [List.getD, hv]
    have e2 : ys.getD k .non = w := by simp [List.getD, hv2]
    rw [e, e2]
    exact he L acc k ab.1 ab.2 v w H hL nL h1 h2 hp ((rv.off hL).ex ex) ((rv2.off hL).ex ex) wf hi ex Qt q
  · exact fun L ds H' hL a2 rp ex hi => hq _ ds H' a2 rp ex hi
/-- [e for i, x in enumerate(s) if ..] -/
theorem lc_enum {i j : Nat} {x1 : V} {d1 : D} (hw : Wf M I) (hI : I H1) (hx : Rep K M H1 x1 d1) (hd : d1.elems = some (as.map enc)) (hlen : as.length ≤ sizeLine)
    (hwp : ∀ v w, wipe (((wipe σ vs).set i (some v)).set j (some w)) vs = wipe σ vs) (p : α × Nat → Bool) (P : α × Nat → D → Prop)
    (ht : ∀ (L : Addr) (acc : List V) (k : Nat) (a : α) (v : V) (H : Hp), H1 L = none → ¬ M L → as[k]? = some a → Rep K (Mq M L) H v (enc a) → Wf (Mq M L) (Iq I L (.lst acc)) → Iq I L (.lst acc) H → Ex (Mq M L) H1 H →
      ∀ Qt : Bool → Hp → Prop, (∀ H3, Iq I L (.lst acc) H3 → Ex (Mq M L) H H3 → Qt (p (a, k)) H3) → tt (((wipe σ vs).set i (some (.int (k : Nat)))).set j (some v)) H Qt)
    (he : ∀ (L : Addr) (acc : List V) (k : Nat) (a : α) (v : V) (H : Hp), H1 L = none → ¬ M L → as[k]? = some a → p (a, k) = true → Rep K (Mq M L) H v (enc a) → Wf (Mq M L) (Iq I L (.lst acc)) → Iq I L (.lst acc) H → Ex (Mq M L) H1 H →
      ∀ Qe : VK, (∀ y d H4, P (a, k) d → Rep K (Mq M L) H4 y d → Iq I L (.lst acc) H4 → Ex (Mq M L) H H4 → Qe y H4) → te (((wipe σ vs).set i (some (.int (k : Nat)))).set j (some v)) H Qe)
    (hq : ∀ y ds H', A2 P ((as.zipIdx).filter p) ds → Rep K M H' y (.lst ds) → Ex M H1 H' → I H' → Q y H') : enumR K (LcR (gTup K 2 (gCons (gName i) (gCons (gName j) gNil))) tt te vs σ Q) [x1] H1 := by
  obtain ⟨S1, xs, rfl, r, hS⟩ := src_of hx hd
  have hl := reps_len r
  refine ⟨S1, xs, rfl, hS _ (Ex.refl _), ?_⟩
  have w := walk_enumS (K := K) (S := S1) (xs := xs)
  rw [show xs.length = as.zipIdx.length by simp [hl]] at w
  have at_ : ∀ {k : Nat} {ab : α × Nat}, as.zipIdx[k]? = some ab → as[k]? = some ab.1 ∧ ab.2 = k := fun {k ab} h => by
    rw [List.getElem?_zipIdx] at h
    cases e : as[k]? with
    | none => rw [e] at h; cases h
    | some a => rw [e] at h; cases h; exact ⟨rfl, by simp⟩
  refine lc_any (K := K) w hw hI p P (fun k _ => ((wipe σ vs).set i (some (.int (k : Nat)))).set j (some (xs.getD k .non))) (fun H' e => hS H' e) (by simpa using hlen) (fun k a ha => ?_) (fun k a => hwp _ _) ?_ ?_ ?_
  · exact bd_pair fun H x H' y => by
      obtain ⟨T, u, v, e1, e2, e3, e4, e5⟩ := y
      refine ⟨T, e1, e2, ?_⟩
      cases e4
      simp [List.getD, e5, e3]
  · intro L acc k ab H hL nL ha wf hi ex Qt q
    obtain ⟨h1, h2⟩ := at_ ha
    obtain ⟨a, b⟩ := ab
    simp only at h1 h2
    subst h2
    obtain ⟨v, hv, rv⟩ := reps_at r h1
    have e : xs.getD b .non = v := by simp [List.getD, hv]
    rw [e]
    exact ht L acc b a v H hL nL h1 ((rv.off hL).ex ex) wf hi ex Qt q
  · intro L acc k ab H hL nL ha hp wf hi ex Qt q
    obtain ⟨h1, h2⟩ := at_ ha
    obtain ⟨a, b⟩ := ab
    simp only at h1 h2
    subst h2
    obtain ⟨v, hv, rv⟩ := reps_at r h1
    have e : xs.getD b .non = v := by simp [List.getD, hv]
    rw [e]
    exact he L acc b a v H hL nL h1 hp ((rv.off hL).ex ex) wf hi ex Qt q
  · exact fun L ds H' hL a2 rp ex hi => hq _ ds H' a2 rp ex hi
/-- [e for k in range(..) if ..] -/
theorem lc_rng {i : Nat} {lo : Int} {n : Nat} (hw : Wf M I) (hI : I H1) (hlen : n ≤ sizeLine) (hwp : ∀ v, wipe ((wipe σ vs).set i (some v)) vs = wipe σ vs) (p : Nat → Bool) (P : Nat → D → Prop)
    (ht : ∀ (L : Addr) (acc : List V) (k : Nat) (H : Hp), H1 L = none → ¬ M L → k < n → Wf (Mq M L) (Iq I L (.lst acc)) → Iq I L (.lst acc) H → Ex (Mq M L) H1 H →
      ∀ Qt : Bool → Hp → Prop, (∀ H3, Iq I L (.lst acc) H3 → Ex (Mq M L) H H3 → Qt (p k) H3) → tt ((wipe σ vs).set i (some (.int (lo + (k : Nat))))) H Qt)
    (he : ∀ (L : Addr) (acc : List V) (k : Nat) (H : Hp), H1 L = none → ¬ M L → k < n → p k = true → Wf (Mq M L) (Iq I L (.lst acc)) → Iq I L (.lst acc) H → Ex (Mq M L) H1 H →
      ∀ Qe : VK, (∀ y d H4, P k d → Rep K (Mq M L) H4 y d → Iq I L (.lst acc) H4 → Ex (Mq M L) H H4 → Qe y H4) → te ((wipe σ vs).set i (some (.int (lo + (k : Nat))))) H Qe)
    (hq : ∀ y ds H', A2 P ((List.range n).filter p) ds → Rep K M H' y (.lst ds) → Ex M H1 H' → I H' → Q y H') : LcR (gName i) tt te vs σ Q (Itr lo n) H1 := by
  have w := walk_range (lo := lo) (n := n)
  rw [show Walk (Itr lo n) n = Walk (Itr lo n) (List.range n).length by simp] at w
  have at_ : ∀ {k a : Nat}, (List.range n)[k]? = some a → k < n ∧ a = k := fun {k a} h => by
    have hk := (List.getElem?_eq_some_iff.mp h).1
    rw [List.length_range] at hk
    rw [List.getElem?_range hk] at h
    cases h
    exact ⟨hk, rfl⟩
  refine lc_any (K := K) w hw hI p P (fun k _ => (wipe σ vs).set i (some (.int (lo + (k : Nat))))) (fun _ _ => trivial) (by simpa using hlen) (fun k a ha => ?_) (fun k a => hwp _) ?_ ?_ ?_
  · exact bd_name fun H x H' y => y
  · intro L acc k a H hL nL ha wf hi ex Qt q
    obtain ⟨h1, rfl⟩ := at_ ha
    exact ht L acc a H hL nL h1 wf hi ex Qt q
  · intro L acc k a H hL nL ha hp wf hi ex Qt q
    obtain ⟨h1, rfl⟩ := at_ ha
    exact he L acc a H hL nL h1 hp wf hi ex Qt q
  · exact fun L ds H' hL a2 rp ex hi => hq _ ds H' a2 rp ex hi
/-! ### loops -/
theorem for_src {i : Nat} {x : V} {d : D} {tb : TS} {E : Ends} (hx : Rep K M H1 x d) (hd : d.elems = some (as.map enc)) (Pv : Nat → L2.St → Hp → Prop) (h0 : Pv 0 σ H1) (hG : ∀ k σ H, Pv k σ H → Ex M H1 H)
    (hs : ∀ k a v σ H, as[k]? = some a → Pv k σ H → Rep K M H v (enc a) → tb { E with nx := Pv (k + 1), ct := Pv (k + 1), bk := E.nx } (σ.set i (some v)) H) (hq : ∀ σ H, Pv as.length σ H → E.nx σ H) : srcR K (ForR (gName i) tb E σ) x H1 := by
  obtain ⟨S, xs, rfl, r, hS⟩ := src_of hx hd
  have hl := reps_len r
  have key : ∀ {J : It} {G : Hp → Prop} {Y : Nat → Hp → V → Hp → Prop}, L2.Walk J as.length G Y → (∀ H', Ex M H1 H' → G H') → (∀ k H x H', Y k H x H' → H' = H ∧ xs[k]? = some x) → ForR (gName i) tb E σ J H1 := fun {J G Y} w hG2 hY => by
    refine for_it w Pv h0 (fun k σ H _ h => hG2 _ (hG k σ H h)) (fun k x σ H H' hk h y => ?_) hq
    obtain ⟨rfl, e2⟩ := hY _ _ _ _ y
    have ha : as[k]? = some as[k] := by simp [hk]
    obtain ⟨v, hv, rv⟩ := reps_at r ha
    rw [hv] at e2
    cases e2
    exact hs k _ _ σ _ ha h (rv.ex (hG _ _ _ h))
  cases S with
  | lst a =>
    refine .inl ⟨a, rfl, ⟨xs, hS H1 (Ex.refl _)⟩, ?_⟩
    have w := walk_list (K := K) (a := a) (xs := xs)
    rw [hl] at w
    exact key w hS fun k H x H' y => y
  | tup a =>
    refine .inr (.inl ⟨a, rfl, ⟨xs, hS H1 (Ex.refl _)⟩, ?_⟩)
    have w := walk_tup (K := K) (a := a) (xs := xs)
    rw [hl] at w
    exact key w hS fun k H x H' y => y
  | txt z =>
    refine .inr (.inr ⟨z, rfl, ?_⟩)
    have hxs : xs = signs z := hS H1 (Ex.refl _)
    have w := walk_str (z := z)
    have hz : z.cps.size = as.length := by rw [← hl, hxs]; simp [signs]
    rw [hz] at w
    refine key w (fun _ _ => trivial) fun k H x H' y => ⟨y.1, ?_⟩
    obtain ⟨_, c, e1, e2⟩ := y
    rw [hxs, e2]
    simp [signs, e1]
theorem for_rng {i : Nat} {lo : Int} {n : Nat} {tb : TS} {E : Ends} (Pv : Nat → L2.St → Hp → Prop) (h0 : Pv 0 σ H1)
    (hs : ∀ k σ H, k < n → Pv k σ H → tb { E with nx := Pv (k + 1), ct := Pv (k + 1), bk := E.nx } (σ.set i (some (.int (lo + (k : Nat))))) H) (hq : ∀ σ H, Pv n σ H → E.nx σ H) : ForR (gName i) tb E σ (Itr lo n) H1 := by
  refine for_it walk_range Pv h0 (fun _ _ _ _ _ => trivial) (fun k x σ H H' hk h y => ?_) hq
  obtain ⟨rfl, rfl⟩ := y
  exact hs k σ _ hk h
end
end Nt

namespace Nt
open PySem PySem.Spec PyProof.Rows L2
/-! ### a def that keeps a promise -/
structure Df (P : Program) (w : World) (K : PySem.W.Frag) (mg : Str → Option Value) (base : Heap) (k : Nat) (x : Str) (ps : List Str) (dfl : List V) (sp : Sp) : Prop where
  mgx : mg x = some (.ref (He.ga K x))
  ok : ∃ fd, FnOk P w K mg base (L2.CX P w) k (He.ga K x) fd ps sp ∧ ∀ j, j ≤ dfl.length → ∃ ds, Vals (dfl.drop j) ds ∧ Binds K fd ps ds
  kp : PySem.W.keepIn K (.ref (He.ga K x)) = true
/-- where a def stands, and how it is bound: what the head tells -/
structure At (K : PySem.W.Frag) (mg : Str → Option Value) (x : Str) (st : Stmt) (ps : List Str) (dfl : List V) : Prop where
  mgx : mg x = some (.ref (He.ga K x))
  ex : ∃ fd, FunD K x x (defArgs st) (defBody st) (defScope st) dfl [] (He.ga K x) fd ∧ ∀ j, j ≤ dfl.length → ∃ ds, Vals (dfl.drop j) ds ∧ Binds K fd ps ds
section
variable {P : Program} {w : World} {K : PySem.W.Frag} {mg : Str → Option Value} {base : Heap} {k : Nat} {x : Str} {ps : List Str} {dfl : List V} {sp : Sp} {st : Stmt} {N : List Str}
/-- a def that raises nothing -/
theorem At.df (F : At K mg x st ps dfl) (S : FnScope N ps (defScope st)) (len : ∀ vs H Q E, sp vs H Q E → vs.length = ps.length)
    (hbody : ∀ (f : Addr) (cdv : Value) (A : Around) (outer : List Env) (s : Shared) (H : Hp) (vs : List V) (Q : VK) (E : XK), Room k (A.deeper (envOfC x (defScope st) s.heap.objs.size f cdv)) → sp vs H Q E →
      ∃ t, PSs (cxOf (L2.CX P w) P w K mg base N x (defScope st) f cdv A outer s H E).nox (defBody st) t ∧ t { nx := fun _ H' => Q .non H', rt := Q } (start N vs) H) : Df P w K mg base (k + 1) x ps dfl sp := by
  obtain ⟨fd, F1, F2⟩ := F.ex
  refine ⟨F.mgx, ⟨fd, F1.ok S len fun cdv A outer s H vs Q E hr h => ?_, F2⟩, F1.kp⟩
  obtain ⟨t, h1, h2⟩ := hbody _ cdv A outer s H vs Q E hr h
  exact ⟨t, h1.nox, h2⟩
theorem At.dfX (F : At K mg x st ps dfl) (S : FnScope N ps (defScope st)) (len : ∀ vs H Q E, sp vs H Q E → vs.length = ps.length)
    (hbody : ∀ (f : Addr) (cdv : Value) (A : Around) (outer : List Env) (s : Shared) (H : Hp) (vs : List V) (Q : VK) (E : XK), Room k (A.deeper (envOfC x (defScope st) s.heap.objs.size f cdv)) → sp vs H Q E →
      ∃ t, PSs (cxOf (L2.CX P w) P w K mg base N x (defScope st) f cdv A outer s H E) (defBody st) t ∧ t { nx := fun _ H' => Q .non H', rt := Q } (start N vs) H) : Df P w K mg base (k + 1) x ps dfl sp := by
  obtain ⟨fd, F1, F2⟩ := F.ex
  exact ⟨F.mgx, ⟨fd, F1.ok S len fun cdv A outer s H vs Q E hr h => hbody _ cdv A outer s H vs Q E hr h, F2⟩, F1.kp⟩
end
section
variable {X : Cx} {k : Nat} {x : Str} {ps : List Str} {dfl : List V} {sp : Sp} {e : Expr} {es : List Expr} {t : TA} {p pos : Pos}
/-- f(e, ..): what is not written comes from the defaults behind the first j -/
theorem pe_df (j : Nat) (G : Df X.prog X.w X.K X.mg X.base k x ps dfl sp) (hr : Room k X.A) (hg : Gl X x) (ha : PA X (e :: es) t) (hj : j ≤ dfl.length := by decide) (hdb : (x == ("__debug__" : Str)) = false := by decide)
    (he : starEach (e :: es) X.env = (false, eval e X.env) :: starEach es X.env := by rfl) (hpl : (backTo pos (starEach es X.env)).any (·.1) = false := by rfl) :
    PE X (.Call (.Name x p) (e :: es) [] pos) (tCall sp (dfl.drop j) E0 t) := by
  obtain ⟨fd, F, hb⟩ := G.ok
  obtain ⟨ds, hd, b⟩ := hb j hj
  exact pe_call F hr hg G.mgx G.kp b hd passL ha hdb he hpl
theorem pe_df0 (j : Nat) (G : Df X.prog X.w X.K X.mg X.base k x ps dfl sp) (hr : Room k X.A) (hg : Gl X x) (hj : j ≤ dfl.length := by decide) (hdb : (x == ("__debug__" : Str)) = false := by decide) :
    PE X (.Call (.Name x p) [] [] pos) (tCall sp (dfl.drop j) E0 tNil) := by
  obtain ⟨fd, F, hb⟩ := G.ok
  obtain ⟨ds, hd, b⟩ := hb j hj
  exact pe_call0 F hr hg G.mgx G.kp b hd passL hdb
end
/-! ### more universal operators -/
section
variable {X : Cx}
def rMulU : R2 := fun x y H Q => rI CMulW (fun i j => .int (i * j)) x y H Q ∨ rI CMul (fun i j => .int (i * j)) x y H Q ∨ rRepS x y H Q ∨ rRep x y H Q
theorem op_mulU : OpR X (binaryOp .Mult) rMulU := op_mulW.or (op_mul.or (op_repS.or op_rep))
def rEqU (K : PySem.W.Frag) : R2 := fun x y H Q => rEq x y H Q ∨ rEqD K x y H Q
theorem op_eqU (hu : X.A.units + 64 < cLine) : OpR X (compareOp .Eq) (rEqU X.K) := op_eq.or (op_eqD hu)
def rNeU (K : PySem.W.Frag) : R2 := fun x y H Q => rNe x y H Q ∨ rNeD K x y H Q
theorem op_neU (hu : X.A.units + 64 < cLine) : OpR X (compareOp .NotEq) (rNeU X.K) := op_ne.or (op_neD hu)
theorem units5 {k : Nat} {A : Around} (r : Room k A) : A.units + 65 < cLine := by have := r.un; omega
def rInU (K : PySem.W.Frag) : R2 := fun x y H Q => rInS x y H Q ∨ rIn K false x y H Q ∨ rInD K x y H Q
theorem op_inU (hv : X.A.units + 65 < cLine) : OpR X (compareOp .In) (rInU X.K) := op_inS.or (op_in_seq.or (op_inD hv))
def rNiU (K : PySem.W.Frag) : R2 := fun x y H Q => rNotInS x y H Q ∨ rIn K true x y H Q ∨ rNotInD K x y H Q
theorem op_niU (hv : X.A.units + 65 < cLine) : OpR X (compareOp .NotIn) (rNiU X.K) := op_notInS.or (op_notIn_seq.or (op_notInD hv))
theorem SlR.or {r r' : V → Option Int → Option Int → Hp → VK → Prop} (h : L2.SlR X r) (h' : L2.SlR X r') : L2.SlR X (fun x l u H Q => r x l u H Q ∨ r' x l u H Q) := by
  intro pins s σ H x v vl vu lo hi sl Q I rx hs pl pu z
  rcases z with z | z
  · exact h pins s σ H x v vl vu lo hi sl Q I rx hs pl pu z
  · exact h' pins s σ H x v vl vu lo hi sl Q I rx hs pl pu z
def rSlU (K : PySem.W.Frag) : V → Option Int → Option Int → Hp → VK → Prop := fun x l u H Q => rSlL K x l u H Q ∨ rSlA K x l u H Q ∨ rSlS x l u H Q
theorem sl_U : L2.SlR X (rSlU X.K) := SlR.or sl_list (SlR.or sl_tupA sl_str)
def rLen (K : PySem.W.Frag) : List V → Hp → VK → Prop := fun xs H Q => ∃ x n, xs = [x] ∧ LenV K x H n ∧ Q (.int n) H
theorem call_lenU : CallR X (.builtin "len") (rLen X.K) := call_len
def rInt1 : List V → Hp → VK → Prop := fun xs H Q => (∃ i, xs = [.int i] ∧ Q (.int i) H) ∨ ∃ k, xs = [.bl k] ∧ Q (.int (if k then 1 else 0)) H
theorem call_intU : CallR X (.type "int") rInt1 := call_int1
def rStr1 : List V → Hp → VK → Prop := fun xs H Q => ∃ i, xs = [.int i] ∧ i.natAbs.log2 < 1920 ∧ Q (.str (toString i)) H
theorem call_strU : CallR X (.type "str") rStr1 := call_str_int
def rListS (K : PySem.W.Frag) : List V → Hp → VK → Prop := fun xs H Q => ∃ p ys, xs = [.ref p] ∧ (SqL K H p ys ∨ SqT K H p ys) ∧ ∀ l, H l = none → Q (.ref l) (upd H l (.lst ys))
def rList1 (K : PySem.W.Frag) : List V → Hp → VK → Prop := fun xs H Q => rListS K xs H Q ∨ rListD xs H Q
theorem call_listU (hc : X.calm = true) : CallR X (.type "list") (rList1 X.K) := by
  intro pins s σ H xs us Q I r z
  rcases z with z | z
  · exact call_list_of pins s σ H xs us Q I r z
  · exact call_list_dK hc pins s σ H xs us Q I r z
def rTup1 (K : PySem.W.Frag) : List V → Hp → VK → Prop := fun xs H Q => ∃ p ys, xs = [.ref p] ∧ ((SqL K H p ys ∧ ∀ l, H l = none → Q (.ref l) (upd H l (.tup ys))) ∨ (SqT K H p ys ∧ Q (.ref p) H))
theorem call_tupU : CallR X (.type "tuple") (rTup1 X.K) := call_tuple_of
def rAbs : List V → Hp → VK → Prop := fun xs H Q => ∃ i, xs = [.int i] ∧ Q (.int (if i < 0 then -i else i)) H
theorem call_absU : CallR X (.builtin "abs") rAbs := call_abs
def rJoin (K : PySem.W.Frag) : V → List V → Hp → VK → Prop := fun x xs H Q => ∃ a p, ∃ ys : List Str, x = .str a ∧ xs = [.ref p] ∧ (SqL K H p (ys.map V.str) ∨ SqT K H p (ys.map V.str)) ∧ (ys.map (·.length)).sum + ys.length * a.length ≤ 16777216 ∧ Q (.str (Txt.join a ys)) H
theorem pe_joinU {o e : Expr} {to te : TE} {apos pos : Pos} (ho : PE X o to) (he : PE X e te) (hs : starEach [e] X.env = [(false, eval e X.env)] := by rfl) (hbase : attributeBase o "join" X.env (eval o X.env) = eval o X.env := by rfl) (hline : (apos.endLine == pos.line) = true := by rfl) :
    PE X (.Call (.Attribute o "join" apos) [e] [] pos) (tM1 (rJoin X.K) to te) := pe_join ho he hs hbase hline
theorem pt_tru {a : Expr} {ta : TE} (ha : PE X a ta) (he : ∀ whole, isTrue a X.env whole = (do let v ← whole; standAt a.pos; holding [v] (truthy v)) := by intro _; rfl) : PT X a (tTru X.K ta) := pt_truth ha he
end
end Nt

namespace Nt
open PySem PySem.Spec PyProof.Rows L2
section
variable {X : Cx}
def rSubU : R2 := rI0 fun i j => .int (i - j)
theorem op_subU : OpR X (binaryOp .Sub) rSubU := op_sub
def rDivU : R2 := rI CDivW fun i j => .int (i / j)
theorem op_divU : OpR X (binaryOp .FloorDiv) rDivU := op_fdivW
def rModU : R2 := rI (fun _ j => 0 < j) fun i j => .int (i % j)
theorem op_modU : OpR X (binaryOp .Mod) rModU := op_mod
def rPowU : R2 := rI CPow fun i j => .int (i ^ j.toNat)
theorem op_powU : OpR X (binaryOp .Pow) rPowU := op_pow
def rAndU : R2 := rI0 fun i j => .int (Builtin.bitAnd i j)
theorem op_andU : OpR X (binaryOp .BitAnd) rAndU := op_and
def rOrU : R2 := rI0 fun i j => .int (Builtin.bitOr i j)
theorem op_orU : OpR X (binaryOp .BitOr) rOrU := op_or
def rXorU : R2 := rI0 fun i j => .int (Builtin.bitXor i j)
theorem op_xorU : OpR X (binaryOp .BitXor) rXorU := op_xor
def rNegU : V → Hp → VK → Prop := rU fun i => .int (-i)
theorem un_negU : UnR X (unaryOp .USub) rNegU := un_neg
def rInvU : V → Hp → VK → Prop := rU fun i => .int (Builtin.bitNot i)
theorem un_invU : UnR X (unaryOp .Invert) rInvU := un_inv
def rLtU : R2 := rI0 fun i j => .bl (decide (i < j))
theorem op_ltU : OpR X (compareOp .Lt) rLtU := op_lt
def rLeU : R2 := rI0 fun i j => .bl (decide (i ≤ j))
theorem op_leU : OpR X (compareOp .LtE) rLeU := op_le
def rGtU : R2 := rI0 fun i j => .bl (decide (j < i))
theorem op_gtU : OpR X (compareOp .Gt) rGtU := op_gt
def rGeU : R2 := rI0 fun i j => .bl (decide (j ≤ i))
theorem op_geU : OpR X (compareOp .GtE) rGeU := op_ge
def rIsBU : R2 := fun x y H Q => ∃ a b : Bool, x = .bl a ∧ y = .bl b ∧ Q (.bl (decide (a = b))) H
theorem op_isBU : OpR X (compareOp .Is) rIsBU := op_isBl
def rNotBU : R2 := fun x y H Q => ∃ a b : Bool, x = .bl a ∧ y = .bl b ∧ Q (.bl (!decide (a = b))) H
theorem op_notBU : OpR X (compareOp .IsNot) rNotBU := op_notBl
theorem pe_strT {x : Str} {l : List Nat} {j : Nat} {pos : Pos} (h : x = T l) : PE X (.Constant (.str x) j pos) (tC (.str (T l))) := by
  subst h
  exact pe_str
theorem pe_globS {x : Str} {z : Str} {pos : Pos} (hg : Gl X x) (h : ∃ t, X.mg x = some (.str z t)) (hd : (x == ("__debug__" : Str)) = false := by decide) : PE X (.Name x pos) (tC (.str z)) := by
  obtain ⟨t, h⟩ := h
  exact pe_glob hg h ⟨t, rfl⟩ hd
theorem pe_globI {x : Str} {z : Int} {pos : Pos} (hg : Gl X x) (h : ∃ t, X.mg x = some (.int z t)) (hd : (x == ("__debug__" : Str)) = false := by decide) : PE X (.Name x pos) (tC (.int z)) := by
  obtain ⟨t, h⟩ := h
  exact pe_glob hg h ⟨t, rfl⟩ hd
def rCount : V → List V → Hp → VK → Prop := fun x xs H Q => ∃ a b, x = .str a ∧ xs = [.str b] ∧ Q (.int (Txt.count a b)) H
theorem pe_countU {o e : Expr} {to te : TE} {apos pos : Pos} (ho : PE X o to) (he : PE X e te) (hs : starEach [e] X.env = [(false, eval e X.env)] := by rfl) (hbase : attributeBase o "count" X.env (eval o X.env) = eval o X.env := by rfl) (hline : (apos.endLine == pos.line) = true := by rfl) :
    PE X (.Call (.Attribute o "count" apos) [e] [] pos) (tM1 rCount to te) := pe_m1 F.slot_str_count F.type_str_count mt_count ho he hs hbase hline
def rMax : List V → Hp → VK → Prop := fun xs H Q => ∃ i j, xs = [.int i, .int j] ∧ Q (.int (if j > i then j else i)) H
theorem call_maxU (hc : X.calm = true) : CallR X (.builtin "max") rMax := call_max2 hc
end
end Nt

namespace Nt
open PySem PySem.Spec PyProof.Rows L2
/-- int of a whole number, a bool or a text -/
def rIntA : List V → Hp → VK → Prop := fun xs H Q => rInt1 xs H Q ∨ ∃ a n, xs = [.str a] ∧ PySem.intText? a = some n ∧ a.length ≤ 640 ∧ Q (.int n) H
theorem call_intA {X : Cx} : CallR X (.type "int") rIntA := call_intU.or call_int_str
end Nt

namespace Nt
open PySem PySem.Spec PyProof.Rows L2
/-! ### readings, step by step -/
def TupK (Q : VK) : List V → Hp → Prop := fun xs H1 => xs.length ≤ sizeLine ∧ ∀ p, H1 p = none → Q (.ref p) (upd H1 p (.tup xs))
def LstK (Q : VK) : List V → Hp → Prop := fun xs H1 => xs.length ≤ sizeLine ∧ ∀ p, H1 p = none → Q (.ref p) (upd H1 p (.lst xs))
def RevK (K : PySem.W.Frag) (Q : VK) : V → Hp → Prop := fun x H1 => ∃ a xs, x = .ref a ∧ SqL K H1 a xs ∧ ∀ p, H1 p = none → Q (.ref p) (upd H1 p (.lst xs.reverse))
section
variable {K : PySem.W.Frag} {M : Addr → Prop} {I : Hp → Prop} {σ : L2.St} {H : Hp} {Q : VK} {QT : Bool → Hp → Prop} {QA : List V → Hp → Prop} {QO : Option Int → Hp → Prop} {v x y : V} {ta tb tc : TE} {t u : TT} {a b : TA} {E : Ends} {s1 s2 : TS} {r r' : R2} {i j k : Int} {l m : List Nat} {c : Bool}
theorem sx_var {n : Nat} (h : σ[n]? = some (some v)) (q : Q v H) : tVar n σ H Q := ⟨v, h, q⟩
theorem sx_c (q : Q v H) : tC v σ H Q := q
theorem sx_op (h : ta σ H fun x H1 => tb σ H1 fun y H2 => r x y H2 Q) : tOp r ta tb σ H Q := h
theorem sx_un {r : V → Hp → VK → Prop} (h : ta σ H fun x H1 => r x H1 Q) : tUn r ta σ H Q := h
theorem sx_if (h : t σ H fun c H1 => if c = true then ta σ H1 Q else tb σ H1 Q) : tIf t ta tb σ H Q := h
theorem sx_andV (h : ta σ H fun x H1 => ∃ c, x = .bl c ∧ if c = true then tb σ H1 Q else Q (.bl false) H1) : tAndV ta tb σ H Q := h
theorem sx_orV (h : ta σ H fun x H1 => ∃ c, x = .bl c ∧ if c = true then Q (.bl true) H1 else tb σ H1 Q) : tOrV ta tb σ H Q := h
theorem sx_notV (h : ta σ H fun x H1 => ∃ c, x = .bl c ∧ Q (.bl (!c)) H1) : tNotV ta σ H Q := h
theorem sx_chain (h : ta σ H fun x H1 => tb σ H1 fun y H2 => r x y H2 fun z H3 => ∃ k, z = .bl k ∧ if k = true then tc σ H3 (fun w H4 => r' y w H4 Q) else Q (.bl false) H3) : tChain r r' ta tb tc σ H Q := h
theorem sx_call {sp : Sp} {d : List V} {X : XK} (h : a σ H fun vs H1 => sp (vs ++ d) H1 Q X) : tCall sp d X a σ H Q := h
theorem sx_cb {r : List V → Hp → VK → Prop} (h : a σ H fun vs H1 => r vs H1 Q) : tCB r a σ H Q := h
theorem sx_m1 {r : V → List V → Hp → VK → Prop} (h : ta σ H fun x H1 => (∃ a, x = .str a) ∧ tb σ H1 fun y H2 => r x [y] H2 Q) : tM1 r ta tb σ H Q := h
theorem sx_bm {r : V → List V → Hp → VK → Prop} {T : String} (h : ta σ H fun x H1 => tyV K T x H1 ∧ a σ H1 fun xs H2 => r x xs H2 Q) : tBM K T r ta a σ H Q := h
theorem sx_bm0 {r : V → List V → Hp → VK → Prop} {T : String} (h : ta σ H fun x H1 => tyV K T x H1 ∧ r x [] H1 Q) : tBM0 K T r ta σ H Q := h
theorem sx_sl {r : V → Option Int → Option Int → Hp → VK → Prop} {tl th : TO} (h : ta σ H fun x H1 => tl σ H1 fun l H2 => th σ H2 fun u H3 => r x l u H3 Q) : tSl r ta tl th σ H Q := h
theorem sx_nopart (h : QO none H) : tNoPart σ H QO := h
theorem sx_part (h : ta σ H fun x H1 => ∃ i, x = .int i ∧ QO (some i) H1) : tPart ta σ H QO := h
theorem sx_nil (h : QA [] H) : tNil σ H QA := h
theorem sx_cons (h : ta σ H fun x H1 => a σ H1 fun xs H2 => QA (x :: xs) H2) : tCons ta a σ H QA := h
theorem sx_tb (h : ta σ H fun x H1 => ∃ c, x = .bl c ∧ QT c H1) : tB ta σ H QT := h
theorem sx_tt (h : ta σ H fun x H1 => ∃ c, x = .bl c ∧ QT c H1) : tTest ta σ H QT := h
theorem sx_and (h : t σ H fun c H1 => if c = true then u σ H1 QT else QT false H1) : tAnd t u σ H QT := h
theorem sx_or (h : t σ H fun c H1 => if c = true then QT true H1 else u σ H1 QT) : tOr t u σ H QT := h
theorem sx_not (h : t σ H fun c H1 => QT (!c) H1) : tNot t σ H QT := h
theorem sx_tru (h : ta σ H fun x H' => ∃ k, TruV K x H' k ∧ QT k H') : L2.tTru K ta σ H QT := h
theorem sx_yes (h : QT true H) : tYes σ H QT := h
theorem sx_next (h : E.nx σ H) : tNext E σ H := h
theorem sx_seq (h : s1 { E with nx := s2 E } σ H) : tSeq s1 s2 E σ H := h
theorem sx_brk (h : E.bk σ H) : tBreak E σ H := h
theorem sx_cnt (h : E.ct σ H) : tCont E σ H := h
theorem sx_drop (h : ta σ H fun _ H1 => E.nx σ H1) : tDrop ta E σ H := h
theorem sx_ret (h : ta σ H E.rt) : tRet ta E σ H := h
theorem sx_retN (h : E.rt .non H) : tRetN E σ H := h
theorem sx_ifS (h : t σ H fun b H1 => if b = true then s1 E σ H1 else s2 E σ H1) : tIfS t s1 s2 E σ H := h
theorem sx_asg {g : TG} (h : ta σ H fun x H1 => g x σ H1 E.nx) : tAsg ta g E σ H := h
theorem sx_par {n o : Nat} (h : a σ H fun vs H1 => ∃ v w, vs = [v, w] ∧ E.nx ((σ.set n (some v)).set o (some w)) H1) : tPar n o a E σ H := h
theorem sx_par3 {n o p : Nat} (h : a σ H fun vs H1 => ∃ u v w, vs = [u, v, w] ∧ E.nx (((σ.set n (some u)).set o (some v)).set p (some w)) H1) : tPar3 n o p a E σ H := h
theorem sx_rng1 {R : It → Hp → Prop} (h : a σ H fun vs H1 => ∃ j : Int, vs = [.int j] ∧ -(2 ^ 62) ≤ j ∧ j < 2 ^ 62 ∧ R (Itr 0 j.toNat) H1) : iRng1 a σ H R := h
theorem sx_rng2 {R : It → Hp → Prop} (h : a σ H fun vs H1 => ∃ i j : Int, vs = [.int i, .int j] ∧ (-(2 ^ 62) ≤ i ∧ i < 2 ^ 62 ∧ -(2 ^ 62) ≤ j ∧ j < 2 ^ 62) ∧ R (Itr i (j - i).toNat) H1) : iRng2 a σ H R := h
theorem gs_name {n : Nat} {G : L2.St → Hp → Prop} (h : G (σ.set n (some v)) H) : gName n v σ H G := h
theorem gs_sub {G : L2.St → Hp → Prop} {f : TSet} (h : ta σ H fun o H1 => tb σ H1 fun i H2 => f o i v H2 fun H3 => G σ H3) : gSub ta tb f v σ H G := h
/-- a tuple is taken apart -/
theorem gs_pair {n o : Nat} {G : L2.St → Hp → Prop} {d e : D} (h : Rep K M H v (.tup [d, e])) (q : ∀ x y, Rep K M H x d → Rep K M H y e → G ((σ.set n (some x)).set o (some y)) H) : gTup K 2 (gCons (gName n) (gCons (gName o) gNil)) v σ H G := by
  cases h with
  | tup h n r => cases r with
    | cons r1 r2 => cases r2 with
      | cons r2 r3 => cases r3; exact ⟨_, _, rfl, SqT.of h, rfl, _, _, rfl, _, _, rfl, rfl, q _ _ r1 r2⟩
theorem ex_b {b : Bool} {Z : Bool → Prop} (q : Z b) : ∃ c, V.bl b = .bl c ∧ Z c := ⟨b, rfl, q⟩
theorem ex_i {b : Int} {Z : Int → Prop} (q : Z b) : ∃ c, V.int b = .int c ∧ Z c := ⟨b, rfl, q⟩
theorem ex_s {b : Str} {Z : Prop} (q : Z) : (∃ a, V.str b = .str a) ∧ Z := ⟨⟨b, rfl⟩, q⟩
theorem ex_2 {Z : V → V → Prop} (q : Z x y) : ∃ v w, [x, y] = [v, w] ∧ Z v w := ⟨x, y, rfl, q⟩
theorem ex_3 {z : V} {Z : V → V → V → Prop} (q : Z x y z) : ∃ u v w, [x, y, z] = [u, v, w] ∧ Z u v w := ⟨x, y, z, rfl, q⟩
/-! values -/
theorem add_ii (q : Q (.int (i + j)) H) : rAddU K (.int i) (.int j) H Q := .inl ⟨i, j, rfl, rfl, q⟩
theorem add_TT (h : l.length + m.length ≤ sizeLine) (q : Q (.str (T (l ++ m))) H) : rAddU K (.str (T l)) (.str (T m)) H Q := .inr (.inl ⟨_, _, rfl, rfl, by rw [T_len, T_len]; exact h, by rw [T_app]; exact q⟩)
theorem add_LL {ds es : List D} (hw : Wf M I) (hI : I H) (hx : Rep K M H x (.lst ds)) (hy : Rep K M H y (.lst es)) (h : ds.length + es.length ≤ sizeLine) (q : ∀ v H', Ex M H H' → I H' → Rep K M H' v (.lst (ds ++ es)) → Q v H') : rAddU K x y H Q := by
  cases hx with
  | lst h1 n1 r1 => cases hy with
    | lst h2 n2 r2 =>
      refine .inr (.inr (.inl ⟨_, _, _, _, rfl, rfl, h1, h2, by rw [r1.length, r2.length]; exact h, fun p hp => ?_⟩))
      exact q _ _ (Ex.of (same_upd hp)) (hw.same (same_upd hp) hI) (.lst upd_same (hw.fresh hI hp) ((r1.append r2).same (same_upd hp)))
theorem sub_ii (q : Q (.int (i - j)) H) : rSubU (.int i) (.int j) H Q := ⟨i, j, rfl, rfl, q⟩
theorem mul_ii (h : CMulW i j) (q : Q (.int (i * j)) H) : rMulU (.int i) (.int j) H Q := .inl ⟨i, j, rfl, rfl, h, q⟩
theorem mul_Ti {n : Nat} (h1 : n ≤ 100000) (h2 : l.length ≤ 100) (q : Q (.str (T (List.replicate n l).flatten)) H) : rMulU (.str (T l)) (.int (n : Nat)) H Q := .inr (.inr (.inl ⟨_, _, rfl, rfl, by omega, by omega, by rw [T_len]; exact h2, by simpa [T_cps] using q⟩))
theorem mul_s (h : CMul i j) (q : Q (.int (i * j)) H) : rMulU (.int i) (.int j) H Q := .inr (.inl ⟨i, j, rfl, rfl, h, q⟩)
theorem div_ii (h : CDivW i j) (q : Q (.int (i / j)) H) : rDivU (.int i) (.int j) H Q := ⟨i, j, rfl, rfl, h, q⟩
theorem mod_ii (h : 0 < j) (q : Q (.int (i % j)) H) : rModU (.int i) (.int j) H Q := ⟨i, j, rfl, rfl, h, q⟩
theorem pow_ii (h : CPow i j) (q : Q (.int (i ^ j.toNat)) H) : rPowU (.int i) (.int j) H Q := ⟨i, j, rfl, rfl, h, q⟩
theorem neg_i (q : Q (.int (-i)) H) : rNegU (.int i) H Q := ⟨i, rfl, q⟩
theorem lt_ii (q : Q (.bl (decide (i < j))) H) : rLtU (.int i) (.int j) H Q := ⟨i, j, rfl, rfl, q⟩
theorem le_ii (q : Q (.bl (decide (i ≤ j))) H) : rLeU (.int i) (.int j) H Q := ⟨i, j, rfl, rfl, q⟩
theorem gt_ii (q : Q (.bl (decide (j < i))) H) : rGtU (.int i) (.int j) H Q := ⟨i, j, rfl, rfl, q⟩
theorem ge_ii (q : Q (.bl (decide (j ≤ i))) H) : rGeU (.int i) (.int j) H Q := ⟨i, j, rfl, rfl, q⟩
theorem dec_congr {p q : Prop} [Decidable p] [Decidable q] (h : p ↔ q) : decide p = decide q := by simp [h]
theorem eq_ii (q : Q (.bl (decide (i = j))) H) : rEqU K (.int i) (.int j) H Q := .inl ⟨rfl, by
  have e : decide (V.int i = V.int j) = decide (i = j) := dec_congr ⟨fun e => by cases e; rfl, fun e => by rw [e]⟩
  rw [e]; exact q⟩
theorem eq_TT (q : Q (.bl (decide (l = m))) H) : rEqU K (.str (T l)) (.str (T m)) H Q := .inl ⟨rfl, by
  have e : decide (V.str (T l) = V.str (T m)) = decide (l = m) := dec_congr ⟨fun e => by injection e with e; exact T_inj e, fun e => by rw [e]⟩
  rw [e]; exact q⟩
theorem eq_bb {p q' : Bool} (q : Q (.bl (decide (p = q'))) H) : rEqU K (.bl p) (.bl q') H Q := .inl ⟨rfl, by
  have e : decide (V.bl p = V.bl q') = decide (p = q') := dec_congr ⟨fun e => by cases e; rfl, fun e => by rw [e]⟩
  rw [e]; exact q⟩
theorem ne_ii (q : Q (.bl (!decide (i = j))) H) : rNeU K (.int i) (.int j) H Q := .inl ⟨rfl, by
  have e : decide (V.int i = V.int j) = decide (i = j) := dec_congr ⟨fun e => by cases e; rfl, fun e => by rw [e]⟩
  rw [e]; exact q⟩
theorem ne_TT (q : Q (.bl (!decide (l = m))) H) : rNeU K (.str (T l)) (.str (T m)) H Q := .inl ⟨rfl, by
  have e : decide (V.str (T l) = V.str (T m)) = decide (l = m) := dec_congr ⟨fun e => by injection e with e; exact T_inj e, fun e => by rw [e]⟩
  rw [e]; exact q⟩
theorem ne_bb {p q' : Bool} (q : Q (.bl (!decide (p = q'))) H) : rNeU K (.bl p) (.bl q') H Q := .inl ⟨rfl, by
  have e : decide (V.bl p = V.bl q') = decide (p = q') := dec_congr ⟨fun e => by cases e; rfl, fun e => by rw [e]⟩
  rw [e]; exact q⟩
theorem in_1T {z : Nat} (q : Q (.bl (decide (z ∈ l))) H) : rInU K (.str (T [z])) (.str (T l)) H Q := .inl ⟨z, T l, rfl, rfl, q⟩
theorem ni_1T {z : Nat} (q : Q (.bl (!decide (z ∈ l))) H) : rNiU K (.str (T [z])) (.str (T l)) H Q := .inl ⟨z, T l, rfl, rfl, q⟩
theorem isN_v (q : Q (.bl (decide (v = .non))) H) : rIsN v .non H Q := ⟨rfl, q⟩
theorem notN_v (q : Q (.bl (!decide (v = .non))) H) : rNotN v .non H Q := ⟨rfl, q⟩
theorem isB_b {p q' : Bool} (q : Q (.bl (decide (p = q'))) H) : rIsBU (.bl p) (.bl q') H Q := ⟨_, _, rfl, rfl, q⟩
theorem notB_b {p q' : Bool} (q : Q (.bl (!decide (p = q'))) H) : rNotBU (.bl p) (.bl q') H Q := ⟨_, _, rfl, rfl, q⟩
/-! displays, lists, lengths, items -/
theorem sx_tup (hw : Wf M I) (h : a σ H fun xs H1 => I H1 ∧ ∃ ds, Reps K M H1 xs ds ∧ ds.length ≤ sizeLine ∧ ∀ v H', Ex M H1 H' → I H' → Rep K M H' v (.tup ds) → Q v H')
    (mono : ∀ A B : List V → Hp → Prop, (∀ xs H1, A xs H1 → B xs H1) → a σ H A → a σ H B) : tTup a σ H Q := by
  refine mono _ _ ?_ h
  rintro xs H1 ⟨hI, ds, r, hz, q⟩
  refine ⟨by rw [r.length]; exact hz, fun p hp => ?_⟩
  have e := same_upd (o := .tup xs) hp
  exact q _ _ (Ex.of e) (hw.same e hI) (.tup upd_same (hw.fresh hI hp) (r.same e))
theorem tup_end {xs : List V} {ds : List D} (hw : Wf M I) (hI : I H) (r : Reps K M H xs ds) (hz : ds.length ≤ sizeLine) (q : ∀ v H', Ex M H H' → I H' → Rep K M H' v (.tup ds) → Q v H') : TupK Q xs H := by
  refine ⟨by rw [r.length]; exact hz, fun p hp => ?_⟩
  have e := same_upd (o := .tup xs) hp
  exact q _ _ (Ex.of e) (hw.same e hI) (.tup upd_same (hw.fresh hI hp) (r.same e))
theorem lst_end {xs : List V} {ds : List D} (hw : Wf M I) (hI : I H) (r : Reps K M H xs ds) (hz : ds.length ≤ sizeLine) (q : ∀ v H', Ex M H H' → I H' → Rep K M H' v (.lst ds) → Q v H') : LstK Q xs H := by
  refine ⟨by rw [r.length]; exact hz, fun p hp => ?_⟩
  have e := same_upd (o := .lst xs) hp
  exact q _ _ (Ex.of e) (hw.same e hI) (.lst upd_same (hw.fresh hI hp) (r.same e))
/-- a list that will change: its world -/
theorem lst_mut {xs : List V} (hw : Wf M I) (hI : I H) (hz : xs.length ≤ sizeLine) (q : ∀ p H', H p = none → ¬ M p → Ex (Mq M p) H H' → Wf (Mq M p) (Iq I p (.lst xs)) → Iq I p (.lst xs) H' → Q (.ref p) H') : LstK Q xs H := by
  refine ⟨hz, fun p hp => ?_⟩
  have e := same_upd (o := .lst xs) hp
  exact q _ _ hp (hw.fresh hI hp) (Ex.of e) (hw.add _ _) ⟨hw.same e hI, upd_same⟩
theorem sx_tup0 (h : a σ H (TupK Q)) : tTup a σ H Q := h
theorem sx_lst0 (h : a σ H (LstK Q)) : tLst a σ H Q := h
theorem len_T (h : l.length ≤ sizeLine) (q : Q (.int (l.length : Nat)) H) : rLen K [.str (T l)] H Q := ⟨_, _, rfl, ⟨by rw [T_len]; exact h, rfl⟩, by rw [T_len]; exact q⟩
theorem len_R {d : D} {ds : List D} (hx : Rep K M H x d) (hd : d = .lst ds ∨ d = .tup ds) (q : Q (.int (ds.length : Nat)) H) : rLen K [x] H Q := by
  rcases hd with rfl | rfl
  · cases hx with
    | lst h n r => exact ⟨_, _, rfl, .inl ⟨_, SqL.of h, rfl⟩, by rw [r.length]; exact q⟩
  · cases hx with
    | tup h n r => exact ⟨_, _, rfl, .inr ⟨_, SqT.of h, rfl⟩, by rw [r.length]; exact q⟩
theorem atI_nat' {α : Type} {xs : List α} {n : Nat} {a : α} (h : xs[n]? = some a) : atI xs (n : Nat) = some a := by
  have hn := (List.getElem?_eq_some_iff.mp h).1
  unfold atI ixN
  rw [if_pos (by omega), if_pos (by omega)]
  simpa using h
theorem ix_T {n : Nat} {z : Nat} (hl : l.length ≤ sizeLine) (h : l[n]? = some z) (q : Q (.str (T [z])) H) : rIx K (.str (T l)) (.int (n : Nat)) H Q := .inr (.inr ⟨T l, _, z, rfl, rfl, by rw [T_len]; exact hl, by rw [T_cps]; exact atI_nat' h, q⟩)
theorem ix_R {d e : D} {ds : List D} {n : Nat} (hx : Rep K M H x d) (hd : d = .lst ds ∨ d = .tup ds) (h : ds[n]? = some e) (q : ∀ v, Rep K M H v e → Q v H) : rIx K x (.int (n : Nat)) H Q := by
  rcases hd with rfl | rfl
  · cases hx with
    | lst h1 n1 r =>
      obtain ⟨v, hv, rv⟩ := r.get h
      exact .inl ⟨_, _, _, v, rfl, rfl, SqL.of h1, atI_nat' hv, q v rv⟩
  · cases hx with
    | tup h1 n1 r =>
      obtain ⟨v, hv, rv⟩ := r.get h
      exact .inr (.inl ⟨_, _, _, v, rfl, rfl, SqT.of h1, atI_nat' hv, q v rv⟩)
theorem sIx_0 {n : Nat} : HT.sIx n 0 none = 0 := rfl
theorem sl_Tto {n : Nat} (hl : l.length ≤ sizeLine) (q : Q (.str (T (l.take n))) H) : rSlU K (.str (T l)) none (some (n : Nat)) H Q := .inr (.inr ⟨T l, rfl, by rw [T_len]; exact hl, by
  unfold cutS
  rw [HT.sIx_none, HT.sIx_nat, T_cps, T_len]
  simp only [List.drop_zero, Nat.sub_zero]
  have e : l.take (min n l.length) = l.take n := by
    by_cases h : n ≤ l.length
    · rw [Nat.min_eq_left h]
    · rw [Nat.min_eq_right (by omega), List.take_of_length_le (Nat.le_refl _), List.take_of_length_le (by omega)]
  rw [e]; exact q⟩)
theorem sl_Tfrom {n : Nat} (hl : l.length ≤ sizeLine) (q : Q (.str (T (l.drop n))) H) : rSlU K (.str (T l)) (some (n : Nat)) none H Q := .inr (.inr ⟨T l, rfl, by rw [T_len]; exact hl, by
  unfold cutS
  rw [HT.sIx_none, HT.sIx_nat, T_cps, T_len]
  have e : (l.drop (min n l.length)).take (l.length - min n l.length) = l.drop n := by
    by_cases h : n ≤ l.length
    · rw [Nat.min_eq_left h, List.take_of_length_le (by simp)]
    · rw [Nat.min_eq_right (by omega), List.drop_of_length_le (Nat.le_refl _), List.drop_of_length_le (by omega)]; simp
  rw [e]; exact q⟩)
theorem join_nil {yss : List Str} : Txt.join (T []) yss = T (yss.map fun y => y.cps.toList).flatten := by
  have h0 : Txt.join (T []) yss = Str.join (T []) yss := eq_of_beq (PyProof.Rows.join_plain_closes (T []) yss)
  have h := TL.tl_join (T []) yss
  have e : ∀ ps : List (List Nat), TL.joinL [] ps = ps.flatten := by
    intro ps
    induction ps with
    | nil => rfl
    | cons p ps ih => cases ps with
      | nil => simp [TL.joinL]
      | cons q r => simp only [TL.joinL, List.nil_append]; rw [ih]; rfl
  have h2 : (Str.join (T []) yss).cps.toList = (yss.map fun y => y.cps.toList).flatten := Eq.trans h (e _)
  rw [h0]
  show (⟨(Str.join (T []) yss).cps⟩ : Str) = _
  unfold T at *
  congr 1
  exact Array.toList_inj.mp (by rw [h2])
/-- ''.join of a list of texts -/
theorem join_R {ls : List (List Nat)} (hx : Rep K M H x (.lst (ls.map fun l => .str (T l)))) (h : (ls.map (·.length)).sum ≤ 16777216) (q : Q (.str (T ls.flatten)) H) : rJoin K (.str (T [])) [x] H Q := by
  cases hx with
  | lst h1 n1 r =>
    have e := Reps.scal_inv (f := fun l => V.str (T l)) (fun a v h => rep_str h) r
    subst e
    have hl0 : (T []).length = 0 := rfl
    refine ⟨T [], _, ls.map T, rfl, rfl, .inl (SqL.of (by rw [h1]; simp)), ?_, ?_⟩
    · rw [hl0, Nat.mul_zero, Nat.add_zero, List.map_map]
      have : (List.map ((fun x => x.length) ∘ T) ls) = ls.map (·.length) := by
        apply List.map_congr_left; intro a _; exact T_len a
      rw [this]; exact h
    · rw [join_nil, List.map_map]
      have : (List.map ((fun y : Str => y.cps.toList) ∘ T) ls) = ls := by
        rw [show ((fun y : Str => y.cps.toList) ∘ T) = id from rfl]; simp
      rw [this]; exact q
theorem all_R {bs : List Bool} (hx : Rep K M H x (.lst (bs.map .bl))) (q : Q (.bl (bs.all id)) H) : rAll K [x] H Q := by
  cases hx with
  | lst h1 n1 r =>
    have e := Reps.scal_inv (f := V.bl) (fun a v h => rep_bl h) r
    subst e
    exact ⟨_, bs, rfl, SqL.of h1, q⟩
theorem tru_R {ds : List D} (hx : Rep K M H x (.lst ds)) (q : QT (!ds.isEmpty) H) : ∃ k, TruV K x H k ∧ QT k H := by
  cases hx with
  | lst h1 n1 r =>
    refine ⟨_, .inl ⟨_, SqL.of h1, rfl⟩, ?_⟩
    have e := r.length
    cases r with
    | nil => exact q
    | cons _ _ => exact q
theorem list_R {d : D} {ds : List D} (hw : Wf M I) (hI : I H) (hx : Rep K M H x d) (hd : d = .lst ds ∨ d = .tup ds) (q : ∀ v H', Ex M H H' → I H' → Rep K M H' v (.lst ds) → Q v H') : rList1 K [x] H Q := by
  have key : ∀ {p : Addr} {xs : List V}, Reps K M H xs ds → H p = none → Q (.ref p) (upd H p (.lst xs)) := fun {p xs} r hp => by
    have e := same_upd (o := .lst xs) hp
    exact q _ _ (Ex.of e) (hw.same e hI) (.lst upd_same (hw.fresh hI hp) (r.same e))
  rcases hd with rfl | rfl
  · cases hx with
    | lst h n r => exact .inl ⟨_, _, rfl, .inl (SqL.of h), fun p hp => key r hp⟩
  · cases hx with
    | tup h n r => exact .inl ⟨_, _, rfl, .inr (SqT.of h), fun p hp => key r hp⟩
theorem rev_R {ds : List D} (hw : Wf M I) (hI : I H) (hx : Rep K M H x (.lst ds)) (q : ∀ v H', Ex M H H' → I H' → Rep K M H' v (.lst ds.reverse) → Q v H') : RevK K Q x H := by
  cases hx with
  | lst h n r =>
    refine ⟨_, _, rfl, SqL.of h, fun p hp => ?_⟩
    exact q _ _ (Ex.of (same_upd hp)) (hw.same (same_upd hp) hI) (.lst upd_same (hw.fresh hI hp) (r.reverse.same (same_upd hp)))
theorem sx_rev (h : ta σ H (RevK K Q)) : tRevL K ta σ H Q := h
end
theorem ifT {A B : Prop} (h : A) : if true = true then A else B := by rw [if_pos rfl]; exact h
theorem ifF {A B : Prop} (h : B) : if false = true then A else B := by rw [if_neg Bool.false_ne_true]; exact h
theorem ifB {b : Bool} {A B : Prop} (h1 : b = true → A) (h2 : b = false → B) : if b = true then A else B := by
  cases b
  · rw [if_neg Bool.false_ne_true]; exact h2 rfl
  · rw [if_pos rfl]; exact h1 rfl
end Nt
namespace Nt
open PySem PySem.Spec PyProof.Rows L2
/-- isinstance of a value whose type shows -/
inductive TyD : D → String → Prop
  | non : TyD .non "NoneType"
  | bl (b : Bool) : TyD (.bl b) "bool"
  | int (i : Int) : TyD (.int i) "int"
  | str (z : Str) : TyD (.str z) "str"
  | lst (l : List D) : TyD (.lst l) "list"
  | tup (l : List D) : TyD (.tup l) "tuple"
  | dct (l : List (Key × D)) : TyD (.dct l) "dict"
theorem tyx_of {K : PySem.W.Frag} {M : Addr → Prop} {H : Hp} {x : V} {d : D} {t : String} (h : Rep K M H x d) (ht : TyD d t) : TyX K H x (.type t) := by
  cases ht <;> cases h
  · exact .base .non
  · exact .base (.bl _)
  · exact .base (.int _)
  · exact .base (.str _)
  · exact .base (.lst (by assumption))
  · exact .base (.tup (by assumption))
  · exact .base (.dK (by assumption))
theorem isi_D {K : PySem.W.Frag} {M : Addr → Prop} {H : Hp} {x : V} {d : D} {t c : String} {b : Bool} {Q : VK} (h : Rep K M H x d) (ht : TyD d t) (k : PySem.W.kitOne K (.type t) (.type c) = some b) (q : Q (.bl b) H) : rIsi K [x, .ty c] H Q :=
  ⟨x, .ty c, .type t, .type c, b, rfl, .ty c, tyx_of h ht, k, q⟩
theorem sx_var1 {n : Nat} {σ : L2.St} {H : Hp} {Q : VK} (h : ∃ v, σ[n]? = some (some v) ∧ Q v H) : tVar n σ H Q := h
theorem szOk {n : Nat} (h : n ≤ 1000000) : n ≤ sizeLine := Nat.le_trans h (by decide)
end Nt
namespace Nt
theorem ifNT {A B : Prop} (h : B) : if (!true) = true then A else B := by rw [if_neg (by decide)]; exact h
theorem ifNF {A B : Prop} (h : A) : if (!false) = true then A else B := by rw [if_pos (by decide)]; exact h
end Nt
namespace Nt
open PySem PySem.Spec PyProof.Rows L2
section
variable {K : PySem.W.Frag} {M : Addr → Prop} {I : Hp → Prop} {σ : L2.St} {H H0 : Hp} {Q : VK} {x y : V}
theorem lst_endC {xs : List V} {ds : List D} (hw : Wf M I) (hI : I H) (r : Reps K M H (x :: xs) ds) (hz : ds.length ≤ sizeLine) (q : ∀ v H', Ex M H H' → I H' → Rep K M H' v (.lst ds) → Q v H') : LstK Q (x :: xs) H := lst_end hw hI r hz q
theorem Ex.shut {p : Addr} (hp : H0 p = none) (e : Ex (Mq M p) H0 H) : Ex M H0 H := fun a o n h => e a o (fun m => m.elim n fun z => by rw [z, hp] at h; cases h) h
/-- xs.append(e), the list told by the world -/
theorem app_mut {p : Addr} {xs : List V} (hw : Wf M I) (hp : ¬ M p) (hI : Iq I p (.lst xs) H) (hl : xs.length < 1000000) (q : ∀ H', Ex (Mq M p) H H' → Wf (Mq M p) (Iq I p (.lst (xs ++ [y]))) → Iq I p (.lst (xs ++ [y])) H' → Q .non H') : rAppend (.ref p) [y] H Q := by
  refine ⟨p, xs, y, rfl, rfl, hI.2, Nat.lt_of_lt_of_le hl (by decide), ?_⟩
  obtain ⟨i, e⟩ := hw.put (o' := .lst (xs ++ [y])) hp hI
  exact q _ e (hw.add _ _) i
theorem tyv_l {p : Addr} {xs : List V} (h : H p = some (.lst xs)) : tyV K "list" (.ref p) H := .inl ⟨rfl, xs, SqL.of h⟩
theorem Wf.sub {M : Addr → Prop} {I : Hp → Prop} (w : Wf M I) {H H' : Hp} (h : L2.Same H H') (i : I H) : I H' := w.same h i
end
end Nt
namespace Nt
theorem ifIsF {b : Bool} {A B : Prop} (h : b = false) (hb : B) : if b = true then A else B := by rw [h, if_neg Bool.false_ne_true]; exact hb
theorem ifIsT {b : Bool} {A B : Prop} (h : b = true) (ha : A) : if b = true then A else B := by rw [h, if_pos rfl]; exact ha
end Nt
namespace Nt
open PySem PySem.Spec PyProof.Rows L2
section
variable {K : PySem.W.Frag} {M : Addr → Prop} {I : Hp → Prop} {H : Hp} {Q : VK} {x : V} {mg : Str → Option Value} {n : Str} {st : Stmt} {ps : List Str} {dfl : List V}
theorem tup_endF {xs : List V} {ds : List D} (_ : At K mg n st ps dfl) (hw : Wf M I) (hI : I H) (r : Reps K M H xs ds) (hz : ds.length ≤ sizeLine) (q : ∀ v H', Ex M H H' → I H' → Rep K M H' v (.tup ds) → Q v H') : TupK Q xs H := tup_end hw hI r hz q
theorem lst_endF {xs : List V} {ds : List D} (_ : At K mg n st ps dfl) (hw : Wf M I) (hI : I H) (r : Reps K M H (x :: xs) ds) (hz : ds.length ≤ sizeLine) (q : ∀ v H', Ex M H H' → I H' → Rep K M H' v (.lst ds) → Q v H') : LstK Q (x :: xs) H := lst_end hw hI r hz q
end
end Nt

namespace Nt
open PySem PySem.Spec PyProof.Rows L2
section
variable {K : PySem.W.Frag} {M : Addr → Prop} {I : Hp → Prop} {α β : Type} {as : List α} {bs : List β} {tt : TT} {te : TE} {vs : List Nat} {σ : L2.St} {H1 H : Hp} {Q : VK} {enc : α → D} {enc2 : β → D} {x : V}
theorem filter_tt (as : List α) : as.filter (fun _ => true) = as := by simp
/-! no test; the element by a function -/
theorem lc_srcM {i : Nat} {d : D} (f : α → D) (hw : Wf M I) (hI : I H1) (hx : Rep K M H1 x d) (hd : d.elems = some (as.map enc)) (hlen : as.length ≤ sizeLine) (hwp : ∀ v, wipe ((wipe σ vs).set i (some v)) vs = wipe σ vs)
    (he : ∀ (L : Addr) (acc : List V) (k : Nat) (a : α) (v : V) (H : Hp), H1 L = none → as[k]? = some a → Rep K (Mq M L) H v (enc a) → Wf (Mq M L) (Iq I L (.lst acc)) → Iq I L (.lst acc) H → Ex (Mq M L) H1 H →
      ∀ Qe : VK, (∀ y H4, Rep K (Mq M L) H4 y (f a) → Iq I L (.lst acc) H4 → Ex (Mq M L) H H4 → Qe y H4) → te ((wipe σ vs).set i (some v)) H Qe)
    (hq : ∀ y H', Rep K M H' y (.lst (as.map f)) → Ex M H1 H' → I H' → Q y H') : srcR K (LcR (gName i) tYes te vs σ Q) x H1 := by
  refine lc_src hw hI hx hd hlen hwp (fun _ => true) (fun a d => d = f a) (fun L acc k a v H _ _ _ _ _ hi _ Qt q => q H hi (Ex.refl _)) (fun L acc k a v H hL nL ha _ rv wf hi ex Qe q => ?_) fun y ds H' a2 rp ex hi => ?_
  · exact he L acc k a v H hL ha rv wf hi ex Qe fun y H4 r i e => q y _ H4 rfl r i e
  · rw [a2.eq, filter_tt] at rp
    exact hq y H' rp ex hi
theorem lc_zipM {i j : Nat} {x1 x2 : V} {d1 d2 : D} (f : α × β → D) (hw : Wf M I) (hI : I H1) (hx : Rep K M H1 x1 d1) (hd : d1.elems = some (as.map enc)) (hx2 : Rep K M H1 x2 d2) (hd2 : d2.elems = some (bs.map enc2)) (hlen : as.length ≤ sizeLine)
    (hwp : ∀ v w, wipe (((wipe σ vs).set i (some v)).set j (some w)) vs = wipe σ vs)
    (he : ∀ (L : Addr) (acc : List V) (k : Nat) (a : α) (b : β) (v w : V) (H : Hp), H1 L = none → as[k]? = some a → bs[k]? = some b → Rep K (Mq M L) H v (enc a) → Rep K (Mq M L) H w (enc2 b) → Wf (Mq M L) (Iq I L (.lst acc)) → Iq I L (.lst acc) H → Ex (Mq M L) H1 H →
      ∀ Qe : VK, (∀ y H4, Rep K (Mq M L) H4 y (f (a, b)) → Iq I L (.lst acc) H4 → Ex (Mq M L) H H4 → Qe y H4) → te (((wipe σ vs).set i (some v)).set j (some w)) H Qe)
    (hq : ∀ y H', Rep K M H' y (.lst ((as.zip bs).map f)) → Ex M H1 H' → I H' → Q y H') : zipR K (LcR (gTup K 2 (gCons (gName i) (gCons (gName j) gNil))) tYes te vs σ Q) [x1, x2] H1 := by
  refine lc_zip hw hI hx hd hx2 hd2 hlen hwp (fun _ => true) (fun a d => d = f a) (fun L acc k a b v w H _ _ _ _ _ _ _ hi _ Qt q => q H hi (Ex.refl _)) (fun L acc k a b v w H hL nL ha hb _ rv rw wf hi ex Qe q => ?_) fun y ds H' a2 rp ex hi => ?_
  · exact he L acc k a b v w H hL ha hb rv rw wf hi ex Qe fun y H4 r i e => q y _ H4 rfl r i e
  · rw [a2.eq, filter_tt] at rp
    exact hq y H' rp ex hi
/-! a test; the element by a function -/
theorem lc_srcF {i : Nat} {d : D} (p : α → Bool) (f : α → D) (hw : Wf M I) (hI : I H1) (hx : Rep K M H1 x d) (hd : d.elems = some (as.map enc)) (hlen : as.length ≤ sizeLine) (hwp : ∀ v, wipe ((wipe σ vs).set i (some v)) vs = wipe σ vs)
    (ht : ∀ (L : Addr) (acc : List V) (k : Nat) (a : α) (v : V) (H : Hp), H1 L = none → as[k]? = some a → Rep K (Mq M L) H v (enc a) → Wf (Mq M L) (Iq I L (.lst acc)) → Iq I L (.lst acc) H → Ex (Mq M L) H1 H →
      ∀ Qt : Bool → Hp → Prop, (∀ H3, Iq I L (.lst acc) H3 → Ex (Mq M L) H H3 → Qt (p a) H3) → tt ((wipe σ vs).set i (some v)) H Qt)
    (he : ∀ (L : Addr) (acc : List V) (k : Nat) (a : α) (v : V) (H : Hp), H1 L = none → as[k]? = some a → p a = true → Rep K (Mq M L) H v (enc a) → Wf (Mq M L) (Iq I L (.lst acc)) → Iq I L (.lst acc) H → Ex (Mq M L) H1 H →
      ∀ Qe : VK, (∀ y H4, Rep K (Mq M L) H4 y (f a) → Iq I L (.lst acc) H4 → Ex (Mq M L) H H4 → Qe y H4) → te ((wipe σ vs).set i (some v)) H Qe)
    (hq : ∀ y H', Rep K M H' y (.lst ((as.filter p).map f)) → Ex M H1 H' → I H' → Q y H') : srcR K (LcR (gName i) tt te vs σ Q) x H1 := by
  refine lc_src hw hI hx hd hlen hwp p (fun a d => d = f a) (fun L acc k a v H hL _ ha rv wf hi ex Qt q => ht L acc k a v H hL ha rv wf hi ex Qt q) (fun L acc k a v H hL nL ha hp rv wf hi ex Qe q => ?_) fun y ds H' a2 rp ex hi => ?_
  · exact he L acc k a v H hL ha hp rv wf hi ex Qe fun y H4 r i e => q y _ H4 rfl r i e
  · rw [a2.eq] at rp
    exact hq y H' rp ex hi
theorem lc_enumF {i j : Nat} {x1 : V} {d1 : D} (p : α × Nat → Bool) (f : α × Nat → D) (hw : Wf M I) (hI : I H1) (hx : Rep K M H1 x1 d1) (hd : d1.elems = some (as.map enc)) (hlen : as.length ≤ sizeLine)
    (hwp : ∀ v w, wipe (((wipe σ vs).set i (some v)).set j (some w)) vs = wipe σ vs)
    (ht : ∀ (L : Addr) (acc : List V) (k : Nat) (a : α) (v : V) (H : Hp), H1 L = none → as[k]? = some a → Rep K (Mq M L) H v (enc a) → Wf (Mq M L) (Iq I L (.lst acc)) → Iq I L (.lst acc) H → Ex (Mq M L) H1 H →
      ∀ Qt : Bool → Hp → Prop, (∀ H3, Iq I L (.lst acc) H3 → Ex (Mq M L) H H3 → Qt (p (a, k)) H3) → tt (((wipe σ vs).set i (some (.int (k : Nat)))).set j (some v)) H Qt)
    (he : ∀ (L : Addr) (acc : List V) (k : Nat) (a : α) (v : V) (H : Hp), H1 L = none → as[k]? = some a → p (a, k) = true → Rep K (Mq M L) H v (enc a) → Wf (Mq M L) (Iq I L (.lst acc)) → Iq I L (.lst acc) H → Ex (Mq M L) H1 H →
      ∀ Qe : VK, (∀ y H4, Rep K (Mq M L) H4 y (f (a, k)) → Iq I L (.lst acc) H4 → Ex (Mq M L) H H4 → Qe y H4) → te (((wipe σ vs).set i (some (.int (k : Nat)))).set j (some v)) H Qe)
    (hq : ∀ y H', Rep K M H' y (.lst ((as.zipIdx.filter p).map f)) → Ex M H1 H' → I H' → Q y H') : enumR K (LcR (gTup K 2 (gCons (gName i) (gCons (gName j) gNil))) tt te vs σ Q) [x1] H1 := by
  refine lc_enum hw hI hx hd hlen hwp p (fun a d => d = f a) (fun L acc k a v H hL _ ha rv wf hi ex Qt q => ht L acc k a v H hL ha rv wf hi ex Qt q) (fun L acc k a v H hL nL ha hp rv wf hi ex Qe q => ?_) fun y ds H' a2 rp ex hi => ?_
  · exact he L acc k a v H hL ha hp rv wf hi ex Qe fun y H4 r i e => q y _ H4 rfl r i e
  · rw [a2.eq] at rp
    exact hq y H' rp ex hi
theorem lc_rngF {i : Nat} {lo : Int} {n : Nat} (p : Nat → Bool) (f : Nat → D) (hw : Wf M I) (hI : I H1) (hlen : n ≤ sizeLine) (hwp : ∀ v, wipe ((wipe σ vs).set i (some v)) vs = wipe σ vs)
    (ht : ∀ (L : Addr) (acc : List V) (k : Nat) (H : Hp), H1 L = none → k < n → Wf (Mq M L) (Iq I L (.lst acc)) → Iq I L (.lst acc) H → Ex (Mq M L) H1 H →
      ∀ Qt : Bool → Hp → Prop, (∀ H3, Iq I L (.lst acc) H3 → Ex (Mq M L) H H3 → Qt (p k) H3) → tt ((wipe σ vs).set i (some (.int (lo + (k : Nat))))) H Qt)
    (he : ∀ (L : Addr) (acc : List V) (k : Nat) (H : Hp), H1 L = none → k < n → p k = true → Wf (Mq M L) (Iq I L (.lst acc)) → Iq I L (.lst acc) H → Ex (Mq M L) H1 H →
      ∀ Qe : VK, (∀ y H4, Rep K (Mq M L) H4 y (f k) → Iq I L (.lst acc) H4 → Ex (Mq M L) H H4 → Qe y H4) → te ((wipe σ vs).set i (some (.int (lo + (k : Nat))))) H Qe)
    (hq : ∀ y H', Rep K M H' y (.lst (((List.range n).filter p).map f)) → Ex M H1 H' → I H' → Q y H') : LcR (gName i) tt te vs σ Q (Itr lo n) H1 := by
  refine lc_rng (K := K) hw hI hlen hwp p (fun a d => d = f a) (fun L acc k H hL _ ha wf hi ex Qt q => ht L acc k H hL ha wf hi ex Qt q) (fun L acc k H hL nL ha hp wf hi ex Qe q => ?_) fun y ds H' a2 rp ex hi => ?_
  · exact he L acc k H hL ha hp wf hi ex Qe fun y H4 r i e => q y _ H4 rfl r i e
  · rw [a2.eq] at rp
    exact hq y H' rp ex hi
/-! joins of signs -/
theorem flat_1 (h : α → Nat) (l : List α) : (l.map fun a => [h a]).flatten = l.map h := by
  induction l with
  | nil => rfl
  | cons a l ih => simp [ih]
theorem join_1 (h : α → Nat) (hx : Rep K M H x (.lst (as.map fun a => .str (T [h a])))) (hl : as.length ≤ 1000000) (q : Q (.str (T (as.map h))) H) : rJoin K (.str (T [])) [x] H Q := by
  refine join_R (M := M) (ls := as.map fun a => [h a]) (by rw [List.map_map]; exact hx) ?_ (by rw [flat_1]; exact q)
  have : ((as.map fun a => [h a]).map (·.length)).sum = as.length := by
    rw [List.map_map]
    clear hx hl q
    induction as with
    | nil => rfl
    | cons a as ih => simp only [List.map_cons, List.sum_cons, ih, List.length_cons, Function.comp]; simp; omega
  omega
theorem join_A {ls : List (List Nat)} (hx : A2 (fun (_ : α) (d : D) => ∃ l, d = .str (T l)) as (ls.map fun l => .str (T l))) : True := trivial
theorem all_M (h : α → Bool) (hx : Rep K M H x (.lst (as.map fun a => .bl (h a)))) (q : Q (.bl (as.all h)) H) : rAll K [x] H Q := by
  refine all_R (M := M) (bs := as.map h) (by rw [List.map_map]; exact hx) ?_
  rw [List.all_map]
  exact q
theorem dec1 {a b : Nat} : decide ([a] = [b]) = decide (a = b) := dec_congr ⟨fun e => by injection e, fun e => by rw [e]⟩
theorem eq_11 {a b : Nat} (q : Q (.bl (decide (a = b))) H) : rEqU K (.str (T [a])) (.str (T [b])) H Q := eq_TT (by
  have : decide ([a] = [b]) = decide (a = b) := dec_congr ⟨fun e => by injection e, fun e => by rw [e]⟩
  rw [this]; exact q)
theorem ne_11 {a b : Nat} (q : Q (.bl (!decide (a = b))) H) : rNeU K (.str (T [a])) (.str (T [b])) H Q := ne_TT (by
  have : decide ([a] = [b]) = decide (a = b) := dec_congr ⟨fun e => by injection e, fun e => by rw [e]⟩
  rw [this]; exact q)
/-! == of a list of flat data with the empty list -/
def Flat : D → Prop
  | .non => True
  | .bl _ => True
  | .int _ => True
  | .str z => PyData.strOk z = true
  | _ => False
def pyF : D → PyData
  | .bl b => .bool b
  | .int i => .int i
  | .str z => .str z
  | _ => .none
theorem dp_flat {v : V} {d : D} (h : Rep K M H v d) (f : Flat d) : Dp K H v (pyF d) ∧ (pyF d).canLay0 = true ∧ (pyF d).depth = 0 := by
  cases h with
  | non => exact ⟨.non, by simp [pyF, PyData.canLay0], by simp [pyF, PyData.depth]⟩
  | bl b => exact ⟨.bl b, by simp [pyF, PyData.canLay0], by simp [pyF, PyData.depth]⟩
  | int i => exact ⟨.int i, by simp [pyF, PyData.canLay0], by simp [pyF, PyData.depth]⟩
  | str z => exact ⟨.str z, by simp only [pyF, PyData.canLay0]; exact f, by simp [pyF, PyData.depth]⟩
  | _ => exact f.elim
theorem dp_flats : ∀ {vs : List V} {ds : List D}, Reps K M H vs ds → (∀ d ∈ ds, Flat d) → DpAll K H vs (ds.map pyF) ∧ PyData.canLayAll0 (ds.map pyF) = true ∧ PyData.depthAll (ds.map pyF) = 0
  | _, _, .nil, _ => ⟨.nil, by simp [PyData.canLayAll0], by simp [PyData.depthAll]⟩
  | _, _, .cons r rs, f => by
    obtain ⟨a1, a2, a3⟩ := dp_flat r (f _ List.mem_cons_self)
    obtain ⟨b1, b2, b3⟩ := dp_flats rs fun d hd => f d (List.mem_cons_of_mem _ hd)
    exact ⟨.cons a1 b1, by simp [PyData.canLayAll0, a2, b2], by simp [PyData.depthAll, a3, b3]⟩
theorem dp_lst {ds : List D} (h : Rep K M H x (.lst ds)) (f : ∀ d ∈ ds, Flat d) : Dp K H x (.list (ds.map pyF)) ∧ SeqAt.shaped (.list (ds.map pyF)) = true := by
  cases h with
  | lst h n r =>
    obtain ⟨b1, b2, b3⟩ := dp_flats r f
    exact ⟨.lst (SqL.of h) b1, by simp [SeqAt.shaped, PyData.canLay0, PyData.depth, b2, b3]⟩
theorem eqv_nil (l : List PyData) : PyData.eqv (.list l) (.list []) = l.isEmpty := by
  cases l <;> simp [PyData.eqv, PyData.eqvAll]
variable {y : V}
theorem eq_L0 {ds : List D} (hx : Rep K M H x (.lst ds)) (hy : Rep K M H y (.lst [])) (f : ∀ d ∈ ds, Flat d) (q : Q (.bl ds.isEmpty) H) : rEqU K x y H Q := by
  obtain ⟨a1, a2⟩ := dp_lst hx f
  obtain ⟨b1, b2⟩ := dp_lst hy (by simp)
  refine .inr ⟨_, _, a1, b1, a2, b2, ?_⟩
  rw [List.map_nil, eqv_nil]
  cases ds <;> exact q
theorem ne_L0 {ds : List D} (hx : Rep K M H x (.lst ds)) (hy : Rep K M H y (.lst [])) (f : ∀ d ∈ ds, Flat d) (q : Q (.bl (!ds.isEmpty)) H) : rNeU K x y H Q := by
  obtain ⟨a1, a2⟩ := dp_lst hx f
  obtain ⟨b1, b2⟩ := dp_lst hy (by simp)
  refine .inr ⟨_, _, a1, b1, a2, b2, ?_⟩
  rw [List.map_nil, eqv_nil]
  cases ds <;> exact q
theorem ok_T {l : List Nat} (h : ∀ c ∈ l, c < 128) : PyData.strOk (T l) = true := by
  show (Array.all (List.toArray l) fun a => decide (a < 1114112)) = true
  rw [List.all_toArray, List.all_eq_true]
  intro c hc
  have := h c hc
  simp
  omega
/-! x in a list of texts -/
def flatD : D → Bool
  | .non => true
  | .bl _ => true
  | .int _ => true
  | .str _ => true
  | _ => false
theorem in_R {ls : List (List Nat)} {l : List Nat} {d : D} (hy : Rep K M H y d) (hd : d = .lst (ls.map fun l => .str (T l)) ∨ d = .tup (ls.map fun l => .str (T l))) : ∃ p, y = .ref p ∧ (SqL K H p (ls.map fun l => V.str (T l)) ∨ SqT K H p (ls.map fun l => V.str (T l))) := by
  rcases hd with rfl | rfl
  · cases hy with
    | lst h n r =>
      have e := Reps.scal_inv (f := fun l => V.str (T l)) (fun a v h => rep_str h) r
      subst e
      exact ⟨_, rfl, .inl (SqL.of h)⟩
  · cases hy with
    | tup h n r =>
      have e := Reps.scal_inv (f := fun l => V.str (T l)) (fun a v h => rep_str h) r
      subst e
      exact ⟨_, rfl, .inr (SqT.of h)⟩
theorem inV_T {l : List Nat} {ls : List (List Nat)} : inV (.str (T l)) (ls.map fun l => V.str (T l)) = decide (l ∈ ls) := by
  unfold inV
  rw [Bool.eq_iff_iff]
  simp only [List.any_eq_true, List.mem_map, decide_eq_true_eq]
  constructor
  · rintro ⟨z, ⟨a, ha, rfl⟩, e⟩
    have e2 : T a = T l := by simpa [eqV] using e
    rw [← T_inj e2]; exact ha
  · intro h
    exact ⟨_, ⟨l, h, rfl⟩, by simp [eqV]⟩
theorem in_L {ls : List (List Nat)} {l : List Nat} {d : D} (hy : Rep K M H y d) (hd : d = .lst (ls.map fun l => .str (T l)) ∨ d = .tup (ls.map fun l => .str (T l))) (q : Q (.bl (decide (l ∈ ls))) H) : rInU K (.str (T l)) y H Q := by
  obtain ⟨p, rfl, h⟩ := in_R (l := l) hy hd
  refine .inr (.inl ⟨p, _, rfl, h, rfl, ?_, ?_⟩)
  · simp [List.all_map, flatV]
  · rw [inV_T]; exact q
theorem ni_L {ls : List (List Nat)} {l : List Nat} {d : D} (hy : Rep K M H y d) (hd : d = .lst (ls.map fun l => .str (T l)) ∨ d = .tup (ls.map fun l => .str (T l))) (q : Q (.bl (!decide (l ∈ ls))) H) : rNiU K (.str (T l)) y H Q := by
  obtain ⟨p, rfl, h⟩ := in_R (l := l) hy hd
  refine .inr (.inl ⟨p, _, rfl, h, rfl, ?_, ?_⟩)
  · simp [List.all_map, flatV]
  · rw [inV_T]; exact q
end
end Nt

namespace Nt
open PySem PySem.Spec PyProof.Rows L2
section
variable {K : PySem.W.Frag} {M : Addr → Prop} {I : Hp → Prop} {H H' : Hp} {Q : VK} {x y : V} {i j : Int}
theorem int_i (q : Q (.int i) H) : rInt1 [.int i] H Q := .inl ⟨i, rfl, q⟩
theorem abs_i (q : Q (.int (i.natAbs : Nat)) H) : rAbs [.int i] H Q := ⟨i, rfl, by
  have e : (if i < 0 then -i else i) = (i.natAbs : Int) := by split <;> omega
  rw [e]; exact q⟩
theorem ix_raw {p : Addr} {xs : List V} {v : V} (h : H p = some (.lst xs)) (ha : atI xs i = some v) (q : Q v H) : rIx K (.ref p) (.int i) H Q := .inl ⟨p, xs, i, v, rfl, rfl, SqL.of h, ha, q⟩
theorem set_raw {p : Addr} {xs : List V} {v : V} {n : Nat} {G : Hp → Prop} (h : H p = some (.lst xs)) (ha : ixN xs.length i = some n) (q : G (upd H p (.lst (xs.set n v)))) : rSetL (.ref p) (.int i) v H G := ⟨p, xs, i, n, rfl, rfl, h, ha, q⟩
theorem len_raw {p : Addr} {xs : List V} (h : H p = some (.lst xs)) (q : Q (.int (xs.length : Nat)) H) : rLen K [.ref p] H Q := ⟨_, _, rfl, .inl ⟨_, SqL.of h, rfl⟩, q⟩
theorem ix_E {d e : D} {ds : List D} {n : Nat} (hx : Rep K M H x d) (hd : d.elems = some ds) (hl : ds.length ≤ sizeLine) (h : ds[n]? = some e) (q : ∀ v, Rep K M H v e → Q v H) : rIx K x (.int (n : Nat)) H Q := by
  cases d with
  | lst l => cases hd; exact ix_R hx (.inl rfl) h q
  | tup l => cases hd; exact ix_R hx (.inr rfl) h q
  | str z =>
    cases hd
    cases rep_str hx
    have h2 : (z.cps.toList.map fun c => D.str (T [c]))[n]? = some e := h
    rw [List.getElem?_map] at h2
    cases hc : z.cps.toList[n]? with
    | none => rw [hc] at h2; cases h2
    | some c =>
      rw [hc] at h2
      cases h2
      exact .inr (.inr ⟨z, _, c, rfl, rfl, by simpa [Str.length] using hl, atI_nat' hc, q _ (.str _)⟩)
  | _ => cases hd
theorem len_E {d : D} {ds : List D} (hx : Rep K M H x d) (hd : d.elems = some ds) (hl : ds.length ≤ sizeLine) (q : Q (.int (ds.length : Nat)) H) : rLen K [x] H Q := by
  cases d with
  | lst l => cases hd; exact len_R hx (.inl rfl) q
  | tup l => cases hd; exact len_R hx (.inr rfl) q
  | str z =>
    cases hd
    cases rep_str hx
    have e : (z.cps.toList.map fun c => D.str (T [c])).length = z.length := by simp [Str.length]
    rw [e] at hl q
    exact ⟨_, _, rfl, ⟨hl, rfl⟩, q⟩
  | _ => cases hd
theorem list_E {d : D} {ds : List D} (hw : Wf M I) (hI : I H) (hx : Rep K M H x d) (hd : d = .lst ds ∨ d = .tup ds) (q : ∀ p xs, H p = none → Reps K M H xs ds → Q (.ref p) (upd H p (.lst xs))) : rList1 K [x] H Q := by
  rcases hd with rfl | rfl
  · cases hx with
    | lst h n r => exact .inl ⟨_, _, rfl, .inl (SqL.of h), fun p hp => q p _ hp r⟩
  · cases hx with
    | tup h n r => exact .inl ⟨_, _, rfl, .inr (SqT.of h), fun p hp => q p _ hp r⟩
/-! ### the bag -/
def bagL (l : Addr) (i g m : Nat) (c : Int) : List V := [.ref l, .int (i : Nat), .int (g : Nat), .int (m : Nat), .int c]
structure BagIs (H : Hp) (b l : Addr) (cs : List Int) (i g m : Nat) (c : Int) : Prop where
  hb : H b = some (.lst (bagL l i g m c))
  hl : H l = some (.lst (cs.map V.int))
  hm : m < 4294967296
  hn : cs.length ≤ 1000
def BagOk (H : Hp) (b l : Addr) : Prop := ∃ cs i g m c, BagIs H b l cs i g m c
structure HasBag (M : Addr → Prop) (I : Hp → Prop) (b : Addr) : Prop where
  ex : ∃ l, M b ∧ M l ∧ b ≠ l ∧ (∀ H, I H → BagOk H b l) ∧ ∀ H H', I H → (∀ p, M p → p ≠ b → H' p = H p) → BagOk H' b l → I H'
theorem HasBag.add {b q : Addr} {o : HO} (h : HasBag M I b) (hq : ¬ M q) : HasBag (Mq M q) (Iq I q o) b := by
  obtain ⟨l, h1, h2, h3, h4, h5⟩ := h.ex
  refine ⟨l, .inl h1, .inl h2, h3, fun H i => h4 H i.1, fun H H' i e k => ⟨h5 H H' i.1 (fun p hp => e p (.inl hp)) k, ?_⟩⟩
  rw [e q (.inr rfl) fun z => hq (z ▸ h1)]
  exact i.2
/-- the world of a bag alone -/
def MB (b l : Addr) : Addr → Prop := fun p => p = b ∨ p = l
def IB (b l : Addr) : Hp → Prop := fun H => BagOk H b l
theorem wfB {b l : Addr} : Wf (MB b l) (IB b l) where
  live := fun H ⟨cs, i, g, m, c, h⟩ p hp => by
    rcases hp with rfl | rfl
    · rw [h.hb]; exact nofun
    · rw [h.hl]; exact nofun
  stable := fun H H' ⟨cs, i, g, m, c, h⟩ e => ⟨cs, i, g, m, c, (e b (.inl rfl)).trans h.hb, (e l (.inr rfl)).trans h.hl, h.hm, h.hn⟩
theorem hasB {b l : Addr} (hn : b ≠ l) : HasBag (MB b l) (IB b l) b := ⟨l, .inl rfl, .inr rfl, hn, fun _ h => h, fun _ _ _ _ k => k⟩
/-- the bag is written -/
theorem bag_put {b l : Addr} {cs : List Int} {i g m i' g' m' : Nat} {c c' : Int} (h : BagIs H b l cs i g m c) (hn : b ≠ l) (hm : m' < 4294967296) : BagIs (upd H b (.lst (bagL l i' g' m' c'))) b l cs i' g' m' c' :=
  ⟨upd_same, by rw [upd_ne hn.symm]; exact h.hl, hm, h.hn⟩
end
end Nt
namespace Nt
open PySem PySem.Spec PyProof.Rows L2
section
variable {K : PySem.W.Frag} {M : Addr → Prop} {I : Hp → Prop} {H H' : Hp} {Q : VK} {x y : V} {i j : Int}
theorem mod_any (h : 0 < j) (q : ∀ m : Nat, (m : Int) < j → Q (.int (m : Nat)) H) : rModU (.int i) (.int j) H Q := by
  refine ⟨i, j, rfl, rfl, h, ?_⟩
  have h1 := Int.emod_nonneg i (show j ≠ 0 by omega)
  have h2 := Int.emod_lt_of_pos i h
  obtain ⟨m, e⟩ := Int.eq_ofNat_of_zero_le h1
  show Q (.int (i % j)) H
  rw [e]
  exact q m (by omega)
theorem mul_r (h : -(2 ^ 64) < j ∧ j < 2 ^ 64) (q : Q (.int (i * j)) H) : rMulU (.int i) (.int j) H Q := .inr (.inl ⟨i, j, rfl, rfl, .inr h, q⟩)
theorem mul_l (h : -(2 ^ 64) < i ∧ i < 2 ^ 64) (q : Q (.int (i * j)) H) : rMulU (.int i) (.int j) H Q := .inr (.inl ⟨i, j, rfl, rfl, .inl h, q⟩)
theorem div_any {n : Nat} (h : 0 < j) (hj : j.natAbs.log2 < 9000) (q : ∀ m : Nat, Q (.int (m : Nat)) H) : rDivU (.int (n : Nat)) (.int j) H Q := by
  refine ⟨n, j, rfl, rfl, ⟨h, hj⟩, ?_⟩
  have h1 := Int.ediv_nonneg (show (0 : Int) ≤ (n : Int) by omega) (show (0 : Int) ≤ j by omega)
  obtain ⟨m, e⟩ := Int.eq_ofNat_of_zero_le h1
  show Q (.int ((n : Int) / j)) H
  rw [e]
  exact q m
theorem cut_to {xs : List V} {n : Nat} : cutV xs none (some (n : Nat)) = xs.take n := by
  unfold cutV
  rw [HT.sIx_none, HT.sIx_nat]
  simp only [List.drop_zero, Nat.sub_zero]
  by_cases h : n ≤ xs.length
  · rw [Nat.min_eq_left h]
  · rw [Nat.min_eq_right (by omega), List.take_of_length_le (Nat.le_refl _), List.take_of_length_le (by omega)]
end
end Nt

namespace Nt
open PySem PySem.Spec PyProof.Rows L2
/-- what is told of a law's own def at one world -/
structure LawTold (l : PySem.W.OpenLaw) (n k : Nat) (x : Str) (w : World) (mg : Str → Option Value) (fa : Addr) (h : Heap) : Prop where
  ex : ∃ (K : PySem.W.Frag) (fd : FuncData) (sp : Sp), K.In h ∧ (∀ (s : Shared) (u : Value), BindsTo s fd ⟨[u], []⟩ [(x, u)]) ∧
    (∀ (H : Hp) (a : Addr) (ns : List Int), ns.length ≤ n → SqL K H a (ns.map V.int) → sp [.ref a] H (fun v _ => v = .bl true) fun _ _ _ => False) ∧
    (∀ base : Heap, K.In base → base.Ns mainGlobals mg → FnOk l.prog w K mg base (L2.CX l.prog w) k fa fd [x] sp)
/-- the law's call, whatever its defs let out -/
theorem law_walk {l : PySem.W.OpenLaw} {n k : Nat} {q : Program} {loose : List Str} {XP : (Str → Option Value) → Heap → Prop} {YP : World → Heap → Prop} {d : DefRec} {x : Str} (hn : l.most = some n) (hs : n ≤ sizeLine) (h0 : d.params.defaults = []) (hr : Room k callerA)
    (T : ∀ w mg fa h, YP w h → Heap.Ns h mainGlobals mg → mg d.name = some (.ref fa) → LawTold l n k x w mg fa h) : PySem.W.WalkO q loose XP YP l.row.toRowW d [] (fun f vs => PySem.call f vs) := by
  refine Att.attach_call hn h0 ?_
  intro w s1 s2 mg mb fa o pm cd doc a vs ns G Y ho hd hcd hmg hobj hi hl hg
  obtain ⟨K, fd, sp, KX, hb, hq, hF⟩ := (T w mg fa _ Y G.T.g hmg).ex
  refine law_call KX G.T.g G.T.b G.T.builtins G.T.nolimit hg hobj hi (Nat.le_trans hl hs) hr hF hb (fun H _ hS => hq H a ns hl hS) ?_
  rintro H e s' ⟨_, _, _, _, _, _, _, _, _, _, _, _, z⟩
  exact z
end Nt

namespace Nt
open PySem PySem.Spec PyProof.Rows L2
section
variable {K : PySem.W.Frag} {M : Addr → Prop} {I : Hp → Prop} {H H1 : Hp} {Q : VK} {x y : V} {σ : L2.St}
/-! ### == and in over data of any kind -/
mutual
def pyD : D → PyData
  | .non => .none
  | .bl b => .bool b
  | .int i => .int i
  | .str z => .str z
  | .lst l => .list (pyAll l)
  | .tup l => .tuple (pyAll l)
  | .dct _ => .none
  | .oth _ => .none
def pyAll : List D → List PyData
  | [] => []
  | d :: l => pyD d :: pyAll l
end
mutual
/-- data that may be compared: no dicts, no objects, well-formed texts, at most n deep -/
def eqOk : Nat → D → Bool
  | _, .non => true
  | _, .bl _ => true
  | _, .int _ => true
  | _, .str z => PyData.strOk z
  | 0, .lst _ => false
  | 0, .tup _ => false
  | n + 1, .lst l => eqAll n l
  | n + 1, .tup l => eqAll n l
  | _, .dct _ => false
  | _, .oth _ => false
def eqAll : Nat → List D → Bool
  | _, [] => true
  | n, d :: l => eqOk n d && eqAll n l
end
mutual
theorem dp_D : ∀ {n : Nat} {d : D} {v : V}, Rep K M H v d → eqOk n d = true → Dp K H v (pyD d) ∧ (pyD d).canLay0 = true ∧ (pyD d).depth ≤ n
  | _, .non, _, h, _ => by cases h; exact ⟨.non, by simp [pyD, PyData.canLay0], by simp [pyD, PyData.depth]⟩
  | _, .bl b, _, h, _ => by cases h; exact ⟨.bl b, by simp [pyD, PyData.canLay0], by simp [pyD, PyData.depth]⟩
  | _, .int i, _, h, _ => by cases h; exact ⟨.int i, by simp [pyD, PyData.canLay0], by simp [pyD, PyData.depth]⟩
  | _, .str z, _, h, f => by
    cases h
    refine ⟨.str z, ?_, by simp [pyD, PyData.depth]⟩
    simp only [pyD, PyData.canLay0]
    simpa [eqOk] using f
  | 0, .lst _, _, _, f => by simp [eqOk] at f
  | 0, .tup _, _, _, f => by simp [eqOk] at f
  | n + 1, .lst l, _, h, f => by
    cases h with
    | lst h1 n1 r =>
      obtain ⟨a1, a2, a3⟩ := dp_All (n := n) r (by simpa [eqOk] using f)
      exact ⟨.lst (SqL.of h1) a1, by simp [pyD, PyData.canLay0, a2], by simp [pyD, PyData.depth]; omega⟩
  | n + 1, .tup l, _, h, f => by
    cases h with
    | tup h1 n1 r =>
      obtain ⟨a1, a2, a3⟩ := dp_All (n := n) r (by simpa [eqOk] using f)
      exact ⟨.tup (SqT.of h1) a1, by simp [pyD, PyData.canLay0, a2], by simp [pyD, PyData.depth]; omega⟩
  | _, .dct _, _, _, f => by simp [eqOk] at f
  | _, .oth _, _, _, f => by simp [eqOk] at f
theorem dp_All : ∀ {n : Nat} {l : List D} {vs : List V}, Reps K M H vs l → eqAll n l = true → DpAll K H vs (pyAll l) ∧ PyData.canLayAll0 (pyAll l) = true ∧ PyData.depthAll (pyAll l) ≤ n
  | _, [], _, h, _ => by cases h; exact ⟨.nil, by simp [pyAll, PyData.canLayAll0], by simp [pyAll, PyData.depthAll]⟩
  | n, d :: l, _, h, f => by
    cases h with
    | cons h1 h2 =>
      obtain ⟨f1, f2⟩ := Bool.and_eq_true_iff.mp (show (eqOk n d && eqAll n l) = true by simpa [eqAll] using f)
      obtain ⟨a1, a2, a3⟩ := dp_D h1 f1
      obtain ⟨b1, b2, b3⟩ := dp_All h2 f2
      exact ⟨.cons a1 b1, by simp [pyAll, PyData.canLayAll0, a2, b2], by simp [pyAll, PyData.depthAll]; omega⟩
end
theorem shaped_D {n : Nat} {d : D} (h : Rep K M H x d) (f : eqOk n d = true) (hn : n ≤ 64) : SeqAt.shaped (pyD d) = true := by
  obtain ⟨_, a2, a3⟩ := dp_D h f
  simp only [SeqAt.shaped, a2, Bool.true_and, decide_eq_true_eq]
  omega
theorem eq_D {n m : Nat} {d e : D} (hx : Rep K M H x d) (hy : Rep K M H y e) (fd : eqOk n d = true) (fe : eqOk m e = true) (hn : n ≤ 64) (hm : m ≤ 64) (q : Q (.bl (PyData.eqv (pyD d) (pyD e))) H) : rEqU K x y H Q :=
  .inr ⟨_, _, (dp_D hx fd).1, (dp_D hy fe).1, shaped_D hx fd hn, shaped_D hy fe hm, q⟩
theorem ne_D {n m : Nat} {d e : D} (hx : Rep K M H x d) (hy : Rep K M H y e) (fd : eqOk n d = true) (fe : eqOk m e = true) (hn : n ≤ 64) (hm : m ≤ 64) (q : Q (.bl (!PyData.eqv (pyD d) (pyD e))) H) : rNeU K x y H Q :=
  .inr ⟨_, _, (dp_D hx fd).1, (dp_D hy fe).1, shaped_D hx fd hn, shaped_D hy fe hm, q⟩
theorem in_D {n m : Nat} {d : D} {l : List D} (hx : Rep K M H x d) (hy : Rep K M H y (.lst l)) (fd : eqOk n d = true) (fe : eqOk m (.lst l) = true) (hn : n ≤ 64) (hm : m ≤ 64) (q : Q (.bl ((pyAll l).any fun z => PyData.eqv z (pyD d))) H) : rInU K x y H Q :=
  .inr (.inr ⟨_, _, (dp_D hx fd).1, (by have := (dp_D hy fe).1; simpa [pyD] using this), shaped_D hx fd hn, (by have := shaped_D hy fe hm; simpa [pyD] using this), q⟩)
theorem ni_D {n m : Nat} {d : D} {l : List D} (hx : Rep K M H x d) (hy : Rep K M H y (.lst l)) (fd : eqOk n d = true) (fe : eqOk m (.lst l) = true) (hn : n ≤ 64) (hm : m ≤ 64) (q : Q (.bl (!(pyAll l).any fun z => PyData.eqv z (pyD d))) H) : rNiU K x y H Q :=
  .inr (.inr ⟨_, _, (dp_D hx fd).1, (by have := (dp_D hy fe).1; simpa [pyD] using this), shaped_D hx fd hn, (by have := shaped_D hy fe hm; simpa [pyD] using this), q⟩)
/-! ### tests of lists -/
theorem tru_If {ds : List D} {A B : Prop} (hx : Rep K M H x (.lst ds)) (h : if (!ds.isEmpty) = true then A else B) : ∃ k, TruV K x H k ∧ if k = true then A else B :=
  tru_R (QT := fun k _ => if k = true then A else B) hx h
/-! ### dicts -/
theorem dnew (hw : Wf M I) (hI : I H) (q : ∀ p H', H p = none → Ex M H H' → I H' → Rep K M H' (.ref p) (.dct []) → Q (.ref p) H') : tDNewK σ H Q := fun p hp =>
  q p _ hp (Ex.of (same_upd hp)) (hw.same (same_upd hp) hI) (.dct upd_same (hw.fresh hI hp) rfl .nil)
/-- {k: v}, k and v read off -/
theorem disp1 {tk tv : TE} {k : Key} {v : V} {d : D} (hw : Wf M I) (hI : I H) (hk : ∀ H Q, Q (kV k) H → tk σ H Q) (hv : ∀ H Q, Q v H → tv σ H Q) (r : Rep K M H v d) (q : ∀ y H', Ex M H H' → I H' → Rep K M H' y (.dct [(k, d)]) → Q y H') : tDisp [(tk, tv)] σ H Q := by
  intro p hp
  refine hk _ _ (hv _ _ ?_)
  refine ⟨upd_same, [(k, v)], rfl, by simp, ?_⟩
  have e : upd (upd H p (.dK [])) p (.dK (mergeK [] [(k, v)])) = upd H p (.dK [(k, v)]) := by
    funext a
    by_cases h : a = p
    · rw [h, upd_same, upd_same]; rfl
    · rw [upd_ne h, upd_ne h, upd_ne h]
  rw [e]
  exact q _ _ (Ex.of (same_upd hp)) (hw.same (same_upd hp) hI) (.dct upd_same (hw.fresh hI hp) rfl (.cons (r.same (same_upd hp)) .nil))
def keyD : Key → D
  | .inl i => .int i
  | .inr z => .str z
theorem rep_key (k : Key) : Rep K M H (kV k) (keyD k) := by
  cases k with
  | inl i => exact .int i
  | inr z => exact .str z
theorem reps_keys (H : Hp) : ∀ (kvs : List (Key × V)) (ds : List (Key × D)), kvs.map (·.1) = ds.map (·.1) → Reps K M H (kvs.map fun kv => kV kv.1) (ds.map fun kv => keyD kv.1)
  | [], [], _ => .nil
  | (k, v) :: kvs, (k', d) :: ds, h => by
    simp only [List.map_cons, List.cons.injEq] at h
    obtain ⟨rfl, h⟩ := h
    exact .cons (rep_key k) (reps_keys H kvs ds h)
  | [], _ :: _, h => by simp at h
  | _ :: _, [], h => by simp at h
theorem list_keys {ds : List (Key × D)} (hw : Wf M I) (hI : I H) (hx : Rep K M H x (.dct ds)) (q : ∀ v H', Ex M H H' → I H' → Rep K M H' v (.lst (ds.map fun kv => keyD kv.1)) → Q v H') : rList1 K [x] H Q := by
  cases hx with
  | dct h n k r =>
    refine .inr ⟨_, _, rfl, h, fun p hp => ?_⟩
    exact q _ _ (Ex.of (same_upd hp)) (hw.same (same_upd hp) hI) (.lst upd_same (hw.fresh hI hp) (reps_keys _ _ _ k))
theorem val_at : ∀ {kvs : List (Key × V)} {ds : List (Key × D)} {k : Key} {d : D}, kvs.map (·.1) = ds.map (·.1) → Reps K M H (kvs.map (·.2)) (ds.map (·.2)) → (ds.map (·.1)).Nodup → (k, d) ∈ ds → ∃ v, valV kvs k = some v ∧ Rep K M H v d
  | [], [], _, _, _, _, _, h => by cases h
  | (k1, v) :: kvs, (k2, d2) :: ds, k, d, hk, hr, hn, hm => by
    simp only [List.map_cons, List.cons.injEq] at hk
    obtain ⟨rfl, hk⟩ := hk
    cases hr with
    | cons r1 r2 =>
      simp only [List.map_cons, List.nodup_cons] at hn
      rcases List.mem_cons.mp hm with e | hm
      · cases e
        exact ⟨v, by simp [valV], r1⟩
      · have ne : ¬ k1 = k := fun e => hn.1 (e ▸ List.mem_map_of_mem (f := (·.1)) hm)
        obtain ⟨u, h1, h2⟩ := val_at hk r2 hn.2 hm
        refine ⟨u, ?_, h2⟩
        rw [← h1]
        simp [valV, ne]
  | [], _ :: _, _, _, h, _, _, _ => by simp at h
  | _ :: _, [], _, _, h, _, _, _ => by simp at h
theorem dget_R {ds : List (Key × D)} {k : Key} {d : D} {Z : V → Prop} (r : Rep K M H x (.dct ds)) (hn : (ds.map (·.1)).Nodup) (hm : (k, d) ∈ ds) (q : ∀ v, Rep K M H v d → Z v) : ∃ a v, x = .ref a ∧ DGet H a (kV k) (some v) ∧ Z v := by
  cases r with
  | dct h n hk hr =>
    obtain ⟨v, h1, h2⟩ := val_at hk hr hn hm
    refine ⟨_, v, rfl, ?_, q v h2⟩
    rw [← h1]
    exact DGet.k h
theorem sx_dget {td ty : TE} (h : td σ H fun x H1 => ty σ H1 fun y H2 => ∃ a v, x = .ref a ∧ DGet H2 a y (some v) ∧ Q v H2) : tDGet td ty σ H Q := h
end
end Nt

namespace Nt
open PySem PySem.Spec PyProof.Rows L2
section
variable {K : PySem.W.Frag} {M : Addr → Prop} {I : Hp → Prop} {H H1 : Hp} {Q : VK} {x y : V} {σ : L2.St} {ds : List D}
theorem cut_from {xs : List V} {n : Nat} : cutV xs (some (n : Nat)) none = xs.drop n := by
  unfold cutV
  rw [HT.sIx_none, HT.sIx_nat, List.take_of_length_le (by simp)]
  by_cases h : n ≤ xs.length
  · rw [Nat.min_eq_left h]
  · rw [Nat.min_eq_right (by omega), List.drop_of_length_le (Nat.le_refl _), List.drop_of_length_le (by omega)]
theorem cut_mid {xs : List V} {a b : Nat} : cutV xs (some (a : Nat)) (some (b : Nat)) = (xs.drop a).take (min b xs.length - min a xs.length) := by
  unfold cutV
  rw [HT.sIx_nat, HT.sIx_nat]
  by_cases h : a ≤ xs.length
  · rw [Nat.min_eq_left h]
  · rw [show min a xs.length = xs.length from Nat.min_eq_right (by omega), List.drop_of_length_le (Nat.le_refl _), List.drop_of_length_le (show xs.length ≤ a by omega)]
theorem sl_Lto {n : Nat} (hw : Wf M I) (hI : I H) (hx : Rep K M H x (.lst ds)) (q : ∀ v H', Ex M H H' → I H' → Rep K M H' v (.lst (ds.take n)) → Q v H') : rSlU K x none (some (n : Nat)) H Q := by
  cases hx with
  | lst h n1 r =>
    refine .inl ⟨_, _, rfl, SqL.of h, fun p hp => ?_⟩
    rw [cut_to]
    exact q _ _ (Ex.of (same_upd hp)) (hw.same (same_upd hp) hI) (.lst upd_same (hw.fresh hI hp) ((r.take n).same (same_upd hp)))
theorem sl_Lfrom {n : Nat} (hw : Wf M I) (hI : I H) (hx : Rep K M H x (.lst ds)) (q : ∀ v H', Ex M H H' → I H' → Rep K M H' v (.lst (ds.drop n)) → Q v H') : rSlU K x (some (n : Nat)) none H Q := by
  cases hx with
  | lst h n1 r =>
    refine .inl ⟨_, _, rfl, SqL.of h, fun p hp => ?_⟩
    rw [cut_from]
    exact q _ _ (Ex.of (same_upd hp)) (hw.same (same_upd hp) hI) (.lst upd_same (hw.fresh hI hp) ((r.drop n).same (same_upd hp)))
theorem sl_Lmid {a b : Nat} (hw : Wf M I) (hI : I H) (hx : Rep K M H x (.lst ds)) (q : ∀ v H', Ex M H H' → I H' → Rep K M H' v (.lst ((ds.drop a).take (min b ds.length - min a ds.length))) → Q v H') : rSlU K x (some (a : Nat)) (some (b : Nat)) H Q := by
  cases hx with
  | lst h n1 r =>
    refine .inl ⟨_, _, rfl, SqL.of h, fun p hp => ?_⟩
    rw [cut_mid, r.length]
    exact q _ _ (Ex.of (same_upd hp)) (hw.same (same_upd hp) hI) (.lst upd_same (hw.fresh hI hp) (((r.drop a).take _).same (same_upd hp)))
/-- tuple(a list) -/
theorem tup_L (hw : Wf M I) (hI : I H) (hx : Rep K M H x (.lst ds)) (q : ∀ v H', Ex M H H' → I H' → Rep K M H' v (.tup ds) → Q v H') : rTup1 K [x] H Q := by
  cases hx with
  | lst h n1 r =>
    refine ⟨_, _, rfl, .inl ⟨SqL.of h, fun p hp => ?_⟩⟩
    exact q _ _ (Ex.of (same_upd hp)) (hw.same (same_upd hp) hI) (.tup upd_same (hw.fresh hI hp) (r.same (same_upd hp)))
theorem tup_T (hx : Rep K M H x (.tup ds)) (q : Q x H) : rTup1 K [x] H Q := by
  cases hx with
  | tup h n1 r => exact ⟨_, _, rfl, .inr ⟨SqT.of h, q⟩⟩
end
end Nt
namespace Nt
open PySem PySem.Spec PyProof.Rows L2
theorem Ex.wide {M : Addr → Prop} {p : Addr} {H H' : Hp} (e : Ex M H H') : Ex (Mq M p) H H' := fun a o n h => e a o (fun m => n (.inl m)) h
section
variable {K : PySem.W.Frag} {M : Addr → Prop} {I : Hp → Prop} {tt : TT} {te : TE} {vs : List Nat} {σ : L2.St} {H1 : Hp} {Q : VK}
/-- [e for k in range(..) if ..]: the list is new -/
theorem lc_rngN {i : Nat} {lo : Int} {n : Nat} (hw : Wf M I) (hI : I H1) (hlen : n ≤ sizeLine) (hwp : ∀ v, wipe ((wipe σ vs).set i (some v)) vs = wipe σ vs) (p : Nat → Bool) (P : Nat → D → Prop)
    (ht : ∀ (L : Addr) (acc : List V) (k : Nat) (H : Hp), H1 L = none → ¬ M L → k < n → Wf (Mq M L) (Iq I L (.lst acc)) → Iq I L (.lst acc) H → Ex (Mq M L) H1 H →
      ∀ Qt : Bool → Hp → Prop, (∀ H3, Iq I L (.lst acc) H3 → Ex (Mq M L) H H3 → Qt (p k) H3) → tt ((wipe σ vs).set i (some (.int (lo + (k : Nat))))) H Qt)
    (he : ∀ (L : Addr) (acc : List V) (k : Nat) (H : Hp), H1 L = none → ¬ M L → k < n → p k = true → Wf (Mq M L) (Iq I L (.lst acc)) → Iq I L (.lst acc) H → Ex (Mq M L) H1 H →
      ∀ Qe : VK, (∀ y d H4, P k d → Rep K (Mq M L) H4 y d → Iq I L (.lst acc) H4 → Ex (Mq M L) H H4 → Qe y H4) → te ((wipe σ vs).set i (some (.int (lo + (k : Nat))))) H Qe)
    (hq : ∀ L ds H', H1 L = none → A2 P ((List.range n).filter p) ds → Rep K M H' (.ref L) (.lst ds) → Ex M H1 H' → I H' → Q (.ref L) H') : LcR (gName i) tt te vs σ Q (Itr lo n) H1 := by
  have w := walk_range (lo := lo) (n := n)
  rw [show Walk (Itr lo n) n = Walk (Itr lo n) (List.range n).length by simp] at w
  have at_ : ∀ {k a : Nat}, (List.range n)[k]? = some a → k < n ∧ a = k := fun {k a} h => by
    have hk := (List.getElem?_eq_some_iff.mp h).1
    rw [List.length_range] at hk
    rw [List.getElem?_range hk] at h
    cases h
    exact ⟨hk, rfl⟩
  refine lc_any (K := K) w hw hI p P (fun k _ => (wipe σ vs).set i (some (.int (lo + (k : Nat))))) (fun _ _ => trivial) (by simpa using hlen) (fun k a ha => ?_) (fun k a => hwp _) ?_ ?_ ?_
  · exact bd_name fun H x H' y => y
  · intro L acc k a H hL nL ha wf hi ex Qt q
    obtain ⟨h1, rfl⟩ := at_ ha
    exact ht L acc a H hL nL h1 wf hi ex Qt q
  · intro L acc k a H hL nL ha hp wf hi ex Qt q
    obtain ⟨h1, rfl⟩ := at_ ha
    exact he L acc a H hL nL h1 hp wf hi ex Qt q
  · exact fun L ds H' hL a2 rp ex hi => hq L ds H' hL a2 rp ex hi
end
end Nt

namespace Nt
open PySem PySem.Spec PyProof.Rows L2
section
variable {K : PySem.W.Frag} {M : Addr → Prop} {I : Hp → Prop} {σ : L2.St} {H H1 : Hp} {Q : VK} {i j : Int} {α : Type} {as : List α} {enc : α → D}
theorem and_ii (q : Q (.int (Builtin.bitAnd i j)) H) : rAndU (.int i) (.int j) H Q := ⟨i, j, rfl, rfl, q⟩
theorem or_ii (q : Q (.int (Builtin.bitOr i j)) H) : rOrU (.int i) (.int j) H Q := ⟨i, j, rfl, rfl, q⟩
theorem xor_ii (q : Q (.int (Builtin.bitXor i j)) H) : rXorU (.int i) (.int j) H Q := ⟨i, j, rfl, rfl, q⟩
theorem inv_i (q : Q (.int (Builtin.bitNot i)) H) : rInvU (.int i) H Q := ⟨i, rfl, q⟩
/-- for (any target) in a list, a tuple or a text -/
theorem for_srcG {g : TG} {x : V} {d : D} {tb : TS} {E : Ends} (hx : Rep K M H1 x d) (hd : d.elems = some (as.map enc)) (Pv : Nat → L2.St → Hp → Prop) (h0 : Pv 0 σ H1) (hG : ∀ k σ H, Pv k σ H → Ex M H1 H)
    (hs : ∀ k a v σ H, as[k]? = some a → Pv k σ H → Rep K M H v (enc a) → g v σ H fun σ2 H2 => tb { E with nx := Pv (k + 1), ct := Pv (k + 1), bk := E.nx } σ2 H2) (hq : ∀ σ H, Pv as.length σ H → E.nx σ H) : srcR K (ForR g tb E σ) x H1 := by
  obtain ⟨S, xs, rfl, r, hS⟩ := src_of hx hd
  have hl := reps_len r
  have key : ∀ {J : It} {G : Hp → Prop} {Y : Nat → Hp → V → Hp → Prop}, L2.Walk J as.length G Y → (∀ H', Ex M H1 H' → G H') → (∀ k H x H', Y k H x H' → H' = H ∧ xs[k]? = some x) → ForR g tb E σ J H1 := fun {J G Y} w hG2 hY => by
    refine for_it w Pv h0 (fun k σ H _ h => hG2 _ (hG k σ H h)) (fun k x σ H H' hk h y => ?_) hq
    obtain ⟨rfl, e2⟩ := hY _ _ _ _ y
    have ha : as[k]? = some as[k] := by simp [hk]
    obtain ⟨v, hv, rv⟩ := reps_at r ha
    rw [hv] at e2
    cases e2
    exact hs k _ _ σ _ ha h (rv.ex (hG _ _ _ h))
  cases S with
  | lst a =>
    refine .inl ⟨a, rfl, ⟨xs, hS H1 (Ex.refl _)⟩, ?_⟩
    have w := walk_list (K := K) (a := a) (xs := xs)
    rw [hl] at w
    exact key w hS fun k H x H' y => y
  | tup a =>
    refine .inr (.inl ⟨a, rfl, ⟨xs, hS H1 (Ex.refl _)⟩, ?_⟩)
    have w := walk_tup (K := K) (a := a) (xs := xs)
    rw [hl] at w
    exact key w hS fun k H x H' y => y
  | txt z =>
    refine .inr (.inr ⟨z, rfl, ?_⟩)
    have hxs : xs = signs z := hS H1 (Ex.refl _)
    have w := walk_str (z := z)
    have hz : z.cps.size = as.length := by rw [← hl, hxs]; simp [signs]
    rw [hz] at w
    refine key w (fun _ _ => trivial) fun k H x H' y => ⟨y.1, ?_⟩
    obtain ⟨_, c, e1, e2⟩ := y
    rw [hxs, e2]
    simp [signs, e1]
end
end Nt
namespace Nt
open PySem PySem.Spec PyProof.Rows L2
section
variable {K : PySem.W.Frag} {M : Addr → Prop} {I : Hp → Prop} {H H0 : Hp} {Q : VK} {x y : V} {p : Addr} {o : HO}
theorem add_LLN {ds es : List D} (hx : Rep K M H x (.lst ds)) (hy : Rep K M H y (.lst es)) (h : ds.length + es.length ≤ sizeLine) (q : ∀ p xs, H p = none → Reps K M H xs (ds ++ es) → Q (.ref p) (upd H p (.lst xs))) : rAddU K x y H Q := by
  cases hx with
  | lst h1 n1 r1 => cases hy with
    | lst h2 n2 r2 =>
      exact .inr (.inr (.inl ⟨_, _, _, _, rfl, rfl, h1, h2, by rw [r1.length, r2.length]; exact h, fun p hp => q p _ hp (r1.append r2)⟩))
theorem Ex.non (hw : Wf M I) (i : I H) (e : Ex M H0 H) (hp : H p = none) : H0 p = none := by
  cases h : H0 p with
  | none => rfl
  | some o =>
    have := e p o (hw.fresh i hp) h
    rw [hp] at this
    cases this
theorem Wf.set (hw : Wf M I) (np : ¬ M p) (i : I H) : I (upd H p o) := hw.stable H _ i fun a ha => upd_ne fun e => np (e ▸ ha)
theorem Ex.set (e : Ex M H0 H) (hp : H0 p = none) : Ex M H0 (upd H p o) := fun a u n h => by
  rw [upd_ne fun z => by rw [z, hp] at h; cases h]
  exact e a u n h
theorem ixN_m1 {n s : Nat} (h : 0 < n) (hs : s ≤ n) : ixN n ((s : Int) - 1) = some (if s = 0 then n - 1 else s - 1) := by
  unfold ixN
  by_cases h0 : s = 0
  · subst h0
    rw [if_neg (by omega), if_pos (by omega), if_pos rfl]
    congr 1
    omega
  · rw [if_pos (by omega), if_pos (by omega), if_neg h0]
    congr 1
    omega
end
end Nt

namespace Nt
open PySem PySem.Spec PyProof.Rows L2
/-! ### a set of texts -/
def txOf : Int × Value → Str := fun e => match e.2 with
  | .str z _ => z
  | _ => Str.empty
abbrev kS (P : Program) (w : World) : KeyKind P w Str := PySem.strKind P w
def OkT (P : Program) (w : World) (e : Int × Value) : Prop := ∃ z tk, e.2 = Value.str z tk ∧ e.1 = (kS P w).hash z
/-- the texts at a: those of L -/
structure SetT (P : Program) (w : World) (h : Heap) (a : Addr) (L : List Str) (o : Obj) (es : Array (Int × Value)) (ep : Nat) (t : SetTable) : Prop where
  at_ : h.get? a = some o
  ex : o.ExactSet
  da : o.data = .set es ep t
  ok : ∀ e ∈ es.toList, OkT P w e
  nd : (es.toList.map txOf).Nodup
  me : ∀ z, z ∈ L ↔ z ∈ es.toList.map txOf
  sz : es.size < scanBound
  fi : t.fits es.size = true
  ri : Ris t.place.toList
  le : w.params.followText "set-order" = true ∨ t.led = true
def SetL (P : Program) (w : World) (h : Heap) (a : Addr) (L : List Str) : Prop := ∃ o es ep t, SetT P w h a L o es ep t
section
variable {P : Program} {w : World} {A : Around} {E : Value → Shared → Prop} {s : Shared} {a : Addr} {L : List Str} {z : Str} {tk : Tok}
theorem okT_is {e : Int × Value} (g : OkT P w e) (k : Str) : (kS P w).is k e.2 = true ↔ txOf e = k := by
  obtain ⟨z, tk, h1, _⟩ := g
  unfold txOf
  rw [h1]
  show ((z == k) = true) ↔ z = k
  exact beq_iff_eq
theorem okT_elems {l : List (Int × Value)} (g : ∀ e ∈ l, OkT P w e) : ElemsOf (kS P w) l := fun e he => by
  obtain ⟨z, tk, h1, h2⟩ := g e he
  exact ⟨⟨z, by rw [h1]; exact strKind_is P w z tk, h2⟩, by rw [h1]; rfl⟩
/-- the table is written -/
theorem setT_store {g : Bool → Sem Unit} (hg : ∀ (b : Bool) (s1 : Shared) (Q : Unit → Shared → Prop), Q () s1 → wpAny (model P w) A (g b) Q E s1) {o : Obj} {es es1 : Array (Int × Value)} {ep : Nat} {t t2 : SetTable} (ho : s.heap.get? a = some o) (hex : o.ExactSet) (hd : o.data = .set es ep t)
    (g1 : ∀ e ∈ es1.toList, OkT P w e) (nd1 : (es1.toList.map txOf).Nodup) (m1 : ∀ k, k ∈ L ↔ k ∈ es1.toList.map txOf) (hb1 : es1.size < scanBound) (hf2 : t2.fits es1.size = true) (hr : Ris t2.place.toList) (hl : w.params.followText "set-order" = true ∨ t2.led = true)
    {wasDummy : Bool} {R : Option Bool → Shared → Prop} (hR : ∀ h', Heap.SameBut a s.heap h' → SetL P w h' a L → R (some true) { s with heap := h' }) :
    wpAny (model P w) A (do
        storeSet a es1 t2
        if (!wasDummy && t2.tooFull) = true then do
            g (relayAll t2 es1 (SetTable.grown es1.size)).2.2
            storeSet a (relayAll t2 es1 (SetTable.grown es1.size)).1 (relayAll t2 es1 (SetTable.grown es1.size)).2.1
            pure (some true)
          else pure (some true)) R E s := by
  have w1 := store_at (es' := es1) (t' := t2) ho hd
  have b1 := Heap.SameBut.update s.heap a (Obj.putSet es1 t2)
  refine wpAny_bind (wpAny_storeSet_of ho hd ?_ (fits_of_scanBound hb1))
  by_cases hc : (!wasDummy && t2.tooFull) = true
  · rw [if_pos hc]
    have p1 := relayAll_perm t2 es1 (SetTable.grown es1.size)
    have p2 := relayAll_fits t2 es1 (SetTable.grown es1.size)
    have p3 := relayAll_ris t2 es1 (SetTable.grown es1.size)
    have p4 := relayAll_led t2 es1 (SetTable.grown es1.size)
    rcases hz : relayAll t2 es1 (SetTable.grown es1.size) with ⟨es2, t3, gv⟩
    rw [hz] at p1 p2 p3 p4
    dsimp only at p1 p2 p3 p4 ⊢
    have sz2 : es2.size = es1.size := by rw [← Array.length_toList, p1.length_eq, Array.length_toList]
    refine wpAny_bind (hg _ _ _ (wpAny_bind (wpAny_storeSet_of w1 rfl ?_ (fits_of_scanBound (by rw [sz2]; exact hb1)))))
    have w2 := store_at (es' := es2) (t' := t3) w1 rfl
    refine wpAny_pure (hR _ (b1.trans (Heap.SameBut.update _ a _)) ⟨_, es2, _, t3, w2, hex, rfl, fun e he => g1 e (p1.mem_iff.mp he), (p1.map txOf).nodup_iff.mpr nd1, fun k => (m1 k).trans (p1.map txOf).mem_iff.symm, by rw [sz2]; exact hb1, p2, p3, hl.imp id fun y => by rw [p4]; exact y⟩)
  · rw [if_neg hc]
    exact wpAny_pure (hR _ b1 ⟨_, es1, _, t2, w1, hex, rfl, g1, nd1, m1, hb1, hf2, hr, hl⟩)
/-- one text more -/
theorem setT_add {Q : Bool → Shared → Prop} (R : SetL P w s.heap a L) (room : L.length + 1 < scanBound) (hQ : ∀ b h', Heap.SameBut a s.heap h' → SetL P w h' a (L ++ [z]) → Q b { s with heap := h' }) :
    wpAny (model P w) A (setAddHashed a (.str z tk) ((kS P w).hash z)) Q E s := by
  obtain ⟨o, es, ep, t, r⟩ := R
  have hel := okT_elems r.ok
  have few : es.size ≤ L.length := by
    have key : ∀ {l m : List Str}, l.Nodup → (∀ x ∈ l, x ∈ m) → l.length ≤ m.length := by
      intro l
      induction l with
      | nil => intro m _ _; exact Nat.zero_le _
      | cons x l ih =>
        intro m hn h
        obtain ⟨h1, h2⟩ := List.nodup_cons.mp hn
        have h3 := ih (m := m.erase x) h2 fun y hy => (List.mem_erase_of_ne fun e => h1 (by rw [← e]; exact hy)).mpr (h y (List.mem_cons_of_mem _ hy))
        have h4 := h x List.mem_cons_self
        have h5 := List.length_erase_of_mem h4
        have h6 := List.length_pos_of_mem h4
        simp only [List.length_cons]
        omega
    have := key r.nd fun x hx => (r.me x).mpr hx
    simpa using this
  have scn : (Value.str z tk).scannable = true := rfl
  have isz : (kS P w).is z (.str z tk) = true := strKind_is P w z tk
  have gv : ∀ (b : Bool) {s1 : Shared} {Q' : Unit → Shared → Prop}, Q' () s1 → wpAny (model P w) A (match b with | true => rule "set.scan.the-table-gave-way" | false => pure ()) Q' E s1 := fun b s1 Q' q => by
    cases b
    · exact wpAny_pure q
    · exact wpAny_rule q
  unfold setAddHashed setAddHashedIn
  refine wpAny_holding (wpAny_bind (wpAny_setState_of r.at_ r.da r.fi ?_))
  show wpAny (model P w) A _ _ _ _
  dsimp only
  rw [byScan_of scn r.sz hel]
  simp only [↓reduceIte]
  unfold setAddByScan
  refine wpAny_bind (wpAny_bind (wpAny_rule (wpAny_bind (wpAny_setScan_of isz r.at_ r.da r.fi hel ?_))))
  cases hf : List.findIdx? (fun e => (kS P w).is z e.2) es.toList with
  | none =>
    dsimp only
    have znot : z ∉ es.toList.map txOf := fun hz => by
      obtain ⟨e, he, q⟩ := List.mem_map.mp hz
      have c := List.findIdx?_eq_none_iff.mp hf e he
      rw [(okT_is (r.ok e he) z).mpr q] at c
      cases c
    have p1 := layNew_perm t es ((kS P w).hash z) (.str z tk)
    have p2 := layNew_fits t es ((kS P w).hash z) (.str z tk)
    have p3 := layNew_ris t es ((kS P w).hash z) (.str z tk) r.ri
    have p4 := layNew_led t es ((kS P w).hash z) (.str z tk)
    rcases hz : layNew t es ((kS P w).hash z) (.str z tk) with ⟨es1, t1, wd, gave⟩
    rw [hz] at p1 p2 p3 p4
    dsimp only at p1 p2 p3 p4 ⊢
    rw [Array.toList_push] at p1
    have pc : es1.toList.Perm (((kS P w).hash z, Value.str z tk) :: es.toList) := p1.trans (List.perm_append_singleton _ _)
    have pk : (es1.toList.map txOf).Perm (z :: es.toList.map txOf) := pc.map txOf
    have ok1 : ∀ e ∈ es1.toList, OkT P w e := fun e he => by
      rcases List.mem_cons.mp (pc.mem_iff.mp he) with y | y
      · rw [y]; exact ⟨z, tk, rfl, rfl⟩
      · exact r.ok e y
    have nd1 : (es1.toList.map txOf).Nodup := pk.nodup_iff.mpr (List.nodup_cons.mpr ⟨znot, r.nd⟩)
    have me1 : ∀ k, k ∈ L ++ [z] ↔ k ∈ es1.toList.map txOf := fun k => by
      rw [pk.mem_iff, List.mem_cons, List.mem_append, List.mem_singleton, r.me k]
      exact Or.comm
    have sz1 : es1.size < scanBound := by
      rw [← Array.length_toList, pc.length_eq, List.length_cons, Array.length_toList]
      omega
    have le1 : w.params.followText "set-order" = true ∨ t1.led = true := r.le.imp id fun y => by rw [p4]; exact y
    refine wpAny_bind (gv _ ?_)
    split
    · refine wpAny_bind ?_
      rw [hashByValue_scannable 8 scn]
      refine wpAny_pure (setT_store (L := L ++ [z]) (fun b s1 Q' q => ?_) r.at_ r.ex r.da ok1 nd1 me1 sz1 ?_ ?_ ?_ fun h' sb q => ?_)
      · exact gv b q
      · split
        · exact p2
        · exact SetTable.fits_plain_off p2
      · split <;> exact p3
      · split <;> exact le1
      · dsimp only
        exact wpAny_pure (hQ _ h' sb q)
    · refine wpAny_bind (wpAny_pure ?_)
      simp only [↓reduceIte]
      refine setT_store (L := L ++ [z]) (fun b s1 Q' q => ?_) r.at_ r.ex r.da ok1 nd1 me1 sz1 p2 p3 le1 fun h' sb q => ?_
      · exact gv b q
      · dsimp only
        exact wpAny_pure (hQ _ h' sb q)
  | some j =>
    dsimp only
    obtain ⟨hj, pj, _⟩ := List.findIdx?_eq_some_iff_getElem.mp hf
    have zin : z ∈ es.toList.map txOf := List.mem_map.mpr ⟨_, List.getElem_mem hj, (okT_is (r.ok _ (List.getElem_mem hj)) z).mp pj⟩
    refine wpAny_pure (wpAny_pure (hQ _ s.heap (Heap.SameBut.refl a s.heap) ⟨o, es, ep, t, r.at_, r.ex, r.da, r.ok, r.nd, fun k => ?_, r.sz, r.fi, r.ri, r.le⟩))
    rw [List.mem_append, List.mem_singleton]
    exact ⟨fun h => h.elim (r.me k).mp fun e => e ▸ zin, fun h => .inl ((r.me k).mpr h)⟩
end
end Nt

namespace Nt
open PySem PySem.Spec PyProof.Rows L2
section
variable {P : Program} {w : World} {A : Around} {R : Result → Shared → Prop} {it a : Addr} {fp wr : List Addr} {G : Array GenState → Array GenState → Prop} {n : Nat} {Pv : Nat → Value → Prop} {St : Nat → Shared → Prop} {L : List Str}
theorem SetL.keep {h h' : Heap} (r : SetL P w h a L) (k : ∀ o, h.get? a = some o → h'.get? a = some o) : SetL P w h' a L := by
  obtain ⟨o, es, ep, t, r⟩ := r
  exact ⟨o, es, ep, t, k o r.at_, r.ex, r.da, r.ok, r.nd, r.me, r.sz, r.fi, r.ri, r.le⟩
/-- the texts of an iterable, one after the other -/
theorem setT_loop (W : WalksS P w A.in1 it fp wr G n Pv St) (off : a ∉ fp) {xs : List Str} (hx : xs.length = n) (room : n + 1 < scanBound) (hv : ∀ i v, Pv i v → ∃ t, v = .str (xs.getD i Str.empty) t) (left : Nat) :
    ∀ {i : Nat} {s : Shared}, i + left = n → St i s → SetL P w s.heap a (xs.take i) → (∀ s', Moved (a :: wr) G s s' → SetL P w s'.heap a xs → R (.ok (.ret .none)) s') →
      codeAny (model P w) A (.builtin "set.update.loop" ⟨[.ref a, .ref it], []⟩) R s := by
  have offw : a ∉ wr := fun h => off (W.sub _ h)
  have sub : ∀ b ∈ wr, b ∈ a :: wr := fun b hb => List.mem_cons_of_mem _ hb
  induction left with
  | zero =>
    intro i s hi st r q
    rw [Nat.add_zero] at hi
    subst hi
    have rr : SetL P w s.heap a xs := by rw [← hx, List.take_length] at r; exact r
    refine codeAny_builtin PyProof.Rows.F.entry_set_update_loop ?_
    rw [Around.under_plainId PyProof.Rows.F.plain_set_update_loop _]
    show wpAny _ A.in1 (pyNext (.ref it) >>= _) _ _ s
    exact wpAny_bind (W.done s _ _ st fun s' mv => wpAny_pure (q s' (mv.mono sub) (rr.keep fun o ho => mv.heap a o offw ho)))
  | succ left ih =>
    intro i s hi st r q
    have hin : i < n := by omega
    refine codeAny_builtin PyProof.Rows.F.entry_set_update_loop ?_
    rw [Around.under_plainId PyProof.Rows.F.plain_set_update_loop _]
    show wpAny _ A.in1 (pyNext (.ref it) >>= _) _ _ s
    refine wpAny_bind (W.item i s _ _ hin st fun v s1 hp st1 mv => ?_)
    obtain ⟨tk, rfl⟩ := hv i v hp
    have r1 : SetL P w s1.heap a (xs.take i) := r.keep fun o ho => mv.heap a o offw ho
    have hlen : (xs.take i).length + 1 < scanBound := by rw [List.length_take]; omega
    have hnext : xs.take (i + 1) = xs.take i ++ [xs.getD i Str.empty] := by
      have hl : i < xs.length := by omega
      rw [List.take_succ_eq_append_getElem hl]
      simp [List.getD, hl]
    show wpAny _ A.in1 (holding [Value.str (xs.getD i Str.empty) tk] (setAdd a (.str (xs.getD i Str.empty) tk)) >>= _) _ _ s1
    refine wpAny_bind (wpAny_holding ?_)
    unfold setAdd
    refine wpAny_holding (wpAny_bind ((kS P w).pyHash (k := xs.getD i Str.empty) (strKind_is _ _ _ _) ?_))
    refine setT_add (s := { s1 with toks := s1.toks + 1 }) r1 hlen fun b h' sb r2 => ?_
    rw [← hnext] at r2
    have others : ∀ b, b ≠ a → h'.get? b = s1.heap.get? b := fun b hb => sb.2 b hb
    refine wpAny_pure ⟨plainId_quiet PyProof.Rows.F.plain_set_update_loop _, ih (by omega) (W.frame _ s1 _ _ st1 (Nat.le_succ _) fun b hb o ho => ?_) r2 fun s2 mv2 r3 => q s2 (Moved.trans W.gtrans ((mv.mono sub).then_heap (Nat.le_succ _) fun b o hb ho => ?_) mv2) r3⟩
    · exact (others b fun h => off (by rw [← h]; exact hb)).trans ho
    · exact (others b fun h => hb (by rw [h]; exact List.mem_cons_self)).trans ho
end
end Nt

namespace Nt
open PySem PySem.Spec PyProof.Rows L2
/-- a new set -/
abbrev bare0 (w : World) : Obj := { cls := .type "set", dict := none, data := .set #[] 0 (.fresh 0 0 (!w.params.followText "set-order")) }
section
variable {P : Program} {w : World} {A : Around} {E : Value → Shared → Prop} {s : Shared}
theorem setL_bare {h : Heap} {a : Addr} (ha : h.get? a = some (bare0 w)) : SetL P w h a [] :=
  ⟨_, #[], 0, _, ha, ⟨rfl, rfl, rfl⟩, rfl, fun e he => by simp at he, by simp, fun z => by simp, by decide, rfl, List.Pairwise.nil, by
    show _ ∨ (!w.params.followText "set-order") = true
    cases w.params.followText "set-order"
    · exact .inr rfl
    · exact .inl rfl⟩
theorem str_of {vs : List Value} {xs : List Str} (h : StrsAre vs xs) : ∀ (i : Nat) (v : Value), vs[i]? = some v → ∃ t, v = .str (xs.getD i Str.empty) t := by
  induction h with
  | nil => intro i v h; simp at h
  | cons z t _ ih =>
    intro i v h
    cases i with
    | zero => simp at h; exact ⟨t, h.symm⟩
    | succ i => obtain ⟨t2, e⟩ := ih i v (by simpa using h); exact ⟨t2, by simpa using e⟩
/-- set(xs), xs a list of texts -/
theorem call_setT {l : Addr} {items : Array Value} {xs : List Str} {Q : Value → Shared → Prop} (hh : A.handled = none) (hl : s.heap.IsList l items) (hi : StrsAre items.toList xs) (few : xs.length + 1 < scanBound)
    (h : ∀ (h' : Heap) (tk : Nat), SetL P w h' s.heap.objs.size xs → (∀ b o, s.heap.get? b = some o → h'.get? b = some o) → Q (.ref s.heap.objs.size) { s with heap := h', toks := tk }) :
    wpAny (model P w) A (call (.type "set") [.ref l]) Q E s := by
  have len : xs.length = items.size := by rw [← StrsAre.len_eq hi, Array.length_toList]
  obtain ⟨cc, tl, k1⟩ := PySem.F.called_set.mro
  have k2 := PySem.F.called_set.made
  have k3 := PySem.F.called_set.sub
  refine wpAny_call (codeAny_of_tree ?_)
  show wpAny _ _ (callAny (.type "set") _) _ _ _
  refine wpAny_pure ⟨Code.quiet_builtin _ (by decide +kernel), codeAny_builtin PySem.F.entry_type_call ?_⟩
  rw [Around.under_plain (weight_type_call_type "set" [.ref l] []) rfl]
  have k4 := PySem.F.called_set.notType
  have k5 := PySem.F.called_set.canCreate
  have k6 := PySem.F.typeCall_set_1 (.ref l)
  repeat any_goals first | assumption | wp_step
  have new : (s.heap.push (bare0 w)).get? s.heap.objs.size = some (bare0 w) := Heap.get?_push_size _ rfl
  refine codeAny_mono (code_set_led1 (.ref l) (E := E) (Q₁ := fun obj s1 => obj = .ref s.heap.objs.size ∧ s1 = { s with heap := s.heap.push (bare0 w) }) ⟨rfl, rfl⟩) fun r s1 hr => ?_
  rcases r with er | fl
  · exact hr
  rcases fl with _ | _ | _ | obj
  · exact hr.elim
  · exact hr.elim
  · exact hr.elim
  obtain ⟨rfl, rfl⟩ := hr
  have tyS : Shared.TypeIs { s with heap := s.heap.push (bare0 w) } (.ref s.heap.objs.size) "set" := ⟨_, new, rfl⟩
  have k7 := PySem.F.called_set.init.lookup
  have k8 := PySem.F.called_set.init.bind (.ref s.heap.objs.size)
  repeat any_goals first | assumption | wp_step
  have keep : ∀ (b : Addr) (o : Obj), s.heap.get? b = some o → b ≠ s.heap.objs.size := fun b o e => Nat.ne_of_lt (Heap.lt_size e)
  let Z : Value → Shared → Prop := fun r s2 => r = .none ∧ ∃ h' tk, s2 = { s with heap := h', toks := tk } ∧ SetL P w h' s.heap.objs.size xs ∧ ∀ b o, s.heap.get? b = some o → h'.get? b = some o
  refine codeAny_mono (codeAny_call_builtin (R := wants Z E) PySem.F.called_set.init.plain PySem.F.entry_set_init (check_set_init_1 tyS ?_)) fun r s2 hr => ?_
  · obtain ⟨⟨oc, od, dt, osl⟩, ho, hc, nl, hd⟩ := hl
    simp only at hc hd
    subst hc hd
    have lS := Heap.lt_size ho
    have here : (s.heap.push (bare0 w)).get? l = some { cls := .type "list", dict := od, data := .seq items nl, slots := osl } := Heap.get?_push_of_some _ ho
    have il : (s.heap.push (bare0 w)).IsList l items := ⟨_, here, rfl, nl, rfl⟩
    have k9 := PySem.F.sub_list_set
    have k10 := PySem.F.sub_list_frozenset
    have k11 : (Value.type "list" == Value.type "dict") = false := by decide
    unfold Builtin.«set.__init__» noKeywords Builtin.Frozenset.updateFrom
    generalize hPI : pyIter = PI
    wp_walk
    subst hPI
    refine wpAny_pyIter_list il (wpAny_bind (wpAny_runValue ?_))
    have free3 : A.in1.in1.in1.handled = none := by simp [hh]
    have size1 : (s.heap.push (bare0 w)).objs.size = s.heap.objs.size + 1 := Heap.size_push ..
    have far : l ≠ (s.heap.push (bare0 w)).objs.size := by rw [size1]; exact Nat.ne_of_lt (Nat.lt_succ_of_lt lS)
    have off : s.heap.objs.size ∉ [(s.heap.push (bare0 w)).objs.size, l] := by
      rw [size1]
      intro z
      simp only [List.mem_cons, List.not_mem_nil, or_false] at z
      rcases z with z | z
      · exact absurd z (Nat.ne_of_lt (Nat.lt_succ_self _))
      · exact absurd z (Nat.ne_of_gt lS)
    have its : ∀ (i : Nat) (v : Value), items[i]? = some v → ∃ t, v = .str (xs.getD i Str.empty) t := fun i v hv => str_of hi i v (by rw [Array.getElem?_toList]; exact hv)
    refine setT_loop ((Walks.list free3 _ l far items).toS) off len (by rw [← len]; exact few) its items.size (i := 0) (by omega) ⟨⟨_, Heap.get?_push_size _ rfl, rfl, rfl⟩, il.push _⟩ ?_ ?_
    · rw [List.take_zero]
      exact setL_bare (Heap.get?_push_of_some _ new)
    · intro s3 mv r3
      obtain ⟨h3, g3, d3, t3, o3⟩ := s3
      have eg : g3 = s.gens := mv.gens
      have ed : d3 = s.drawn := mv.drawn
      have eo : o3 = s.os := mv.os
      subst eg ed eo
      show wpAny _ _ _ _ _ _
      refine wpAny_pure ?_
      show wpAny _ _ (ret Value.none) _ _ _
      refine wpAny_pure ⟨rfl, h3, t3, rfl, r3, fun b o e => ?_⟩
      have hb := Heap.lt_size e
      refine mv.heap b o (fun z => ?_) (Heap.get?_push_of_some _ (Heap.get?_push_of_some _ e))
      simp only [List.mem_cons, List.not_mem_nil, or_false] at z
      rcases z with z | z
      · exact keep b o e z
      · rw [size1] at z
        exact absurd z (Nat.ne_of_lt (Nat.lt_succ_of_lt hb))
  · rcases r with er | fl
    · exact hr
    rcases fl with _ | _ | _ | v
    · exact hr.elim
    · exact hr.elim
    · exact hr.elim
    obtain ⟨rfl, h3, t3, rfl, r3, kp⟩ := hr
    repeat any_goals first | assumption | wp_step
    exact h _ _ r3 kp
end
end Nt

namespace Nt
open PySem PySem.Spec PyProof.Rows L2
section
variable {P : Program} {w : World} {A : Around} {E : Value → Shared → Prop} {s : Shared}
/-- sorted(a set of texts) -/
theorem sorted_setT {a : Addr} {L : List Str} {Q : Value → Shared → Prop} (R : SetL P w s.heap a L) (hh : A.handled = none)
    (hQ : ∀ s' p (out : Array Value) (c : Nat) (ys : List Str), (∀ b o, s.heap.get? b = some o → s'.heap.get? b = some o) → s'.gens = s.gens → s'.os = s.os → s.heap.objs.size ≤ p →
      s'.heap.get? p = some (seqObj "list" out c) → StrsAre out.toList ys → sortedS ys = true → ys.Nodup → (∀ z, z ∈ ys ↔ z ∈ L) → Q (.ref p) s') :
    wpAny (model P w) A (call (.builtin "sorted") [.ref a]) Q E s := by
  obtain ⟨o, es, ep, t, r⟩ := R
  refine Calls.call_function_entry kind_sorted plain_sorted entry_sorted (args_sorted1 _) ?_
  unfold Builtin.«sorted»
  refine wpAny_bind (m := checkCount "sorted" 1 1 _) (wpAny_pure (wpAny_bind (collect_set (A := A.in1) hh ⟨o, r.at_, r.ex.1, r.da⟩ r.fi r.sz r.ri r.le fun s1 vs kp le1 g1 o1 pm => ?_)))
  have lens : vs.length = es.size := by rw [pm.length_eq, List.length_map, Array.length_toList]
  have small : vs.length ≤ sizeLine := by rw [lens]; exact fits_of_scanBound r.sz
  have hstr : ∀ (l : List (Int × Value)), (∀ e ∈ l, OkT P w e) → StrsAre (l.map (·.2)) (l.map txOf) := by
    intro l
    induction l with
    | nil => intro _; exact .nil
    | cons e l ih =>
      intro h
      obtain ⟨z, tk, h1, _⟩ := h e List.mem_cons_self
      have e2 : txOf e = z := by unfold txOf; rw [h1]
      rw [List.map_cons, List.map_cons, h1, e2]
      exact .cons z tk (ih fun x hx => h x (List.mem_cons_of_mem _ hx))
  obtain ⟨xs, hxs, px⟩ : ∃ xs, StrsAre vs xs ∧ xs.Perm (es.toList.map txOf) := by
    have key : ∀ {us vs : List Value}, vs.Perm us → ∀ {ys}, StrsAre us ys → ∃ xs, StrsAre vs xs ∧ xs.Perm ys := by
      intro us vs p
      induction p with
      | nil => intro ys h; cases h; exact ⟨[], .nil, .nil⟩
      | cons v _ ih =>
        intro ys h
        cases h with
        | cons z t h =>
          obtain ⟨xs, h1, h2⟩ := ih h
          exact ⟨z :: xs, .cons z t h1, h2.cons z⟩
      | swap v u l =>
        intro ys h
        cases h with
        | cons z t h => cases h with
          | cons z2 t2 h => exact ⟨z2 :: z :: _, .cons z2 t2 (.cons z t h), .swap z z2 _⟩
      | trans _ _ ih1 ih2 =>
        intro ys h
        obtain ⟨xs, h1, h2⟩ := ih2 h
        obtain ⟨xs2, h3, h4⟩ := ih1 h1
        exact ⟨xs2, h3, h4.trans h2⟩
    exact key pm (hstr _ r.ok)
  refine wpAny_bind (wpAny_newList ?_ small)
  have hoL : (s1.heap.push (seqObj "list" vs.toArray 0)).get? s1.heap.objs.size = some (seqObj "list" vs.toArray 0) := Heap.get?_push_size _ rfl
  refine wpAny_bind (wpAny_holding (wpAny_call_entry slot_list_sort ⟨_, hoL, rfl⟩ entry_list_sort (list_sort_treeKAny strKind_oneLt hoL hxs.keysOf (fun v1 v2 rest e => keyKind_strs (by rw [← e]; exact hxs)) small fun st hp hs => ⟨_, rfl, ?_⟩) (args_list_sort _)))
  obtain ⟨ys, y1, y2, y3⟩ := sorted_out_str hxs hp hs
  obtain ⟨c, hc⟩ := sortedHeap_at (vs := vs) (out := (arrOf st).map (·.2)) hoL
  have py := y2.trans px
  refine wpAny_pure ⟨_, rfl, hQ _ s1.heap.objs.size _ c ys (fun b u e => ?_) g1 o1 le1 hc y1 y3 (py.nodup_iff.mpr r.nd) fun z => py.mem_iff.trans (r.me z).symm⟩
  have e1 := kp b u e
  have lt := Heap.lt_size e1
  show (sortedHeap (s1.heap.push (seqObj "list" vs.toArray 0)) s1.heap.objs.size vs _).get? b = some u
  rw [sortedHeap_old (Nat.ne_of_lt lt) (by rw [size_push']; exact Nat.lt_succ_of_lt lt)]
  exact Heap.get?_push_of_some _ e1
end
/-! ### .. in the hand layer -/
def SetTO (P : Program) (w : World) (a : Addr) (L : List Str) : HO := .ext fun h => SetL P w h a L
section
variable {X : Cx}
theorem setTO_ok {P : Program} {w : World} {H : Hp} {h : Heap} {a : Addr} {L : List Str} (R : SetL P w h a L) : ObjOk P w H h a (SetTO P w a L) := by
  have ⟨o, _, _, _, r⟩ := R
  exact ⟨R, ⟨o, r.at_⟩, fun h1 h2 p k => SetL.keep p k⟩
/-- set(a list of texts) -/
def rSetT (K : PySem.W.Frag) (P : Program) (w : World) : List V → Hp → VK → Prop := fun vs H Q => ∃ (a : Addr) (xs : List Str), vs = [V.ref a] ∧ SqL K H a (xs.map V.str) ∧ xs.length + 1 < scanBound ∧ ∀ p, H p = none → Q (.ref p) (upd H p (SetTO P w p xs))
theorem cr_setT (hc : X.calm = true) : CallR X (.type "set") (rSetT X.K X.prog X.w) := by
  intro pins s σ H vs us Q I r h
  obtain ⟨a, xs, rfl, hs, few, q⟩ := h
  obtain ⟨its, rv, hl, _⟩ := I.list hs
  rw [Vals.ref1 r]
  refine call_setT (I.ok.hd hc) hl.isList (by simpa using rv.strs) few fun h' tk R kp => ?_
  exact ⟨.ref _, upd H s.heap.objs.size (SetTO X.prog X.w s.heap.objs.size xs), I.laid (t' := tk) kp (Nat.le_refl _) (setTO_ok R), rfl, q _ (I.hok.fresh (Nat.le_refl _))⟩
def rSortT (P : Program) (w : World) : List V → Hp → VK → Prop := fun vs H Q => ∃ (a : Addr) (L : List Str), vs = [V.ref a] ∧ H a = some (SetTO P w a L) ∧ L.length ≤ 1000 ∧
  ∀ (ys : List Str) (p : Addr), sortedS ys = true → ys.Nodup → (∀ z, z ∈ ys ↔ z ∈ L) → H p = none → Q (.ref p) (upd H p (.lst (ys.map V.str)))
theorem cr_sortT (hc : X.calm = true) : CallR X (.builtin "sorted") (rSortT X.prog X.w) := by
  intro pins s σ H vs us Q I r h
  obtain ⟨a, L, rfl, ha, few, q⟩ := h
  have R : SetL X.prog X.w s.heap a L := (I.hok a _ ha).1
  rw [Vals.ref1 r]
  refine sorted_setT R (I.ok.hd hc) fun s' p out c ys kp hg ho hp hat hst hso hnd hme => ?_
  have hn : H p = none := I.hok.fresh hp
  have few2 : ys.length ≤ L.length := by
    have key : ∀ {l m : List Str}, l.Nodup → (∀ x ∈ l, x ∈ m) → l.length ≤ m.length := by
      intro l
      induction l with
      | nil => intro m _ _; exact Nat.zero_le _
      | cons x l ih =>
        intro m hn h
        obtain ⟨h1, h2⟩ := List.nodup_cons.mp hn
        have h3 := ih (m := m.erase x) h2 fun y hy => (List.mem_erase_of_ne fun e => h1 (by rw [← e]; exact hy)).mpr (h y (List.mem_cons_of_mem _ hy))
        have h5 := List.length_erase_of_mem (h x List.mem_cons_self)
        have h6 := List.length_pos_of_mem (h x List.mem_cons_self)
        simp only [List.length_cons]
        omega
    exact key hnd fun x hx => (hme x).mp hx
  have hl : (ys.map V.str).length ≤ sizeLine := by rw [List.length_map, sizeLine_eq]; omega
  have J : Inv X pins σ (upd H p (.lst (ys.map V.str))) { s with heap := s'.heap, gens := s'.gens, drawn := s'.drawn, toks := s'.toks } :=
    I.call (ch := []) (Un.laid kp hp hn) (I.hok.laid kp hp ⟨hl, out.toList, c, vals_of_strs hst, hat⟩) (by rw [hg]; exact I.bare) fun _ z => nomatch z
  have e : s' = { s with heap := s'.heap, gens := s'.gens, drawn := s'.drawn, toks := s'.toks } := by
    obtain ⟨h1, g1, d1, t1, o1⟩ := s'
    obtain ⟨h2, g2, d2, t2, o2⟩ := s
    simp only at ho
    subst ho
    rfl
  rw [e]
  exact ⟨.ref p, _, J, rfl, q ys p hso hnd hme hn⟩
end
end Nt

namespace Nt
open PySem PySem.Spec PySem.W PyProof.Rows L2
/-! ### a key def: x.count(a text) -/
section
variable {P : Program} {w : World} {K : PySem.W.Frag} {mg : Str → Option Value} {base : Heap} {A : Around} {outer : List Env} {s0 : Shared} {H : Hp} {f : Addr} {fd : FuncData} {nm qual x c z : Str} {params : Arguments} {scope : Scope} {p1 p2 p3 p4 p5 : Pos} {k0 : Nat} {t : Tok}
abbrev cntBody (x c : Str) (k0 : Nat) (p1 p2 p3 p4 p5 : Pos) : List Stmt := [.Return (some (.Call (.Attribute (.Name x p1) "count" p2) [.Constant (.str c) k0 p3] [] p4)) p5]
theorem count_key (F : FunD K nm qual params (cntBody x c k0 p1 p2 p3 p4 p5) scope [] [] f fd) (S : FnScope [x] [x] scope) (hv : scope.names.lookup x = some .local) (hd : (x == ("__debug__" : Str)) = false) (hline : (p2.endLine == p4.line) = true) (hr : Room 1 A) (e0 : Env0 P w K mg base A outer s0 H)
    (hb : BindsTo s0 fd ⟨[.str z t], []⟩ [(x, .str z t)]) : wpAny (model P w) A (call (.ref f) [.str z t]) (PySem.W.KeyPure (.int (Txt.count z c)) s0) (fun _ _ => False) s0 := by
  obtain ⟨oc, od, dV, kV, doc, pm, an, cdv, ct, osl, rfl, lk, hcd, _, _⟩ := F.ex
  have KX : K.In s0.heap := e0.mod.kin.keeps fun b o e => (e0.bs b o e).1
  have lim : s0.heap.NoLimit := e0.mod.nolimit.keeps fun b o e => (e0.bs b o e).1
  refine wpAny_call (codeAny_call_function hr.depth (KX _ _ lk) rfl S.co S.gen rfl (PySem.W.codeRec_of KX hcd) (hb _ _ _ _ ?_))
  refine wpAny_newFunctionEnv_cells S.kind (fun y hy => .inl (by rw [List.mem_singleton.mp hy]; exact hv)) fun env he s1 x1 => ?_
  subst he
  refine ⟨lim.keeps x1.toInCall.keep, codeAny_func ?_⟩
  have I : Inv (cxOf (L2.CX P w) P w K mg base [x] qual scope f cdv A outer s0 H (fun _ _ _ => False)) [] (start [x] [.str z]) H s1 := inv_start S hr.hd e0 rfl (.cons ⟨t, rfl⟩ .nil) x1
  obtain ⟨h1, tk, rfl, hk⟩ := x1.done
  have X0 := cxOf (L2.CX P w) P w K mg base [x] qual scope f cdv A outer s0 H (fun _ _ _ => False)
  refine wpAny_execs_cons (wpAny_Return_some (wpAny_Call_method_late rfl rfl hline rfl ?_))
  obtain ⟨m, hn, hl⟩ := I.loc
  obtain ⟨u, r, l⟩ := hl 0 x (.str z) rfl rfl (.inl hv)
  have here : ∀ {Q : Value → Shared → Prop} {E : Value → Shared → Prop}, Q u { s0 with heap := h1, toks := tk } → wpAny (model P w) (A.deeper (envOfC qual scope s0.heap.objs.size f cdv)) (eval (.Name x p1) (envOfC qual scope s0.heap.objs.size f cdv)) Q E { s0 with heap := h1, toks := tk } := fun {Q E} q => by
    rcases l with ⟨hk, hm⟩ | ⟨hk, c, hc, hcell⟩
    · exact wpAny_Name (wpAny_loadName_local I.ok.kind hk hn hm q) hd
    · have e : (envOfC qual scope s0.heap.objs.size f cdv).kindOf x = some .local := hv
      rcases hk with hk | hk
      · have hk2 : (envOfC qual scope s0.heap.objs.size f cdv).kindOf x = some .cell := hk
        rw [hk2] at e; cases e
      · have hk2 : (envOfC qual scope s0.heap.objs.size f cdv).kindOf x = some .free := hk
        rw [hk2] at e; cases e
  refine here ?_
  obtain ⟨t2, rfl⟩ := r
  refine ⟨"str", "str.count", PySem.F.plainAttrs_str, PySem.F.slot_str_count, PySem.F.type_str_count, typeIs_str _ z t2, (fun _ e => nomatch e), ?_⟩
  refine Calls.callWith_builtin rfl (Calls.evalArgs_plain ?_)
  refine PyProof.Rows.args_cons (wpAny_Constant_str (PyProof.Rows.args_nil (PySem.SC.count ?_))) rfl
  exact ⟨h1, _, rfl, hk, .int _ _⟩
end
/-! ### sorted(texts, key=such a def) -/
theorem pe_gref {X : Cx} {x : Str} {f : Addr} {pos : Pos} (hg : Gl X x) (hm : X.mg x = some (.ref f)) (hdb : (x == ("__debug__" : Str)) = false := by decide) : PE X (.Name x pos) (tC (.ref f)) :=
  ⟨fun pins s σ H Q I h => ld_glob I hg hm ⟨.ref f, H, I, rfl, h⟩ hdb⟩
def leK (g : Str → Int) : Str → Str → Bool := fun a b => decide (g a ≤ g b)
def rSortKey (K : PySem.W.Frag) (f : Addr) (g : Str → Int) : List V → List V → Hp → VK → Prop := fun vs zs H Q => ∃ (a : Addr) (xs : List Str), vs = [V.ref a] ∧ zs = [V.ref f] ∧ SqL K H a (xs.map V.str) ∧ xs.length ≤ 1000 ∧
  ∀ p, H p = none → Q (.ref p) (upd H p (.lst ((xs.mergeSort (leK g)).map V.str)))
section
variable {X : Cx} {nm qual x c : Str} {params : Arguments} {scope : Scope} {p1 p2 p3 p4 p5 : Pos} {k0 : Nat} {f : Addr} {fd : FuncData}
theorem cr_sortKey (F : FunD X.K nm qual params (cntBody x c k0 p1 p2 p3 p4 p5) scope [] [] f fd) (S : FnScope [x] [x] scope) (hv : scope.names.lookup x = some .local) (hd : (x == ("__debug__" : Str)) = false) (hline : (p2.endLine == p4.line) = true) (hr : Room 1 X.A.in1.in1) (hu : X.A.units + 65 < cLine)
    (hb : ∀ (s : Shared) (v : Value), BindsTo s fd ⟨[v], []⟩ [(x, v)]) : CallRK X (.builtin "sorted") ["key"] (rSortKey X.K f fun z => Txt.count z c) := by
  intro pins s σ H vs zs us ws Q I r rz h
  obtain ⟨a, xs, rfl, rfl, hs, few, q⟩ := h
  obtain ⟨its, rv, hl, _⟩ := I.list hs
  rw [Vals.ref1 r, Vals.ref1 rz]
  have hst : StrsAre its xs := by simpa using rv.strs
  have each : PySem.W.EachIs (fun (v : Value) (z : Str) => ∃ t, v = .str z t) its xs := by
    have key : ∀ {its : List Value} {xs : List Str}, StrsAre its xs → PySem.W.EachIs (fun (v : Value) (z : Str) => ∃ t, v = .str z t) its xs := by
      intro its xs h
      induction h with
      | nil => exact .nil
      | cons z t _ ih => exact .cons ⟨t, rfl⟩ ih
    exact key hst
  have hle : (PySem.W.dataLe false fun z : Str => PyData.int (Txt.count z c)) = leK fun z => Txt.count z c := PySem.W.dataLe_int _
  refine PySem.W.sorted_key_data (b := false) (fun z : Str => PyData.int (Txt.count z c)) hl.isList each (PySem.W.AllAlike.of fun _ _ => by simp [PySem.W.alike]) (PySem.W.Sortable.others fun z => ⟨nofun, fun l => nofun⟩) (by rw [sizeLine_eq]; omega) (fun z _ => ?_) (ksk_s1 _ _) (fun _ => ksk_l1 _ _) (fun _ => ksk_t1 _ _) (fun v z hv2 _ h tk kp => ?_) fun out c' h' tk kp _ hD hlen eo => ?_
  · have e : (PyData.int (Txt.count z c)).depth = 0 := by simp [PyData.depth]
    omega
  · obtain ⟨t, rfl⟩ := hv2
    have I2 : Inv X pins σ H { s with heap := h, toks := tk } := I.kept fun b o e => kp b o e
    exact count_key F S hv hd hline hr (I2.env0.in1.in1) (hb _ _)
  · rw [hle] at eo
    have hso : StrsAre out (xs.mergeSort (leK fun z => Txt.count z c)) := by
      generalize xs.mergeSort (leK fun z => Txt.count z c) = ys at eo
      clear hlen hD
      induction eo with
      | nil => exact .nil
      | cons h _ ih =>
        obtain ⟨t, rfl⟩ := h
        exact .cons _ t ih
    have hl2 : ((xs.mergeSort (leK fun z => Txt.count z c)).map V.str).length ≤ sizeLine := by rw [List.length_map, List.length_mergeSort, sizeLine_eq]; omega
    exact ⟨.ref _, upd H (s.heap.objs.size + 1) (.lst ((xs.mergeSort (leK fun z => Txt.count z c)).map V.str)), I.laid (t' := tk) kp (Nat.le_succ _) ⟨hl2, out, c', vals_of_strs hso, hD⟩, rfl, q _ (I.hok.fresh (Nat.le_succ _))⟩
end
/-! ### sorted(pairs of a number and a text) -/
def rCountS : V → List V → Hp → VK → Prop := fun x xs H Q => ∃ a b, x = .str a ∧ xs = [.str b] ∧ Q (.int (Txt.count a b)) H
theorem mt_countS {X : Cx} : MtR X "str.count" rCountS := mt_count
abbrev eG (g : List Nat → Int) (l : List Nat) : D := .tup [.int (g l), .str (T l)]
def leP (g : List Nat → Int) : List Nat → List Nat → Bool := PySem.W.dataLe false fun l => PyData.tuple [.int (g l), .str (T l)]
def rSortPT (K : PySem.W.Frag) : List V → Hp → VK → Prop := fun vs H Q => ∃ (M : Addr → Prop) (I : Hp → Prop) (x : V) (L : List (List Nat)) (g : List Nat → Int), Wf M I ∧ I H ∧ vs = [x] ∧ Rep K M H x (.lst (L.map (eG g))) ∧ L.length ≤ 1000 ∧ (∀ l ∈ L, ∀ c ∈ l, c < 128) ∧
  ∀ y H', Ex M H H' → I H' → Rep K M H' y (.lst ((L.mergeSort (leP g)).map (eG g))) → Q y H'
theorem cr_sortPT {X : Cx} (hu : X.A.units + 65 < cLine) : CallR X (.builtin "sorted") (rSortPT X.K) := by
  intro pins s σ H vs us Q I r h
  obtain ⟨M, J, x, L, g, hw, hJ, rfl, hx, few, hc, q⟩ := h
  cases hx with
  | @lst a xs _ ha na rs =>
    obtain ⟨its, rv, hl, _⟩ := I.list (SqL.of ha)
    rw [Vals.ref1 r]
    let R : Value → List Nat → Prop := fun v l => (∃ x : V, RelV x v ∧ Rep X.K M H x (eG g l)) ∧ l ∈ L
    have each : EachIs R its L ∧ EachIs (fun v l => ∃ as, Reads s.heap v (PyData.tuple [.int (g l), .str (T l)]) as) its L := by
      have key : ∀ {L0 : List (List Nat)} {xs : List V} {its : List Value}, (∀ l ∈ L0, l ∈ L) → Vals xs its → Reps X.K M H xs (L0.map (eG g)) → EachIs R its L0 ∧ EachIs (fun v l => ∃ as, Reads s.heap v (PyData.tuple [.int (g l), .str (T l)]) as) its L0 := by
        intro L0
        induction L0 with
        | nil =>
          intro xs its _ rv rs
          cases rs
          cases rv
          exact ⟨.nil, .nil⟩
        | cons l L0 ih =>
          intro xs its hin rv rs
          cases rs with
          | cons r1 r2 =>
            cases rv with
            | cons v1 v2 =>
              obtain ⟨i1, i2⟩ := ih (fun l hl => hin l (List.mem_cons_of_mem _ hl)) v2 r2
              have hl := hin l List.mem_cons_self
              have ok : eqOk 1 (eG g l) = true := by simp only [eqOk, eqAll, ok_T (hc l hl), Bool.and_self]
              obtain ⟨as, ra⟩ := Dp.reads I _ _ _ (dp_D r1 ok).1 v1
              exact ⟨.cons ⟨⟨_, v1, r1⟩, hl⟩ i1, .cons ⟨as, ra⟩ i2⟩
      exact key (fun _ h => h) rv rs
    refine sorted_data (enc := fun l => PyData.tuple [.int (g l), .str (T l)]) hl.isList each.1 each.2 (AllAlike.of fun _ _ => by simp [alike, alikeAll]) (Sortable.tuples fun _ => ⟨_, _, rfl⟩) (by rw [sizeLine_eq]; omega) (fun l _ => ?_) fun out ho eo => ?_
    · have e : (PyData.tuple [.int (g l), .str (T l)]).depth = 1 := by simp [PyData.depth, PyData.depthAll]
      omega
    · have back : ∃ ys, Vals ys out ∧ Reps X.K M H ys ((L.mergeSort (leP g)).map (eG g)) := by
        have key : ∀ {Z : List (List Nat)} {out : List Value}, EachIs R out Z → ∃ ys, Vals ys out ∧ Reps X.K M H ys (Z.map (eG g)) := by
          intro Z out h
          induction h with
          | nil => exact ⟨[], .nil, .nil⟩
          | cons h _ ih =>
            obtain ⟨ys, h1, h2⟩ := ih
            obtain ⟨⟨y, h3, h4⟩, _⟩ := h
            exact ⟨y :: ys, .cons h3 h1, .cons h4 h2⟩
        exact key eo
      obtain ⟨ys, v1, r1⟩ := back
      have hlen : ys.length ≤ sizeLine := by rw [r1.length, List.length_map, List.length_mergeSort, sizeLine_eq]; omega
      obtain ⟨ep, he'⟩ := PyProof.Rows.sortedAll_at s.heap its (List.toArray out)
      have hp : H (s.heap.objs.size + 1) = none := I.hok.fresh (Nat.le_succ _)
      have sm := same_upd (o := .lst ys) hp
      exact ⟨.ref _, upd H (s.heap.objs.size + 1) (.lst ys), I.laid (t' := s.toks) (fun _ _ => PyProof.Rows.sortedAll_old) (Nat.le_succ _) ⟨hlen, out, ep, v1, he'⟩, rfl, q _ _ (Ex.of sm) (hw.same sm hJ) (.lst upd_same (hw.fresh hJ hp) (r1.same sm))⟩
end Nt

namespace Nt
open PySem PySem.Spec PyProof.Rows L2
section
variable {P : Program} {w : World} {A : Around} {E : Value → Shared → Prop} {s : Shared}
/-- set(xs), xs a tuple of texts -/
theorem call_setTu {l : Addr} {items : Array Value} {xs : List Str} {Q : Value → Shared → Prop} (hh : A.handled = none) (hl : s.heap.IsTuple l items) (hi : StrsAre items.toList xs) (few : xs.length + 1 < scanBound)
    (h : ∀ (h' : Heap) (tk : Nat), SetL P w h' s.heap.objs.size xs → (∀ b o, s.heap.get? b = some o → h'.get? b = some o) → Q (.ref s.heap.objs.size) { s with heap := h', toks := tk }) :
    wpAny (model P w) A (call (.type "set") [.ref l]) Q E s := by
  have len : xs.length = items.size := by rw [← StrsAre.len_eq hi, Array.length_toList]
  obtain ⟨cc, tl, k1⟩ := PySem.F.called_set.mro
  have k2 := PySem.F.called_set.made
  have k3 := PySem.F.called_set.sub
  refine wpAny_call (codeAny_of_tree ?_)
  show wpAny _ _ (callAny (.type "set") _) _ _ _
  refine wpAny_pure ⟨Code.quiet_builtin _ (by decide +kernel), codeAny_builtin PySem.F.entry_type_call ?_⟩
  rw [Around.under_plain (weight_type_call_type "set" [.ref l] []) rfl]
  have k4 := PySem.F.called_set.notType
  have k5 := PySem.F.called_set.canCreate
  have k6 := PySem.F.typeCall_set_1 (.ref l)
  repeat any_goals first | assumption | wp_step
  have new : (s.heap.push (bare0 w)).get? s.heap.objs.size = some (bare0 w) := Heap.get?_push_size _ rfl
  refine codeAny_mono (code_set_led1 (.ref l) (E := E) (Q₁ := fun obj s1 => obj = .ref s.heap.objs.size ∧ s1 = { s with heap := s.heap.push (bare0 w) }) ⟨rfl, rfl⟩) fun r s1 hr => ?_
  rcases r with er | fl
  · exact hr
  rcases fl with _ | _ | _ | obj
  · exact hr.elim
  · exact hr.elim
  · exact hr.elim
  obtain ⟨rfl, rfl⟩ := hr
  have tyS : Shared.TypeIs { s with heap := s.heap.push (bare0 w) } (.ref s.heap.objs.size) "set" := ⟨_, new, rfl⟩
  have k7 := PySem.F.called_set.init.lookup
  have k8 := PySem.F.called_set.init.bind (.ref s.heap.objs.size)
  repeat any_goals first | assumption | wp_step
  have keep : ∀ (b : Addr) (o : Obj), s.heap.get? b = some o → b ≠ s.heap.objs.size := fun b o e => Nat.ne_of_lt (Heap.lt_size e)
  let Z : Value → Shared → Prop := fun r s2 => r = .none ∧ ∃ h' tk, s2 = { s with heap := h', toks := tk } ∧ SetL P w h' s.heap.objs.size xs ∧ ∀ b o, s.heap.get? b = some o → h'.get? b = some o
  refine codeAny_mono (codeAny_call_builtin (R := wants Z E) PySem.F.called_set.init.plain PySem.F.entry_set_init (check_set_init_1 tyS ?_)) fun r s2 hr => ?_
  · obtain ⟨⟨oc, od, dt, osl⟩, ho, hc, nl, hd⟩ := hl
    simp only at hc hd
    subst hc hd
    have lS := Heap.lt_size ho
    have here : (s.heap.push (bare0 w)).get? l = some { cls := .type "tuple", dict := od, data := .seq items nl, slots := osl } := Heap.get?_push_of_some _ ho
    have il : (s.heap.push (bare0 w)).IsTuple l items := ⟨_, here, rfl, nl, rfl⟩
    have k9 := PySem.F.sub_tuple_set
    have k10 := PySem.F.sub_tuple_frozenset
    have k11 : (Value.type "tuple" == Value.type "dict") = false := by decide
    unfold Builtin.«set.__init__» noKeywords Builtin.Frozenset.updateFrom
    generalize hPI : pyIter = PI
    wp_walk
    subst hPI
    refine wpAny_pyIter_tuple il (wpAny_bind (wpAny_runValue ?_))
    have free3 : A.in1.in1.in1.handled = none := by simp [hh]
    have size1 : (s.heap.push (bare0 w)).objs.size = s.heap.objs.size + 1 := Heap.size_push ..
    have far : l ≠ (s.heap.push (bare0 w)).objs.size := by rw [size1]; exact Nat.ne_of_lt (Nat.lt_succ_of_lt lS)
    have off : s.heap.objs.size ∉ [(s.heap.push (bare0 w)).objs.size, l] := by
      rw [size1]
      intro z
      simp only [List.mem_cons, List.not_mem_nil, or_false] at z
      rcases z with z | z
      · exact absurd z (Nat.ne_of_lt (Nat.lt_succ_self _))
      · exact absurd z (Nat.ne_of_gt lS)
    have its : ∀ (i : Nat) (v : Value), items[i]? = some v → ∃ t, v = .str (xs.getD i Str.empty) t := fun i v hv => str_of hi i v (by rw [Array.getElem?_toList]; exact hv)
    refine setT_loop ((Walks.tuple free3 _ l far items).toS) off len (by rw [← len]; exact few) its items.size (i := 0) (by omega) ⟨⟨_, Heap.get?_push_size _ rfl, rfl, rfl⟩, il.push _⟩ ?_ ?_
    · rw [List.take_zero]
      exact setL_bare (Heap.get?_push_of_some _ new)
    · intro s3 mv r3
      obtain ⟨h3, g3, d3, t3, o3⟩ := s3
      have eg : g3 = s.gens := mv.gens
      have ed : d3 = s.drawn := mv.drawn
      have eo : o3 = s.os := mv.os
      subst eg ed eo
      show wpAny _ _ _ _ _ _
      refine wpAny_pure ?_
      show wpAny _ _ (ret Value.none) _ _ _
      refine wpAny_pure ⟨rfl, h3, t3, rfl, r3, fun b o e => ?_⟩
      have hb := Heap.lt_size e
      refine mv.heap b o (fun z => ?_) (Heap.get?_push_of_some _ (Heap.get?_push_of_some _ e))
      simp only [List.mem_cons, List.not_mem_nil, or_false] at z
      rcases z with z | z
      · exact keep b o e z
      · rw [size1] at z
        exact absurd z (Nat.ne_of_lt (Nat.lt_succ_of_lt hb))
  · rcases r with er | fl
    · exact hr
    rcases fl with _ | _ | _ | v
    · exact hr.elim
    · exact hr.elim
    · exact hr.elim
    obtain ⟨rfl, h3, t3, rfl, r3, kp⟩ := hr
    repeat any_goals first | assumption | wp_step
    exact h _ _ r3 kp
end
section
variable {X : Cx}
/-- set(a list or a tuple of texts) -/
def rSetU (K : PySem.W.Frag) (P : Program) (w : World) : List V → Hp → VK → Prop := fun vs H Q => ∃ (a : Addr) (xs : List Str), vs = [V.ref a] ∧ (SqL K H a (xs.map V.str) ∨ SqT K H a (xs.map V.str)) ∧ xs.length + 1 < scanBound ∧ ∀ p, H p = none → Q (.ref p) (upd H p (SetTO P w p xs))
theorem cr_setU (hc : X.calm = true) : CallR X (.type "set") (rSetU X.K X.prog X.w) := by
  intro pins s σ H vs us Q I r h
  obtain ⟨a, xs, rfl, hs | hs, few, q⟩ := h
  · exact cr_setT hc pins s σ H _ us Q I r ⟨a, xs, rfl, hs, few, q⟩
  · obtain ⟨its, rv, hl, _⟩ := I.tuple hs
    rw [Vals.ref1 r]
    refine call_setTu (I.ok.hd hc) (show s.heap.IsTuple a its.toArray from hl) (by simpa using rv.strs) few fun h' tk R kp => ?_
    exact ⟨.ref _, upd H s.heap.objs.size (SetTO X.prog X.w s.heap.objs.size xs), I.laid (t' := tk) kp (Nat.le_refl _) (setTO_ok R), rfl, q _ (I.hok.fresh (Nat.le_refl _))⟩
end
end Nt

namespace Nt
open PySem PySem.Spec PyProof.Rows L2
section
variable {K : PySem.W.Frag} {M : Addr → Prop} {I : Hp → Prop} {J : It} {G : Hp → Prop} {Y : Nat → Hp → V → Hp → Prop} {α : Type} {as : List α} {g : TG} {tt : TT} {te : TE} {vs : List Nat} {σ : L2.St} {H1 : Hp}
theorem lc_any2 {Q : VK} (w : L2.Walk J as.length G Y) (hw : Wf M I) (hI : I H1) (p : α → Bool) (P : α → D → Prop) (asg : Nat → α → L2.St) (hG : ∀ H', Ex M H1 H' → G H') (hlen : as.length ≤ sizeLine)
    (hb : ∀ k a, as[k]? = some a → ∀ H x H' (Qc : L2.St → Hp → Prop), Ex M H1 H → Y k H x H' → (∀ H2, L2.Same H H2 → Qc (asg k a) H2) → g x (wipe σ vs) H' Qc) (hwp : ∀ k a, wipe (asg k a) vs = wipe σ vs)
    (ht : ∀ L acc k a H, H1 L = none → ¬ M L → as[k]? = some a → Wf (Mq M L) (Iq I L (.lst acc)) → Iq I L (.lst acc) H → Ex (Mq M L) H1 H →
      ∀ Qt : Bool → Hp → Prop, (∀ H3, Iq I L (.lst acc) H3 → Ex (Mq M L) H H3 → Qt (p a) H3) → tt (asg k a) H Qt)
    (he : ∀ L acc k a H, H1 L = none → ¬ M L → as[k]? = some a → p a = true → Wf (Mq M L) (Iq I L (.lst acc)) → Iq I L (.lst acc) H → Ex (Mq M L) H1 H →
      ∀ Qe : VK, (∀ y d H4, P a d → Rep K (Mq M L) H4 y d → Iq I L (.lst acc) H4 → Ex (Mq M L) H H4 → Qe y H4) → te (asg k a) H Qe)
    (hd : ∀ L ds H', H1 L = none → A2 P (as.filter p) ds → Rep K M H' (.ref L) (.lst ds) → Ex M H1 H' → I H' → Q (.ref L) H') :
    ∀ L, H1 L = none → ∃ W : Nat → Nat → Hp → Prop, (∃ m, W 0 m (upd H1 L (.lst []))) ∧ ∀ i m H, W i m H →
      (J.stop i H ∧ Q (.ref L) H) ∨ (J.go i H ∧ ∃ Nx : Hp → Prop, (∀ H', Nx H' → ∃ m', m' < m ∧ W (i + 1) m' H') ∧ ∀ x H', J.yld i H x H' → g x (wipe σ vs) H' fun σ2 H2 => wipe σ2 vs = wipe σ vs ∧ tt σ2 H2 fun b H3 =>
        if b = true then te σ2 H3 fun y H4 => ∃ acc, H4 L = some (.lst acc) ∧ acc.length < sizeLine ∧ Nx (upd H4 L (.lst (acc ++ [y]))) else Nx H3) := by
  intro L hL
  have nM : ¬ M L := hw.fresh hI hL
  have exL : ∀ {H' : Hp}, Ex (Mq M L) H1 H' → Ex M H1 H' := fun e p o n h => e p o (fun m => m.elim n fun z => by rw [z, hL] at h; cases h) h
  refine lc_it w (fun k H => ∃ acc ds, Iq I L (.lst acc) H ∧ A2 P ((as.take k).filter p) ds ∧ Reps K (Mq M L) H acc ds ∧ Ex (Mq M L) H1 H) ?_ (fun k H _ h => ?_) ?_ ?_
  · refine ⟨[], [], ⟨hw.same (same_upd hL) hI, upd_same⟩, .nil, .nil, Ex.of (same_upd hL)⟩
  · obtain ⟨acc, ds, _, _, _, e⟩ := h
    exact hG H (exL e)
  · rintro k x H H' hk ⟨acc, ds, i1, a2, rs, e⟩ y
    have ha : as[k]? = some as[k] := by simp [hk]
    have wf' := hw.add L (.lst acc)
    have hlen2 : acc.length < sizeLine := by
      have l1 := rs.length
      have l2 := a2.length
      have l3 : ((as.take k).filter p).length ≤ (as.take k).length := List.length_filter_le _ _
      have l4 : (as.take k).length ≤ k := by simp; omega
      omega
    refine hb k _ ha H x H' _ (exL e) y fun H2 sm => ⟨hwp k _, ?_⟩
    have i2 := wf'.same sm i1
    have e2 : Ex (Mq M L) H1 H2 := e.trans (Ex.of sm)
    have rs2 := rs.same sm
    refine ht L acc k _ H2 hL nM ha wf' i2 e2 _ fun H3 i3 e3 => ?_
    cases hp : p as[k] with
    | false =>
      simp only [Bool.false_eq_true, if_false]
      refine ⟨acc, ds, i3, ?_, rs2.ex e3, e2.trans e3⟩
      rw [take_snoc ha, List.filter_append]
      simpa [hp] using a2
    | true =>
      simp only [if_true]
      refine he L acc k _ H3 hL nM ha hp wf' i3 (e2.trans e3) _ fun y d H4 py ry i4 e4 => ⟨acc, i4.2, hlen2, ?_⟩
      obtain ⟨i5, e5⟩ := hw.put (o' := .lst (acc ++ [y])) nM i4
      refine ⟨acc ++ [y], ds ++ [d], i5, ?_, ?_, ((e2.trans e3).trans e4).trans e5⟩
      · rw [take_snoc ha, List.filter_append]
        refine a2.append ?_
        simp [hp]
        exact .cons py .nil
      · exact (((rs2.ex e3).ex e4).append (.cons ry .nil)).ex e5
  · rintro H ⟨acc, ds, i1, a2, rs, e⟩
    refine hd L ds H hL ?_ (.lst i1.2 nM (rs.le fun p m => .inl m)) (exL e) i1.1
    simpa using a2
end
def prOf (H : Hp) (x : V) : V × V := match x with
  | .ref p => (match H p with
    | some (.tup [v, w]) => (v, w)
    | _ => (.non, .non))
  | _ => (.non, .non)
section
variable {K : PySem.W.Frag} {M : Addr → Prop} {I : Hp → Prop} {α : Type} {as : List α} {tt : TT} {te : TE} {vs : List Nat} {σ : L2.St} {H1 : Hp} {Q : VK} {enc enc2 : α → D}
/-- [e for x, y in a list of pairs if t] -/
theorem lc_srcP {i j : Nat} {x : V} {d : D} (hw : Wf M I) (hI : I H1) (hx : Rep K M H1 x d) (hd : d.elems = some (as.map fun a => .tup [enc a, enc2 a])) (hlen : as.length ≤ sizeLine) (hwp : ∀ v w, wipe (((wipe σ vs).set i (some v)).set j (some w)) vs = wipe σ vs) (p : α → Bool) (P : α → D → Prop)
    (ht : ∀ (L : Addr) (acc : List V) (k : Nat) (a : α) (v w : V) (H : Hp), H1 L = none → ¬ M L → as[k]? = some a → Rep K (Mq M L) H v (enc a) → Rep K (Mq M L) H w (enc2 a) → Wf (Mq M L) (Iq I L (.lst acc)) → Iq I L (.lst acc) H → Ex (Mq M L) H1 H →
      ∀ Qt : Bool → Hp → Prop, (∀ H3, Iq I L (.lst acc) H3 → Ex (Mq M L) H H3 → Qt (p a) H3) → tt (((wipe σ vs).set i (some v)).set j (some w)) H Qt)
    (he : ∀ (L : Addr) (acc : List V) (k : Nat) (a : α) (v w : V) (H : Hp), H1 L = none → ¬ M L → as[k]? = some a → p a = true → Rep K (Mq M L) H v (enc a) → Rep K (Mq M L) H w (enc2 a) → Wf (Mq M L) (Iq I L (.lst acc)) → Iq I L (.lst acc) H → Ex (Mq M L) H1 H →
      ∀ Qe : VK, (∀ y d H4, P a d → Rep K (Mq M L) H4 y d → Iq I L (.lst acc) H4 → Ex (Mq M L) H H4 → Qe y H4) → te (((wipe σ vs).set i (some v)).set j (some w)) H Qe)
    (hq : ∀ y ds H', A2 P (as.filter p) ds → Rep K M H' y (.lst ds) → Ex M H1 H' → I H' → Q y H') : srcR K (LcR (gTup K 2 (gCons (gName i) (gCons (gName j) gNil))) tt te vs σ Q) x H1 := by
  obtain ⟨S, xs, rfl, r, hS⟩ := src_of hx hd
  have hl : xs.length = as.length := by simpa using r.length
  have key : ∀ {J : It} {G : Hp → Prop} {Y : Nat → Hp → V → Hp → Prop}, L2.Walk J as.length G Y → (∀ H', Ex M H1 H' → G H') → (∀ k H x H', Y k H x H' → H' = H ∧ xs[k]? = some x) → LcR (gTup K 2 (gCons (gName i) (gCons (gName j) gNil))) tt te vs σ Q J H1 := fun {J G Y} w hG hY => by
    have pair : ∀ {k : Nat} {a : α}, as[k]? = some a → ∃ p v w, xs[k]? = some (.ref p) ∧ ¬ M p ∧ H1 p = some (.tup [v, w]) ∧ Rep K M H1 v (enc a) ∧ Rep K M H1 w (enc2 a) ∧ prOf H1 (xs.getD k .non) = (v, w) := fun {k a} ha => by
      obtain ⟨x, hx, rx⟩ := r.get (k := k) (d := .tup [enc a, enc2 a]) (by simp [ha])
      cases rx with
      | @tup p _ _ h n r =>
        cases r with
        | cons r1 r2 => cases r2 with
          | cons r2 r3 =>
            cases r3
            refine ⟨p, _, _, hx, n, h, r1, r2, ?_⟩
            rw [show xs.getD k .non = .ref p by simp [List.getD, hx]]
            simp only [prOf, h]
    refine lc_any2 (K := K) w hw hI p P (fun k _ => ((wipe σ vs).set i (some (prOf H1 (xs.getD k .non)).1)).set j (some (prOf H1 (xs.getD k .non)).2)) hG hlen (fun k a ha => ?_) (fun k a => hwp _ _) ?_ ?_ ?_
    · intro H x H' Qc eH y q
      obtain ⟨rfl, e2⟩ := hY k H x H' y
      obtain ⟨p, v, w, hx, n, h, _, _, ep⟩ := pair ha
      rw [hx] at e2
      cases e2
      rw [ep] at q
      exact ⟨p, [v, w], rfl, SqT.of (eH p _ n h), rfl, v, [w], rfl, w, [], rfl, rfl, q _ (L2.Same.refl _)⟩
    · intro L acc k a H hL nL ha wf hi ex Qt q
      obtain ⟨p, v, w, _, _, _, r1, r2, ep⟩ := pair ha
      rw [ep]
      exact ht L acc k a v w H hL nL ha ((r1.off hL).ex ex) ((r2.off hL).ex ex) wf hi ex Qt q
    · intro L acc k a H hL nL ha hp wf hi ex Qt q
      obtain ⟨p, v, w, _, _, _, r1, r2, ep⟩ := pair ha
      rw [ep]
      exact he L acc k a v w H hL nL ha hp ((r1.off hL).ex ex) ((r2.off hL).ex ex) wf hi ex Qt q
    · exact fun L ds H' hL a2 rp ex hi => hq _ ds H' a2 rp ex hi
  cases S with
  | lst a =>
    refine .inl ⟨a, rfl, ⟨xs, hS H1 (Ex.refl _)⟩, ?_⟩
    have w := walk_list (K := K) (a := a) (xs := xs)
    rw [hl] at w
    exact key w hS fun k H x H' y => y
  | tup a =>
    refine .inr (.inl ⟨a, rfl, ⟨xs, hS H1 (Ex.refl _)⟩, ?_⟩)
    have w := walk_tup (K := K) (a := a) (xs := xs)
    rw [hl] at w
    exact key w hS fun k H x H' y => y
  | txt z =>
    refine .inr (.inr ⟨z, rfl, ?_⟩)
    have hxs : xs = signs z := hS H1 (Ex.refl _)
    have w := walk_str (z := z)
    have hz : z.cps.size = as.length := by rw [← hl, hxs]; simp [signs]
    rw [hz] at w
    refine key w (fun _ _ => trivial) fun k H x H' y => ⟨y.1, ?_⟩
    obtain ⟨_, c, e1, e2⟩ := y
    rw [hxs, e2]
    simp [signs, e1]
end
end Nt

namespace Nt
open PySem PySem.Spec PyProof.Rows L2
section
variable {K : PySem.W.Frag} {M : Addr → Prop} {I : Hp → Prop} {J : It} {G : Hp → Prop} {Y : Nat → Hp → V → Hp → Prop} {α : Type} {as : List α} {g : TG} {tt : TT} {te : TE} {vs : List Nat} {σ : L2.St} {H1 : Hp}
/-- .. where the test may answer either way -/
theorem lc_any3 {Q : VK} (w : L2.Walk J as.length G Y) (hw : Wf M I) (hI : I H1) (P : α → D → Prop) (asg : Nat → α → L2.St) (hG : ∀ H', Ex M H1 H' → G H') (hlen : as.length ≤ sizeLine)
    (hb : ∀ k a, as[k]? = some a → Bd g (Y k) (wipe σ vs) (asg k a)) (hwp : ∀ k a, wipe (asg k a) vs = wipe σ vs)
    (ht : ∀ L acc k a H, H1 L = none → ¬ M L → as[k]? = some a → Wf (Mq M L) (Iq I L (.lst acc)) → Iq I L (.lst acc) H → Ex (Mq M L) H1 H →
      ∀ Qt : Bool → Hp → Prop, (∀ b H3, Iq I L (.lst acc) H3 → Ex (Mq M L) H H3 → Qt b H3) → tt (asg k a) H Qt)
    (he : ∀ L acc k a H, H1 L = none → ¬ M L → as[k]? = some a → Wf (Mq M L) (Iq I L (.lst acc)) → Iq I L (.lst acc) H → Ex (Mq M L) H1 H →
      ∀ Qe : VK, (∀ y d H4, P a d → Rep K (Mq M L) H4 y d → Iq I L (.lst acc) H4 → Ex (Mq M L) H H4 → Qe y H4) → te (asg k a) H Qe)
    (hd : ∀ L bs ds H', H1 L = none → bs.Sublist as → A2 P bs ds → Rep K M H' (.ref L) (.lst ds) → Ex M H1 H' → I H' → Q (.ref L) H') :
    ∀ L, H1 L = none → ∃ W : Nat → Nat → Hp → Prop, (∃ m, W 0 m (upd H1 L (.lst []))) ∧ ∀ i m H, W i m H →
      (J.stop i H ∧ Q (.ref L) H) ∨ (J.go i H ∧ ∃ Nx : Hp → Prop, (∀ H', Nx H' → ∃ m', m' < m ∧ W (i + 1) m' H') ∧ ∀ x H', J.yld i H x H' → g x (wipe σ vs) H' fun σ2 H2 => wipe σ2 vs = wipe σ vs ∧ tt σ2 H2 fun b H3 =>
        if b = true then te σ2 H3 fun y H4 => ∃ acc, H4 L = some (.lst acc) ∧ acc.length < sizeLine ∧ Nx (upd H4 L (.lst (acc ++ [y]))) else Nx H3) := by
  intro L hL
  have nM : ¬ M L := hw.fresh hI hL
  have exL : ∀ {H' : Hp}, Ex (Mq M L) H1 H' → Ex M H1 H' := fun e p o n h => e p o (fun m => m.elim n fun z => by rw [z, hL] at h; cases h) h
  refine lc_it w (fun k H => ∃ acc bs ds, Iq I L (.lst acc) H ∧ bs.Sublist (as.take k) ∧ A2 P bs ds ∧ Reps K (Mq M L) H acc ds ∧ Ex (Mq M L) H1 H) ?_ (fun k H _ h => ?_) ?_ ?_
  · exact ⟨[], [], [], ⟨hw.same (same_upd hL) hI, upd_same⟩, by simp, .nil, .nil, Ex.of (same_upd hL)⟩
  · obtain ⟨acc, bs, ds, _, _, _, _, e⟩ := h
    exact hG H (exL e)
  · rintro k x H H' hk ⟨acc, bs, ds, i1, sb, a2, rs, e⟩ y
    have ha : as[k]? = some as[k] := by simp [hk]
    have wf' := hw.add L (.lst acc)
    have hlen2 : acc.length < sizeLine := by
      have l1 := rs.length
      have l2 := a2.length
      have l3 := sb.length_le
      have l4 : (as.take k).length ≤ k := by simp; omega
      omega
    refine hb k _ ha H x H' _ y fun H2 sm => ⟨hwp k _, ?_⟩
    have i2 := wf'.same sm i1
    have e2 : Ex (Mq M L) H1 H2 := e.trans (Ex.of sm)
    have rs2 := rs.same sm
    refine ht L acc k _ H2 hL nM ha wf' i2 e2 _ fun b H3 i3 e3 => ?_
    cases b with
    | false =>
      simp only [Bool.false_eq_true, if_false]
      refine ⟨acc, bs, ds, i3, ?_, a2, rs2.ex e3, e2.trans e3⟩
      rw [take_snoc ha]
      exact sb.trans (List.sublist_append_left _ _)
    | true =>
      simp only [if_true]
      refine he L acc k _ H3 hL nM ha wf' i3 (e2.trans e3) _ fun y d H4 py ry i4 e4 => ⟨acc, i4.2, hlen2, ?_⟩
      obtain ⟨i5, e5⟩ := hw.put (o' := .lst (acc ++ [y])) nM i4
      refine ⟨acc ++ [y], bs ++ [as[k]], ds ++ [d], i5, ?_, a2.append (.cons py .nil), (((rs2.ex e3).ex e4).append (.cons ry .nil)).ex e5, ((e2.trans e3).trans e4).trans e5⟩
      rw [take_snoc ha]
      exact sb.append (List.Sublist.refl _)
  · rintro H ⟨acc, bs, ds, i1, sb, a2, rs, e⟩
    exact hd L bs ds H hL (by simpa using sb) a2 (.lst i1.2 nM (rs.le fun p m => .inl m)) (exL e) i1.1
end
section
variable {K : PySem.W.Frag} {M : Addr → Prop} {I : Hp → Prop} {tt : TT} {te : TE} {vs : List Nat} {σ : L2.St} {H1 : Hp} {Q : VK}
/-- [e for k in range(..) if ..]: the test may answer either way -/
theorem lc_rngS {i : Nat} {lo : Int} {n : Nat} (hw : Wf M I) (hI : I H1) (hlen : n ≤ sizeLine) (hwp : ∀ v, wipe ((wipe σ vs).set i (some v)) vs = wipe σ vs) (P : Nat → D → Prop)
    (ht : ∀ (L : Addr) (acc : List V) (k : Nat) (H : Hp), H1 L = none → ¬ M L → k < n → Wf (Mq M L) (Iq I L (.lst acc)) → Iq I L (.lst acc) H → Ex (Mq M L) H1 H →
      ∀ Qt : Bool → Hp → Prop, (∀ b H3, Iq I L (.lst acc) H3 → Ex (Mq M L) H H3 → Qt b H3) → tt ((wipe σ vs).set i (some (.int (lo + (k : Nat))))) H Qt)
    (he : ∀ (L : Addr) (acc : List V) (k : Nat) (H : Hp), H1 L = none → ¬ M L → k < n → Wf (Mq M L) (Iq I L (.lst acc)) → Iq I L (.lst acc) H → Ex (Mq M L) H1 H →
      ∀ Qe : VK, (∀ y d H4, P k d → Rep K (Mq M L) H4 y d → Iq I L (.lst acc) H4 → Ex (Mq M L) H H4 → Qe y H4) → te ((wipe σ vs).set i (some (.int (lo + (k : Nat))))) H Qe)
    (hq : ∀ L bs ds H', H1 L = none → bs.Sublist (List.range n) → A2 P bs ds → Rep K M H' (.ref L) (.lst ds) → Ex M H1 H' → I H' → Q (.ref L) H') : LcR (gName i) tt te vs σ Q (Itr lo n) H1 := by
  have w := walk_range (lo := lo) (n := n)
  rw [show Walk (Itr lo n) n = Walk (Itr lo n) (List.range n).length by simp] at w
  have at_ : ∀ {k a : Nat}, (List.range n)[k]? = some a → k < n ∧ a = k := fun {k a} h => by
    have hk := (List.getElem?_eq_some_iff.mp h).1
    rw [List.length_range] at hk
    rw [List.getElem?_range hk] at h
    cases h
    exact ⟨hk, rfl⟩
  refine lc_any3 (K := K) w hw hI P (fun k _ => (wipe σ vs).set i (some (.int (lo + (k : Nat))))) (fun _ _ => trivial) (by simpa using hlen) (fun k a ha => ?_) (fun k a => hwp _) ?_ ?_ ?_
  · exact bd_name fun H x H' y => y
  · intro L acc k a H hL nL ha wf hi ex Qt q
    obtain ⟨h1, rfl⟩ := at_ ha
    exact ht L acc a H hL nL h1 wf hi ex Qt q
  · intro L acc k a H hL nL ha wf hi ex Qt q
    obtain ⟨h1, rfl⟩ := at_ ha
    exact he L acc a H hL nL h1 wf hi ex Qt q
  · exact fun L bs ds H' hL sb a2 rp ex hi => hq L bs ds H' hL sb a2 rp ex hi
end
/-- list(range(n)) -/
theorem sx_lstRg {te : L2.St → Hp → (Int → Int → Hp → Prop) → Prop} {σ : L2.St} {H : Hp} {Q : VK} (h : te σ H fun a b H1 => RgOk a b ∧ ∀ q, H1 q = none → Q (.ref q) (upd H1 q (.lst (rgV a b)))) : tLstRg te σ H Q := h
theorem sx_rg1 {ta : TE} {σ : L2.St} {H : Hp} {Q : Int → Int → Hp → Prop} (h : ta σ H fun x H1 => ∃ n, x = .int n ∧ Q 0 n H1) : tRg1 ta σ H Q := h
end Nt

set_option maxHeartbeats 2000000
namespace G03
open PySem PySem.Spec PyProof.Rows Nt
open L2 hiding rLen

theorem units1 {k : Nat} {A : Around} (r : Room k A) : A.units + 1 < cLine := by have := r.un; omega

def top (i : Nat) : Stmt := PySem.Challenge.pw_newesttells_k03_whole_rows_laid_over.main.body.getD i (.Pass ⟨0, 0, 0, 0⟩)

structure Bl (mg : Str → Option Value) : Prop where
  f_abs : mg "abs" = none
  f_all : mg "all" = none
  f_bool : mg "bool" = none
  f_dict : mg "dict" = none
  f_int : mg "int" = none
  f_isinstance : mg "isinstance" = none
  f_len : mg "len" = none
  f_list : mg "list" = none
  f_range : mg "range" = none
  f_set : mg "set" = none
  f_sorted : mg "sorted" = none
  f_str : mg "str" = none
  f_tuple : mg "tuple" = none
  f_zip : mg "zip" = none

abbrev s_over : Stmt := top 1
abbrev n_over : List Str := ["newer", "older", "sign", "below"]
theorem sc_over : FnScope n_over ["newer", "older"] (defScope s_over) := ⟨rfl, rfl, rfl, by decide +kernel, rfl, by decide +kernel, by decide +kernel⟩

abbrev s_laid : Stmt := top 2
abbrev n_laid : List Str := ["rows", "result", "row"]
theorem sc_laid : FnScope n_laid ["rows"] (defScope s_laid) := ⟨rfl, rfl, rfl, by decide +kernel, rfl, by decide +kernel, by decide +kernel⟩

abbrev s_lot_of : Stmt := top 3
abbrev n_lot_of : List Str := ["row", "sign"]
theorem sc_lot_of : FnScope n_lot_of ["row"] (defScope s_lot_of) := ⟨rfl, rfl, rfl, by decide +kernel, rfl, by decide +kernel, by decide +kernel⟩

abbrev s_blank : Stmt := top 4
abbrev n_blank : List Str := ["many"]
theorem sc_blank : FnScope n_blank ["many"] (defScope s_blank) := ⟨rfl, rfl, rfl, by decide +kernel, rfl, by decide +kernel, by decide +kernel⟩

abbrev s_within : Stmt := top 5
abbrev n_within : List Str := ["one", "other", "sign", "outer"]
theorem sc_within : FnScope n_within ["one", "other"] (defScope s_within) := ⟨rfl, rfl, rfl, by decide +kernel, rfl, by decide +kernel, by decide +kernel⟩

abbrev s_union : Stmt := top 6
abbrev n_union : List Str := ["one", "other", "sign", "second"]
theorem sc_union : FnScope n_union ["one", "other"] (defScope s_union) := ⟨rfl, rfl, rfl, by decide +kernel, rfl, by decide +kernel, by decide +kernel⟩

abbrev s_agree : Stmt := top 7
abbrev n_agree : List Str := ["one", "other", "sign", "second"]
theorem sc_agree : FnScope n_agree ["one", "other"] (defScope s_agree) := ⟨rfl, rfl, rfl, by decide +kernel, rfl, by decide +kernel, by decide +kernel⟩

abbrev s_cut : Stmt := top 8
abbrev n_cut : List Str := ["row", "places", "place"]
theorem sc_cut : FnScope n_cut ["row", "places"] (defScope s_cut) := ⟨rfl, rfl, rfl, by decide +kernel, rfl, by decide +kernel, by decide +kernel⟩

abbrev s_lot_size : Stmt := top 9
abbrev n_lot_size : List Str := ["lot"]
theorem sc_lot_size : FnScope n_lot_size ["lot"] (defScope s_lot_size) := ⟨rfl, rfl, rfl, by decide +kernel, rfl, by decide +kernel, by decide +kernel⟩

abbrev s_ordered_lots : Stmt := top 10
abbrev n_ordered_lots : List Str := ["lots"]
theorem sc_ordered_lots : FnScope n_ordered_lots ["lots"] (defScope s_ordered_lots) := ⟨rfl, rfl, rfl, by decide +kernel, rfl, by decide +kernel, by decide +kernel⟩

abbrev s__law_bag : Stmt := top 12
abbrev n__law_bag : List Str := ["_law_script", "_law_mixed_here", "_law_piece"]
theorem sc__law_bag : FnScope n__law_bag ["_law_script"] (defScope s__law_bag) := ⟨rfl, rfl, rfl, by decide +kernel, rfl, by decide +kernel, by decide +kernel⟩

abbrev s__law_draw : Stmt := top 13
abbrev n__law_draw : List Str := ["_law_bag_here", "_law_sides", "_law_piece", "_law_digit", "_law_state"]
theorem sc__law_draw : FnScope n__law_draw ["_law_bag_here", "_law_sides"] (defScope s__law_draw) := ⟨rfl, rfl, rfl, by decide +kernel, rfl, by decide +kernel, by decide +kernel⟩

abbrev s__law_of : Stmt := top 14
abbrev n__law_of : List Str := ["_law_bag_here", "_law_things"]
theorem sc__law_of : FnScope n__law_of ["_law_bag_here", "_law_things"] (defScope s__law_of) := ⟨rfl, rfl, rfl, by decide +kernel, rfl, by decide +kernel, by decide +kernel⟩

abbrev s__law_mixed : Stmt := top 15
abbrev n__law_mixed : List Str := ["_law_bag_here", "_law_things", "_law_rest", "_law_found", "_law_k"]
theorem sc__law_mixed : FnScope n__law_mixed ["_law_bag_here", "_law_things"] (defScope s__law_mixed) := ⟨rfl, rfl, rfl, by decide +kernel, rfl, by decide +kernel, by decide +kernel⟩

abbrev s__law_same : Stmt := top 16
abbrev n__law_same : List Str := ["_law_found", "_law_due", "_law_mark", "_law_x", "_law_y"]
theorem sc__law_same : FnScope n__law_same ["_law_found", "_law_due"] (defScope s__law_same) := ⟨rfl, rfl, rfl, by decide +kernel, rfl, by decide +kernel, by decide +kernel⟩

abbrev s__law_title : Stmt := top 17
abbrev n__law_title : List Str := ["_law_bag_here", "_law_taken", "_law_title_here", "_law_k", "_law_sign"]
theorem sc__law_title : FnScope n__law_title ["_law_bag_here", "_law_taken"] (defScope s__law_title) := ⟨rfl, rfl, rfl, by decide +kernel, rfl, by decide +kernel, by decide +kernel⟩

abbrev s__law_frame : Stmt := top 18
abbrev n__law_frame : List Str := ["_law_bag_here", "_law_size", "_law_widest", "_law_frame_here", "_law_taken", "_law_k"]
theorem sc__law_frame : FnScope n__law_frame ["_law_bag_here", "_law_size", "_law_widest"] (defScope s__law_frame) := ⟨rfl, rfl, rfl, by decide +kernel, rfl, by decide +kernel, by decide +kernel⟩

abbrev s__law_row : Stmt := top 19
abbrev n__law_row : List Str := ["_law_bag_here", "_law_frame_here", "_law_thin", "_law_pair"]
theorem sc__law_row : FnScope n__law_row ["_law_bag_here", "_law_frame_here", "_law_thin"] (defScope s__law_row) := ⟨rfl, rfl, rfl, by decide +kernel, rfl, by decide +kernel, by decide +kernel⟩

abbrev s__law_once : Stmt := top 20
abbrev n__law_once : List Str := ["_law_things", "_law_found", "_law_thing"]
theorem sc__law_once : FnScope n__law_once ["_law_things"] (defScope s__law_once) := ⟨rfl, rfl, rfl, by decide +kernel, rfl, by decide +kernel, by decide +kernel⟩

abbrev s__law_lay : Stmt := top 21
abbrev n__law_lay : List Str := ["_law_newer_row", "_law_older_row", "_law_x", "_law_y"]
theorem sc__law_lay : FnScope n__law_lay ["_law_newer_row", "_law_older_row"] (defScope s__law_lay) := ⟨rfl, rfl, rfl, by decide +kernel, rfl, by decide +kernel, by decide +kernel⟩

abbrev s__law_lot : Stmt := top 22
abbrev n__law_lot : List Str := ["_law_r", "_law_sign"]
theorem sc__law_lot : FnScope n__law_lot ["_law_r"] (defScope s__law_lot) := ⟨rfl, rfl, rfl, by decide +kernel, rfl, by decide +kernel, by decide +kernel⟩

abbrev s__law_join : Stmt := top 23
abbrev n__law_join : List Str := ["_law_x", "_law_y", "_law_a", "_law_b"]
theorem sc__law_join : FnScope n__law_join ["_law_x", "_law_y"] (defScope s__law_join) := ⟨rfl, rfl, rfl, by decide +kernel, rfl, by decide +kernel, by decide +kernel⟩

abbrev s__law_inner : Stmt := top 24
abbrev n__law_inner : List Str := ["_law_x", "_law_y", "_law_k"]
theorem sc__law_inner : FnScope n__law_inner ["_law_x", "_law_y"] (defScope s__law_inner) := ⟨rfl, rfl, rfl, by decide +kernel, rfl, by decide +kernel, by decide +kernel⟩

abbrev s__law_lots : Stmt := top 25
abbrev n__law_lots : List Str := ["_law_told", "_law_found", "_law_x", "_law_size"]
theorem sc__law_lots : FnScope n__law_lots ["_law_told"] (defScope s__law_lots) := ⟨rfl, rfl, rfl, by decide +kernel, rfl, by decide +kernel, by decide +kernel⟩

abbrev s__law_meet : Stmt := top 26
abbrev n__law_meet : List Str := ["_law_x", "_law_y", "_law_k"]
theorem sc__law_meet : FnScope n__law_meet ["_law_x", "_law_y"] (defScope s__law_meet) := ⟨rfl, rfl, rfl, by decide +kernel, rfl, by decide +kernel, by decide +kernel⟩

abbrev s__law_bent : Stmt := top 27
abbrev n__law_bent : List Str := ["_law_bag_here", "_law_frame_here", "_law_r", "_law_spot"]
theorem sc__law_bent : FnScope n__law_bent ["_law_bag_here", "_law_frame_here", "_law_r"] (defScope s__law_bent) := ⟨rfl, rfl, rfl, by decide +kernel, rfl, by decide +kernel, by decide +kernel⟩

abbrev s__law_pair_so : Stmt := top 28
abbrev n__law_pair_so : List Str := ["_law_x", "_law_y", "_law_a", "_law_b", "_law_due", "_law_told"]
theorem sc__law_pair_so : FnScope n__law_pair_so ["_law_x", "_law_y"] (defScope s__law_pair_so) := ⟨rfl, rfl, rfl, by decide +kernel, rfl, by decide +kernel, by decide +kernel⟩

abbrev s__law_cuts_so : Stmt := top 29
abbrev n__law_cuts_so : List Str := ["_law_bag_here", "_law_frame_here", "_law_x", "_law_spots", "_law_kept", "_law_due", "_law_told", "_law_twice", "_law_k"]
theorem sc__law_cuts_so : FnScope n__law_cuts_so ["_law_bag_here", "_law_frame_here", "_law_x"] (defScope s__law_cuts_so) := ⟨rfl, rfl, rfl, by decide +kernel, rfl, by decide +kernel, by decide +kernel⟩

abbrev s__law_order_so : Stmt := top 30
abbrev n__law_order_so : List Str := ["_law_bag_here", "_law_rows_here", "_law_wide", "_law_listed", "_law_kept", "_law_due", "_law_answer", "_law_r"]
theorem sc__law_order_so : FnScope n__law_order_so ["_law_bag_here", "_law_rows_here", "_law_wide"] (defScope s__law_order_so) := ⟨rfl, rfl, rfl, by decide +kernel, rfl, by decide +kernel, by decide +kernel⟩

abbrev s_law : Stmt := top 31
abbrev n_law : List Str := ["_law_script", "_law_bag_here", "_law_frame_here", "_law_x", "_law_y", "_law_z", "_law_pair", "_law_due", "_law_pile", "_law_k"]
theorem sc_law : FnScope n_law ["_law_script"] (defScope s_law) := ⟨rfl, rfl, rfl, by decide +kernel, rfl, by decide +kernel, by decide +kernel⟩

section
variable {P : Program} {w : World} {K : PySem.W.Frag} {mg : Str → Option Value} {base : Heap}

def t_over (K : PySem.W.Frag) : TS := (tRet (tM1 (rJoin K) (tC (.str (T []))) (tLc (iZipS K (tCons (tVar 0) (tCons (tVar 1) tNil))) (gTup K 2 (gCons (gName 2) (gCons (gName 3) gNil))) tYes (tIf (tTest (tOp (rEqU K) (tVar 2) (tC (.str (T [46]))))) (tVar 3) (tVar 2)) [2, 3])))

theorem w_over (B : Bl mg)  {f : Addr} {cdv : Value} {A : Around} {outer : List Env} {s : Shared} {H : Hp} {E : XK} (hr : Room 0 (A.deeper (envOfC "over" (defScope s_over) s.heap.objs.size f cdv))) :
    PSs (cxOf (L2.CX P w) P w K mg base n_over "over" (defScope s_over) f cdv A outer s H E).nox (defBody s_over) (t_over K ) := by
  have nd := sc_over.nd
  have hu := hr.units
  have hv := units5 hr
  have h1 := units1 hr
  exact (pss_one (ps_ret (pe_joinU (pe_strT (by decide +kernel)) (pe_lc (own := [("sign", 2), ("below", 3)]) rfl nd (pi_zipS (by rfl) B.f_zip (pa_cons (pv 0) (pa_cons (pv 1) pa_nil))) (blkOk_by (own := [("sign", 2), ("below", 3)]) (N := n_over) (sc := defScope s_over) (by decide +kernel)) (fun _ _ _ _ _ => (pg_tup (by rfl) (pgs_cons (pg_name (i := 2) nd rfl (Or.inl rfl)) (pgs_cons (pg_name (i := 3) nd rfl (Or.inl rfl)) pgs_nil)))) (fun _ _ _ _ _ => pts_nil) (fun _ _ _ _ _ => (pe_ifExp (pt_cmpR (op_eqU hu) (pv 2) (pe_strT (by decide +kernel)) (nomark _)) (pv 3) (pv 2)))))))

def t_laid (K : PySem.W.Frag) (sp_over : Sp) : TS := (tSeq (tAsg (tOp (rIx K) (tVar 0) (tC (.int 0))) (gName 1))
    (tSeq (tFor (iSrc K (tSl (rSlU K) (tVar 0) (tPart (tC (.int 1))) tNoPart)) (gName 2)
    (tAsg (tCall sp_over (([] : List V).drop 0) E0 (tCons (tVar 2) (tCons (tVar 1) tNil))) (gName 1)))
    (tRet (tVar 1))))

theorem w_laid (B : Bl mg) {sp_over : Sp} (G_over : Df P w K mg base 1 "over" ["newer", "older"] [] sp_over) {f : Addr} {cdv : Value} {A : Around} {outer : List Env} {s : Shared} {H : Hp} {E : XK} (hr : Room 1 (A.deeper (envOfC "laid" (defScope s_laid) s.heap.objs.size f cdv))) :
    PSs (cxOf (L2.CX P w) P w K mg base n_laid "laid" (defScope s_laid) f cdv A outer s H E).nox (defBody s_laid) (t_laid K sp_over) := by
  have nd := sc_laid.nd
  have hu := hr.units
  have hv := units5 hr
  have h1 := units1 hr
  exact (pss_cons (ps_set (i := 1) nd rfl (Or.inl rfl) (pe_ix ix_seq (pv 0) pe_int (fun _ _ => rfl)))
    (pss_cons (ps_for PassesOwn.never rfl (pi_src (pe_slice sl_U (pv 0) (po_some pe_int) po_none)) (pg_name (i := 2) nd rfl (Or.inl rfl))
    (pss_one (ps_set (i := 1) nd rfl (Or.inl rfl) (pe_df 0 G_over (hr.mono (by decide)) (by rfl) (pa_cons (pv 2) (pa_cons (pv 1) pa_nil))))))
    (pss_one (ps_ret (pv 1)))))

def t_lot_of (K : PySem.W.Frag) : TS := (tRet (tM1 (rJoin K) (tC (.str (T []))) (tLc (iSrc K (tVar 0)) (gName 1) tYes (tIf (tTest (tOp (rEqU K) (tVar 1) (tC (.str (T [46]))))) (tC (.str (T [46]))) (tC (.str (T [43])))) [1])))

theorem w_lot_of (B : Bl mg)  {f : Addr} {cdv : Value} {A : Around} {outer : List Env} {s : Shared} {H : Hp} {E : XK} (hr : Room 0 (A.deeper (envOfC "lot_of" (defScope s_lot_of) s.heap.objs.size f cdv))) :
    PSs (cxOf (L2.CX P w) P w K mg base n_lot_of "lot_of" (defScope s_lot_of) f cdv A outer s H E).nox (defBody s_lot_of) (t_lot_of K ) := by
  have nd := sc_lot_of.nd
  have hu := hr.units
  have hv := units5 hr
  have h1 := units1 hr
  exact (pss_one (ps_ret (pe_joinU (pe_strT (by decide +kernel)) (pe_lc (own := [("sign", 1)]) rfl nd (pi_src (pv 0)) (blkOk_by (own := [("sign", 1)]) (N := n_lot_of) (sc := defScope s_lot_of) (by decide +kernel)) (fun _ _ _ _ _ => (pg_name (i := 1) nd rfl (Or.inl rfl))) (fun _ _ _ _ _ => pts_nil) (fun _ _ _ _ _ => (pe_ifExp (pt_cmpR (op_eqU hu) (pv 1) (pe_strT (by decide +kernel)) (nomark _)) (pe_strT (by decide +kernel)) (pe_strT (by decide +kernel))))))))

def t_blank (K : PySem.W.Frag) : TS := (tRet (tOp rMulU (tC (.str (T [46]))) (tVar 0)))

theorem w_blank (B : Bl mg)  {f : Addr} {cdv : Value} {A : Around} {outer : List Env} {s : Shared} {H : Hp} {E : XK} (hr : Room 0 (A.deeper (envOfC "blank" (defScope s_blank) s.heap.objs.size f cdv))) :
    PSs (cxOf (L2.CX P w) P w K mg base n_blank "blank" (defScope s_blank) f cdv A outer s H E).nox (defBody s_blank) (t_blank K ) := by
  have nd := sc_blank.nd
  have hu := hr.units
  have hv := units5 hr
  have h1 := units1 hr
  exact (pss_one (ps_ret (pe_op op_mulU (pe_strT (by decide +kernel)) (pv 0))))

def t_within (K : PySem.W.Frag) : TS := (tRet (tCB (rAll K) (tCons (tLc (iZipS K (tCons (tVar 0) (tCons (tVar 1) tNil))) (gTup K 2 (gCons (gName 2) (gCons (gName 3) gNil))) tYes (tOrV (tOp (rEqU K) (tVar 2) (tC (.str (T [46])))) (tOp (rEqU K) (tVar 3) (tC (.str (T [43]))))) [2, 3]) tNil)))

theorem w_within (B : Bl mg)  {f : Addr} {cdv : Value} {A : Around} {outer : List Env} {s : Shared} {H : Hp} {E : XK} (hr : Room 0 (A.deeper (envOfC "within" (defScope s_within) s.heap.objs.size f cdv))) :
    PSs (cxOf (L2.CX P w) P w K mg base n_within "within" (defScope s_within) f cdv A outer s H E).nox (defBody s_within) (t_within K ) := by
  have nd := sc_within.nd
  have hu := hr.units
  have hv := units5 hr
  have h1 := units1 hr
  exact (pss_one (ps_ret (pe_callB (cr_all rfl) (by rfl) B.f_all (by decide +kernel) (pa_cons (pe_lc (own := [("sign", 2), ("outer", 3)]) rfl nd (pi_zipS (by rfl) B.f_zip (pa_cons (pv 0) (pa_cons (pv 1) pa_nil))) (blkOk_by (own := [("sign", 2), ("outer", 3)]) (N := n_within) (sc := defScope s_within) (by decide +kernel)) (fun _ _ _ _ _ => (pg_tup (by rfl) (pgs_cons (pg_name (i := 2) nd rfl (Or.inl rfl)) (pgs_cons (pg_name (i := 3) nd rfl (Or.inl rfl)) pgs_nil)))) (fun _ _ _ _ _ => pts_nil) (fun _ _ _ _ _ => (pe_or (pe_cmpR (op_eqU hu) (pv 2) (pe_strT (by decide +kernel)) (nomark _)) (pe_one (pe_cmpR (op_eqU hu) (pv 3) (pe_strT (by decide +kernel)) (nomark _)))))) pa_nil))))

def t_union (K : PySem.W.Frag) : TS := (tRet (tM1 (rJoin K) (tC (.str (T []))) (tLc (iZipS K (tCons (tVar 0) (tCons (tVar 1) tNil))) (gTup K 2 (gCons (gName 2) (gCons (gName 3) gNil))) tYes (tIf (tTest (tOp (rInU K) (tC (.str (T [43]))) (tTup (tCons (tVar 2) (tCons (tVar 3) tNil))))) (tC (.str (T [43]))) (tC (.str (T [46])))) [2, 3])))

theorem w_union (B : Bl mg)  {f : Addr} {cdv : Value} {A : Around} {outer : List Env} {s : Shared} {H : Hp} {E : XK} (hr : Room 0 (A.deeper (envOfC "union" (defScope s_union) s.heap.objs.size f cdv))) :
    PSs (cxOf (L2.CX P w) P w K mg base n_union "union" (defScope s_union) f cdv A outer s H E).nox (defBody s_union) (t_union K ) := by
  have nd := sc_union.nd
  have hu := hr.units
  have hv := units5 hr
  have h1 := units1 hr
  exact (pss_one (ps_ret (pe_joinU (pe_strT (by decide +kernel)) (pe_lc (own := [("sign", 2), ("second", 3)]) rfl nd (pi_zipS (by rfl) B.f_zip (pa_cons (pv 0) (pa_cons (pv 1) pa_nil))) (blkOk_by (own := [("sign", 2), ("second", 3)]) (N := n_union) (sc := defScope s_union) (by decide +kernel)) (fun _ _ _ _ _ => (pg_tup (by rfl) (pgs_cons (pg_name (i := 2) nd rfl (Or.inl rfl)) (pgs_cons (pg_name (i := 3) nd rfl (Or.inl rfl)) pgs_nil)))) (fun _ _ _ _ _ => pts_nil) (fun _ _ _ _ _ => (pe_ifExp (pt_cmpR (op_inU hv) (pe_strT (by decide +kernel)) (pe_tup (pa_cons (pv 2) (pa_cons (pv 3) pa_nil))) (by rfl)) (pe_strT (by decide +kernel)) (pe_strT (by decide +kernel))))))))

def t_agree (K : PySem.W.Frag) : TS := (tRet (tCB (rAll K) (tCons (tLc (iZipS K (tCons (tVar 0) (tCons (tVar 1) tNil))) (gTup K 2 (gCons (gName 2) (gCons (gName 3) gNil))) tYes (tOrV (tOp (rInU K) (tC (.str (T [46]))) (tTup (tCons (tVar 2) (tCons (tVar 3) tNil)))) (tOp (rEqU K) (tVar 2) (tVar 3))) [2, 3]) tNil)))

theorem w_agree (B : Bl mg)  {f : Addr} {cdv : Value} {A : Around} {outer : List Env} {s : Shared} {H : Hp} {E : XK} (hr : Room 0 (A.deeper (envOfC "agree" (defScope s_agree) s.heap.objs.size f cdv))) :
    PSs (cxOf (L2.CX P w) P w K mg base n_agree "agree" (defScope s_agree) f cdv A outer s H E).nox (defBody s_agree) (t_agree K ) := by
  have nd := sc_agree.nd
  have hu := hr.units
  have hv := units5 hr
  have h1 := units1 hr
  exact (pss_one (ps_ret (pe_callB (cr_all rfl) (by rfl) B.f_all (by decide +kernel) (pa_cons (pe_lc (own := [("sign", 2), ("second", 3)]) rfl nd (pi_zipS (by rfl) B.f_zip (pa_cons (pv 0) (pa_cons (pv 1) pa_nil))) (blkOk_by (own := [("sign", 2), ("second", 3)]) (N := n_agree) (sc := defScope s_agree) (by decide +kernel)) (fun _ _ _ _ _ => (pg_tup (by rfl) (pgs_cons (pg_name (i := 2) nd rfl (Or.inl rfl)) (pgs_cons (pg_name (i := 3) nd rfl (Or.inl rfl)) pgs_nil)))) (fun _ _ _ _ _ => pts_nil) (fun _ _ _ _ _ => (pe_or (pe_cmpR (op_inU hv) (pe_strT (by decide +kernel)) (pe_tup (pa_cons (pv 2) (pa_cons (pv 3) pa_nil))) (by rfl)) (pe_one (pe_cmpR (op_eqU hu) (pv 2) (pv 3) (nomark _)))))) pa_nil))))

def t_cut (K : PySem.W.Frag) : TS := (tRet (tM1 (rJoin K) (tC (.str (T []))) (tLc (iSrc K (tVar 1)) (gName 2) tYes (tOp (rIx K) (tVar 0) (tVar 2)) [2])))

theorem w_cut (B : Bl mg)  {f : Addr} {cdv : Value} {A : Around} {outer : List Env} {s : Shared} {H : Hp} {E : XK} (hr : Room 0 (A.deeper (envOfC "cut" (defScope s_cut) s.heap.objs.size f cdv))) :
    PSs (cxOf (L2.CX P w) P w K mg base n_cut "cut" (defScope s_cut) f cdv A outer s H E).nox (defBody s_cut) (t_cut K ) := by
  have nd := sc_cut.nd
  have hu := hr.units
  have hv := units5 hr
  have h1 := units1 hr
  exact (pss_one (ps_ret (pe_joinU (pe_strT (by decide +kernel)) (pe_lc (own := [("place", 2)]) rfl nd (pi_src (pv 1)) (blkOk_by (own := [("place", 2)]) (N := n_cut) (sc := defScope s_cut) (by decide +kernel)) (fun _ _ _ _ _ => (pg_name (i := 2) nd rfl (Or.inl rfl))) (fun _ _ _ _ _ => pts_nil) (fun _ _ _ _ _ => (pe_ix ix_seq (pv 0) (pv 2) (fun _ _ => rfl)))))))

def t_lot_size (K : PySem.W.Frag) : TS := (tRet (tM1 rCount (tVar 0) (tC (.str (T [43])))))

theorem w_lot_size (B : Bl mg)  {f : Addr} {cdv : Value} {A : Around} {outer : List Env} {s : Shared} {H : Hp} {E : XK} (hr : Room 0 (A.deeper (envOfC "lot_size" (defScope s_lot_size) s.heap.objs.size f cdv))) :
    PSs (cxOf (L2.CX P w) P w K mg base n_lot_size "lot_size" (defScope s_lot_size) f cdv A outer s H E).nox (defBody s_lot_size) (t_lot_size K ) := by
  have nd := sc_lot_size.nd
  have hu := hr.units
  have hv := units5 hr
  have h1 := units1 hr
  exact (pss_one (ps_ret (pe_countU (pv 0) (pe_strT (by decide +kernel)))))

def t__law_bag (K : PySem.W.Frag) : TS := (tSeq (tAsg (tC (.int 42012)) (gName 1))
    (tSeq (tFor (iSrc K (tSl (rSlU K) (tVar 0) tNoPart (tPart (tC (.int 63))))) (gName 2)
    (tAsg (tOp rModU (tCB (rInt1) (tCons (tOp (rAddU K) (tOp (rAddU K) (tOp rMulU (tVar 1) (tC (.int 40692))) (tOp rMulU (tOp rModU (tCB (rInt1) (tCons (tVar 2) tNil)) (tC (.int 999983))) (tC (.int 617)))) (tC (.int 71))) tNil)) (tC (.int 2147483399))) (gName 1)))
    (tRet (tLst (tCons (tCB (rList1 K) (tCons (tSl (rSlU K) (tVar 0) tNoPart (tPart (tC (.int 63)))) tNil)) (tCons (tC (.int 0)) (tCons (tC (.int 0)) (tCons (tVar 1) (tCons (tC (.int 0)) tNil)))))))))

theorem w__law_bag (B : Bl mg)  {f : Addr} {cdv : Value} {A : Around} {outer : List Env} {s : Shared} {H : Hp} {E : XK} (hr : Room 0 (A.deeper (envOfC "_law_bag" (defScope s__law_bag) s.heap.objs.size f cdv))) :
    PSs (cxOf (L2.CX P w) P w K mg base n__law_bag "_law_bag" (defScope s__law_bag) f cdv A outer s H E).nox (defBody s__law_bag) (t__law_bag K ) := by
  have nd := sc__law_bag.nd
  have hu := hr.units
  have hv := units5 hr
  have h1 := units1 hr
  exact (pss_cons (ps_set (i := 1) nd rfl (Or.inl rfl) pe_int)
    (pss_cons (ps_for PassesOwn.never rfl (pi_src (pe_slice sl_U (pv 0) po_none (po_some pe_int))) (pg_name (i := 2) nd rfl (Or.inl rfl))
    (pss_one (ps_set (i := 1) nd rfl (Or.inl rfl) (pe_op op_modU (pe_callTy call_intU (by rfl) B.f_int (by decide +kernel) (pa_cons (pe_op op_addU (pe_op op_addU (pe_op op_mulU (pv 1) pe_int) (pe_op op_mulU (pe_op op_modU (pe_callTy call_intU (by rfl) B.f_int (by decide +kernel) (pa_cons (pv 2) pa_nil)) pe_int) pe_int)) pe_int) pa_nil)) pe_int))))
    (pss_one (ps_ret (pe_lst (pa_cons (pe_callTy (call_listU rfl) (by rfl) B.f_list (by decide +kernel) (pa_cons (pe_slice sl_U (pv 0) po_none (po_some pe_int)) pa_nil)) (pa_cons pe_int (pa_cons pe_int (pa_cons (pv 1) (pa_cons pe_int pa_nil))))))))))

def t__law_draw (K : PySem.W.Frag) : TS := (tSeq (tAsg (tOp (rAddU K) (tOp (rIx K) (tVar 0) (tC (.int 4))) (tC (.int 1))) (gSub (tVar 0) (tC (.int 4)) rSetL))
    (tSeq (tIfS (tAnd (tTest (tOp (rEqU K) (tOp (rIx K) (tVar 0) (tC (.int 2))) (tC (.int 0)))) (tTest (tOp rLtU (tOp (rIx K) (tVar 0) (tC (.int 1))) (tCB (rLen K) (tCons (tOp (rIx K) (tVar 0) (tC (.int 0))) tNil))))) (tSeq (tAsg (tCB (rAbs) (tCons (tCB (rInt1) (tCons (tOp (rIx K) (tOp (rIx K) (tVar 0) (tC (.int 0))) (tOp (rIx K) (tVar 0) (tC (.int 1)))) tNil)) tNil)) (gName 2))
    (tSeq (tAsg (tOp (rAddU K) (tOp (rIx K) (tVar 0) (tC (.int 1))) (tC (.int 1))) (gSub (tVar 0) (tC (.int 1)) rSetL))
    (tIfS (tTest (tOp rGeU (tVar 2) (tOp rPowU (tC (.int 10)) (tC (.int 18))))) (tAsg (tVar 2) (gSub (tVar 0) (tC (.int 2)) rSetL)) (tAsg (tOp rModU (tCB (rInt1) (tCons (tOp (rAddU K) (tOp (rAddU K) (tOp rMulU (tOp (rIx K) (tVar 0) (tC (.int 3))) (tC (.int 39373))) (tOp rMulU (tOp rModU (tVar 2) (tC (.int 999983))) (tC (.int 823)))) (tC (.int 37))) tNil)) (tC (.int 2147483563))) (gSub (tVar 0) (tC (.int 3)) rSetL))))) tNext)
    (tSeq (tIfS (tTest (tOp rGtU (tOp (rIx K) (tVar 0) (tC (.int 2))) (tC (.int 0)))) (tSeq (tAsg (tOp rModU (tCB (rInt1) (tCons (tOp (rIx K) (tVar 0) (tC (.int 2))) tNil)) (tVar 1)) (gName 3))
    (tSeq (tAsg (tOp rDivU (tOp (rIx K) (tVar 0) (tC (.int 2))) (tVar 1)) (gSub (tVar 0) (tC (.int 2)) rSetL))
    (tRet (tVar 3)))) tNext)
    (tSeq (tAsg (tCB (rInt1) (tCons (tOp (rIx K) (tVar 0) (tC (.int 3))) tNil)) (gName 4))
    (tSeq (tAsg (tOp rModU (tCB (rInt1) (tCons (tOp (rAddU K) (tOp (rAddU K) (tOp (rAddU K) (tOp rMulU (tOp rMulU (tVar 4) (tVar 4)) (tC (.int 23))) (tOp rMulU (tVar 4) (tC (.int 46021)))) (tOp rMulU (tOp (rIx K) (tVar 0) (tC (.int 4))) (tC (.int 104729)))) (tC (.int 60013))) tNil)) (tC (.int 2147483543))) (gSub (tVar 0) (tC (.int 3)) rSetL))
    (tRet (tOp rModU (tCB (rInt1) (tCons (tOp (rAddU K) (tOp rDivU (tOp (rIx K) (tVar 0) (tC (.int 3))) (tC (.int 67))) (tOp rMulU (tOp rModU (tCB (rInt1) (tCons (tOp (rIx K) (tVar 0) (tC (.int 3))) tNil)) (tC (.int 8009))) (tC (.int 61)))) tNil)) (tVar 1))))))))

theorem w__law_draw (B : Bl mg)  {f : Addr} {cdv : Value} {A : Around} {outer : List Env} {s : Shared} {H : Hp} {E : XK} (hr : Room 0 (A.deeper (envOfC "_law_draw" (defScope s__law_draw) s.heap.objs.size f cdv))) :
    PSs (cxOf (L2.CX P w) P w K mg base n__law_draw "_law_draw" (defScope s__law_draw) f cdv A outer s H E).nox (defBody s__law_draw) (t__law_draw K ) := by
  have nd := sc__law_draw.nd
  have hu := hr.units
  have hv := units5 hr
  have h1 := units1 hr
  exact (pss_cons (ps_asg (pe_op op_addU (pe_ix ix_seq (pv 0) pe_int (fun _ _ => rfl)) pe_int) (pg_sub (pv 0) pe_int set_list))
    (pss_cons (ps_if (PW.pt (pw_and (pt_cmpR (op_eqU hu) (pe_ix ix_seq (pv 0) pe_int (fun _ _ => rfl)) pe_int (nomark _)) (pw_and1 (pt_cmpR op_ltU (pe_ix ix_seq (pv 0) pe_int (fun _ _ => rfl)) (pe_callB call_lenU (by rfl) B.f_len (by decide +kernel) (pa_cons (pe_ix ix_seq (pv 0) pe_int (fun _ _ => rfl)) pa_nil)) (nomark _))))) (pss_cons (ps_set (i := 2) nd rfl (Or.inl rfl) (pe_callB call_absU (by rfl) B.f_abs (by decide +kernel) (pa_cons (pe_callTy call_intU (by rfl) B.f_int (by decide +kernel) (pa_cons (pe_ix ix_seq (pe_ix ix_seq (pv 0) pe_int (fun _ _ => rfl)) (pe_ix ix_seq (pv 0) pe_int (fun _ _ => rfl)) (fun _ _ => rfl)) pa_nil)) pa_nil)))
    (pss_cons (ps_asg (pe_op op_addU (pe_ix ix_seq (pv 0) pe_int (fun _ _ => rfl)) pe_int) (pg_sub (pv 0) pe_int set_list))
    (pss_one (ps_if (pt_cmpR op_geU (pv 2) (pe_op op_powU pe_int pe_int) (nomark _)) (pss_one (ps_asg (pv 2) (pg_sub (pv 0) pe_int set_list))) (pss_one (ps_asg (pe_op op_modU (pe_callTy call_intU (by rfl) B.f_int (by decide +kernel) (pa_cons (pe_op op_addU (pe_op op_addU (pe_op op_mulU (pe_ix ix_seq (pv 0) pe_int (fun _ _ => rfl)) pe_int) (pe_op op_mulU (pe_op op_modU (pv 2) pe_int) pe_int)) pe_int) pa_nil)) pe_int) (pg_sub (pv 0) pe_int set_list))))))) pss_nil)
    (pss_cons (ps_if (pt_cmpR op_gtU (pe_ix ix_seq (pv 0) pe_int (fun _ _ => rfl)) pe_int (nomark _)) (pss_cons (ps_set (i := 3) nd rfl (Or.inl rfl) (pe_op op_modU (pe_callTy call_intU (by rfl) B.f_int (by decide +kernel) (pa_cons (pe_ix ix_seq (pv 0) pe_int (fun _ _ => rfl)) pa_nil)) (pv 1)))
    (pss_cons (ps_asg (pe_op op_divU (pe_ix ix_seq (pv 0) pe_int (fun _ _ => rfl)) (pv 1)) (pg_sub (pv 0) pe_int set_list))
    (pss_one (ps_ret (pv 3))))) pss_nil)
    (pss_cons (ps_set (i := 4) nd rfl (Or.inl rfl) (pe_callTy call_intU (by rfl) B.f_int (by decide +kernel) (pa_cons (pe_ix ix_seq (pv 0) pe_int (fun _ _ => rfl)) pa_nil)))
    (pss_cons (ps_asg (pe_op op_modU (pe_callTy call_intU (by rfl) B.f_int (by decide +kernel) (pa_cons (pe_op op_addU (pe_op op_addU (pe_op op_addU (pe_op op_mulU (pe_op op_mulU (pv 4) (pv 4)) pe_int) (pe_op op_mulU (pv 4) pe_int)) (pe_op op_mulU (pe_ix ix_seq (pv 0) pe_int (fun _ _ => rfl)) pe_int)) pe_int) pa_nil)) pe_int) (pg_sub (pv 0) pe_int set_list))
    (pss_one (ps_ret (pe_op op_modU (pe_callTy call_intU (by rfl) B.f_int (by decide +kernel) (pa_cons (pe_op op_addU (pe_op op_divU (pe_ix ix_seq (pv 0) pe_int (fun _ _ => rfl)) pe_int) (pe_op op_mulU (pe_op op_modU (pe_callTy call_intU (by rfl) B.f_int (by decide +kernel) (pa_cons (pe_ix ix_seq (pv 0) pe_int (fun _ _ => rfl)) pa_nil)) pe_int) pe_int)) pa_nil)) (pv 1)))))))))

def t__law_of (K : PySem.W.Frag) (sp__law_draw : Sp) : TS := (tRet (tOp (rIx K) (tVar 1) (tCall sp__law_draw (([] : List V).drop 0) E0 (tCons (tVar 0) (tCons (tCB (rLen K) (tCons (tVar 1) tNil)) tNil)))))

theorem w__law_of (B : Bl mg) {sp__law_draw : Sp} (G__law_draw : Df P w K mg base 1 "_law_draw" ["_law_bag_here", "_law_sides"] [] sp__law_draw) {f : Addr} {cdv : Value} {A : Around} {outer : List Env} {s : Shared} {H : Hp} {E : XK} (hr : Room 1 (A.deeper (envOfC "_law_of" (defScope s__law_of) s.heap.objs.size f cdv))) :
    PSs (cxOf (L2.CX P w) P w K mg base n__law_of "_law_of" (defScope s__law_of) f cdv A outer s H E).nox (defBody s__law_of) (t__law_of K sp__law_draw) := by
  have nd := sc__law_of.nd
  have hu := hr.units
  have hv := units5 hr
  have h1 := units1 hr
  exact (pss_one (ps_ret (pe_ix ix_seq (pv 1) (pe_df 0 G__law_draw (hr.mono (by decide)) (by rfl) (pa_cons (pv 0) (pa_cons (pe_callB call_lenU (by rfl) B.f_len (by decide +kernel) (pa_cons (pv 1) pa_nil)) pa_nil))) (fun _ _ => rfl))))

def t__law_mixed (K : PySem.W.Frag) (sp__law_draw : Sp) : TS := (tSeq (tPar 2 3 (tCons (tCB (rList1 K) (tCons (tVar 1) tNil)) (tCons (tLst tNil) tNil)))
    (tSeq (tFor (iRng1 (tCons (tCB (rLen K) (tCons (tVar 1) tNil)) tNil)) (gName 4)
    (tDrop (tBM K "list" rAppend (tVar 3) (tCons (tBM K "list" rPopAt (tVar 2) (tCons (tCall sp__law_draw (([] : List V).drop 0) E0 (tCons (tVar 0) (tCons (tCB (rLen K) (tCons (tVar 2) tNil)) tNil))) tNil)) tNil))))
    (tRet (tVar 3))))

theorem w__law_mixed (B : Bl mg) {sp__law_draw : Sp} (G__law_draw : Df P w K mg base 1 "_law_draw" ["_law_bag_here", "_law_sides"] [] sp__law_draw) {f : Addr} {cdv : Value} {A : Around} {outer : List Env} {s : Shared} {H : Hp} {E : XK} (hr : Room 1 (A.deeper (envOfC "_law_mixed" (defScope s__law_mixed) s.heap.objs.size f cdv))) :
    PSs (cxOf (L2.CX P w) P w K mg base n__law_mixed "_law_mixed" (defScope s__law_mixed) f cdv A outer s H E).nox (defBody s__law_mixed) (t__law_mixed K sp__law_draw) := by
  have nd := sc__law_mixed.nd
  have hu := hr.units
  have hv := units5 hr
  have h1 := units1 hr
  exact (pss_cons (ps_par (i := 2) (j := 3) (by rfl) nd rfl rfl (by decide) rfl rfl (pa_cons (pe_callTy (call_listU rfl) (by rfl) B.f_list (by decide +kernel) (pa_cons (pv 1) pa_nil)) (pa_cons (pe_lst pa_nil) pa_nil)) (by rfl))
    (pss_cons (ps_for PassesOwn.never rfl (pi_range1 (by rfl) B.f_range (pa_cons (pe_callB call_lenU (by rfl) B.f_len (by decide +kernel) (pa_cons (pv 1) pa_nil)) pa_nil)) (pg_name (i := 4) nd rfl (Or.inl rfl))
    (pss_one (ps_expr (pe_bm PySem.F.plainAttrs_list PySem.F.slot_list_append PySem.F.type_list_append mt_append (pv 3) (pa_cons (pe_bm PySem.F.plainAttrs_list PySem.F.slot_list_pop PySem.F.type_list_pop mt_popAt (pv 2) (pa_cons (pe_df 0 G__law_draw (hr.mono (by decide)) (by rfl) (pa_cons (pv 0) (pa_cons (pe_callB call_lenU (by rfl) B.f_len (by decide +kernel) (pa_cons (pv 2) pa_nil)) pa_nil))) pa_nil)) pa_nil)))))
    (pss_one (ps_ret (pv 3)))))

def t__law_same (K : PySem.W.Frag) (sp__law_same : Sp) : TS := (tSeq (tIfS (tOr (tTest (tOp rIsN (tVar 1) (tC .non))) (tTest (tOp rIsN (tVar 0) (tC .non)))) (tRet (tAndV (tOp rIsN (tVar 1) (tC .non)) (tOp rIsN (tVar 0) (tC .non)))) tNext)
    (tSeq (tIfS (tB (tCB (rIsiT K) (tCons (tVar 1) (tCons (tTup (tCons (tC (.ty "list")) (tCons (tC (.ty "tuple")) tNil))) tNil)))) (tSeq (tIfS (tOr (tTest (tOp (rNeU K) (tCB (rIsi K) (tCons (tVar 0) (tCons (tC (.ty "list")) tNil))) (tCB (rIsi K) (tCons (tVar 1) (tCons (tC (.ty "list")) tNil))))) (tTest (tOp (rNeU K) (tCB (rIsi K) (tCons (tVar 0) (tCons (tC (.ty "tuple")) tNil))) (tCB (rIsi K) (tCons (tVar 1) (tCons (tC (.ty "tuple")) tNil)))))) (tRet (tC (.bl false))) tNext)
    (tRet (tAndV (tOp (rEqU K) (tCB (rLen K) (tCons (tVar 0) tNil)) (tCB (rLen K) (tCons (tVar 1) tNil))) (tCB (rAll K) (tCons (tLc (iZipS K (tCons (tVar 0) (tCons (tVar 1) tNil))) (gTup K 2 (gCons (gName 3) (gCons (gName 4) gNil))) tYes (tCall sp__law_same (([] : List V).drop 0) E0 (tCons (tVar 3) (tCons (tVar 4) tNil))) [3, 4]) tNil))))) tNext)
    (tSeq (tIfS (tB (tCB (rIsi K) (tCons (tVar 1) (tCons (tC (.ty "dict")) tNil)))) (tSeq (tIfS (tOr (tNot (tB (tCB (rIsi K) (tCons (tVar 0) (tCons (tC (.ty "dict")) tNil))))) (tNot (tB (tCall sp__law_same (([] : List V).drop 0) E0 (tCons (tCB (rList1 K) (tCons (tVar 0) tNil)) (tCons (tCB (rList1 K) (tCons (tVar 1) tNil)) tNil)))))) (tRet (tC (.bl false))) tNext)
    (tRet (tCB (rAll K) (tCons (tLc (iSrc K (tCB (rList1 K) (tCons (tVar 1) tNil))) (gName 2) tYes (tCall sp__law_same (([] : List V).drop 0) E0 (tCons (tDGet (tVar 0) (tVar 2)) (tCons (tDGet (tVar 1) (tVar 2)) tNil))) [2]) tNil)))) tNext)
    (tSeq (tIfS (tOr (tTest (tOp (rNeU K) (tCB (rIsi K) (tCons (tVar 1) (tCons (tC (.ty "bool")) tNil))) (tCB (rIsi K) (tCons (tVar 0) (tCons (tC (.ty "bool")) tNil))))) (tTest (tOp (rNeU K) (tCB (rIsi K) (tCons (tVar 1) (tCons (tC (.ty "int")) tNil))) (tCB (rIsi K) (tCons (tVar 0) (tCons (tC (.ty "int")) tNil)))))) (tRet (tC (.bl false))) tNext)
    (tRet (tAndV (tOp (rEqU K) (tCB (rIsi K) (tCons (tVar 1) (tCons (tC (.ty "str")) tNil))) (tCB (rIsi K) (tCons (tVar 0) (tCons (tC (.ty "str")) tNil)))) (tOp (rEqU K) (tVar 0) (tVar 1))))))))

theorem w__law_same {kk : Nat} (B : Bl mg) {sp__law_same : Sp} (G__law_same : Df P w K mg base kk "_law_same" ["_law_found", "_law_due"] [] sp__law_same) {f : Addr} {cdv : Value} {A : Around} {outer : List Env} {s : Shared} {H : Hp} {E : XK} (hr : Room kk (A.deeper (envOfC "_law_same" (defScope s__law_same) s.heap.objs.size f cdv))) :
    PSs (cxOf (L2.CX P w) P w K mg base n__law_same "_law_same" (defScope s__law_same) f cdv A outer s H E).nox (defBody s__law_same) (t__law_same K sp__law_same) := by
  have nd := sc__law_same.nd
  have hu := hr.units
  have hv := units5 hr
  have h1 := units1 hr
  exact (pss_cons (ps_if (PW.pt (pw_or (pt_cmpR op_isN1 (pv 1) pe_non (nomark _)) (pw_or1 (pt_cmpR op_isN1 (pv 0) pe_non (nomark _))))) (pss_one (ps_ret (pe_and (pe_cmpR op_isN1 (pv 1) pe_non (nomark _)) (pe_one (pe_cmpR op_isN1 (pv 0) pe_non (nomark _)))))) pss_nil)
    (pss_cons (ps_if (pt_val (pe_callB call_isiT (by rfl) B.f_isinstance (by decide +kernel) (pa_cons (pv 1) (pa_cons (pe_tup (pa_cons (pe_bltn (by rfl) B.f_list (by decide +kernel) rfl) (pa_cons (pe_bltn (by rfl) B.f_tuple (by decide +kernel) rfl) pa_nil))) pa_nil)))) (pss_cons (ps_if (PW.pt (pw_or (pt_cmpR (op_neU hu) (pe_callB call_isi (by rfl) B.f_isinstance (by decide +kernel) (pa_cons (pv 0) (pa_cons (pe_bltn (by rfl) B.f_list (by decide +kernel) rfl) pa_nil))) (pe_callB call_isi (by rfl) B.f_isinstance (by decide +kernel) (pa_cons (pv 1) (pa_cons (pe_bltn (by rfl) B.f_list (by decide +kernel) rfl) pa_nil))) (nomark _)) (pw_or1 (pt_cmpR (op_neU hu) (pe_callB call_isi (by rfl) B.f_isinstance (by decide +kernel) (pa_cons (pv 0) (pa_cons (pe_bltn (by rfl) B.f_tuple (by decide +kernel) rfl) pa_nil))) (pe_callB call_isi (by rfl) B.f_isinstance (by decide +kernel) (pa_cons (pv 1) (pa_cons (pe_bltn (by rfl) B.f_tuple (by decide +kernel) rfl) pa_nil))) (nomark _))))) (pss_one (ps_ret pe_bl)) pss_nil)
    (pss_one (ps_ret (pe_and (pe_cmpR (op_eqU hu) (pe_callB call_lenU (by rfl) B.f_len (by decide +kernel) (pa_cons (pv 0) pa_nil)) (pe_callB call_lenU (by rfl) B.f_len (by decide +kernel) (pa_cons (pv 1) pa_nil)) (nomark _)) (pe_one (pe_callB (cr_all rfl) (by rfl) B.f_all (by decide +kernel) (pa_cons (pe_lc (own := [("_law_x", 3), ("_law_y", 4)]) rfl nd (pi_zipS (by rfl) B.f_zip (pa_cons (pv 0) (pa_cons (pv 1) pa_nil))) (blkOk_by (own := [("_law_x", 3), ("_law_y", 4)]) (N := n__law_same) (sc := defScope s__law_same) (by decide +kernel)) (fun _ _ _ _ _ => (pg_tup (by rfl) (pgs_cons (pg_name (i := 3) nd rfl (Or.inl rfl)) (pgs_cons (pg_name (i := 4) nd rfl (Or.inl rfl)) pgs_nil)))) (fun _ _ _ _ _ => pts_nil) (fun _ _ _ _ _ => (pe_df 0 G__law_same (hr.mono (Nat.le_refl _)) (by rfl) (pa_cons (pv 3) (pa_cons (pv 4) pa_nil))))) pa_nil))))))) pss_nil)
    (pss_cons (ps_if (pt_val (pe_callB call_isi (by rfl) B.f_isinstance (by decide +kernel) (pa_cons (pv 1) (pa_cons (pe_bltn (by rfl) B.f_dict (by decide +kernel) rfl) pa_nil)))) (pss_cons (ps_if (PW.pt (pw_or (pt_not (pt_val (pe_callB call_isi (by rfl) B.f_isinstance (by decide +kernel) (pa_cons (pv 0) (pa_cons (pe_bltn (by rfl) B.f_dict (by decide +kernel) rfl) pa_nil))))) (pw_or1 (pt_not (pt_val (pe_df 0 G__law_same (hr.mono (Nat.le_refl _)) (by rfl) (pa_cons (pe_callTy (call_listU rfl) (by rfl) B.f_list (by decide +kernel) (pa_cons (pv 0) pa_nil)) (pa_cons (pe_callTy (call_listU rfl) (by rfl) B.f_list (by decide +kernel) (pa_cons (pv 1) pa_nil)) pa_nil)))))))) (pss_one (ps_ret pe_bl)) pss_nil)
    (pss_one (ps_ret (pe_callB (cr_all rfl) (by rfl) B.f_all (by decide +kernel) (pa_cons (pe_lc (own := [("_law_mark", 2)]) rfl nd (pi_src (pe_callTy (call_listU rfl) (by rfl) B.f_list (by decide +kernel) (pa_cons (pv 1) pa_nil))) (blkOk_by (own := [("_law_mark", 2)]) (N := n__law_same) (sc := defScope s__law_same) (by decide +kernel)) (fun _ _ _ _ _ => (pg_name (i := 2) nd rfl (Or.inl rfl))) (fun _ _ _ _ _ => pts_nil) (fun _ _ _ _ _ => (pe_df 0 G__law_same (hr.mono (Nat.le_refl _)) (by rfl) (pa_cons (pe_dget h1 (pv 0) (pv 2) (fun _ _ => rfl)) (pa_cons (pe_dget h1 (pv 1) (pv 2) (fun _ _ => rfl)) pa_nil))))) pa_nil))))) pss_nil)
    (pss_cons (ps_if (PW.pt (pw_or (pt_cmpR (op_neU hu) (pe_callB call_isi (by rfl) B.f_isinstance (by decide +kernel) (pa_cons (pv 1) (pa_cons (pe_bltn (by rfl) B.f_bool (by decide +kernel) rfl) pa_nil))) (pe_callB call_isi (by rfl) B.f_isinstance (by decide +kernel) (pa_cons (pv 0) (pa_cons (pe_bltn (by rfl) B.f_bool (by decide +kernel) rfl) pa_nil))) (nomark _)) (pw_or1 (pt_cmpR (op_neU hu) (pe_callB call_isi (by rfl) B.f_isinstance (by decide +kernel) (pa_cons (pv 1) (pa_cons (pe_bltn (by rfl) B.f_int (by decide +kernel) rfl) pa_nil))) (pe_callB call_isi (by rfl) B.f_isinstance (by decide +kernel) (pa_cons (pv 0) (pa_cons (pe_bltn (by rfl) B.f_int (by decide +kernel) rfl) pa_nil))) (nomark _))))) (pss_one (ps_ret pe_bl)) pss_nil)
    (pss_one (ps_ret (pe_and (pe_cmpR (op_eqU hu) (pe_callB call_isi (by rfl) B.f_isinstance (by decide +kernel) (pa_cons (pv 1) (pa_cons (pe_bltn (by rfl) B.f_str (by decide +kernel) rfl) pa_nil))) (pe_callB call_isi (by rfl) B.f_isinstance (by decide +kernel) (pa_cons (pv 0) (pa_cons (pe_bltn (by rfl) B.f_str (by decide +kernel) rfl) pa_nil))) (nomark _)) (pe_one (pe_cmpR (op_eqU hu) (pv 0) (pv 1) (nomark _))))))))))

def t__law_title (K : PySem.W.Frag) (sp__law_draw sp__law_of : Sp) : TS := (tSeq (tIfS (tTest (tOp (rEqU K) (tCall sp__law_draw (([] : List V).drop 0) E0 (tCons (tVar 0) (tCons (tC (.int 8)) tNil))) (tC (.int 0)))) (tAsg (tCall sp__law_of (([] : List V).drop 0) E0 (tCons (tVar 0) (tCons (tLst (tCons (tC (.str (T [115, 101, 108, 102]))) (tCons (tC (.str (T [99, 101, 108, 108]))) (tCons (tC (.str (T [115, 101, 101, 100]))) (tCons (tC (.str (T [114, 111, 119]))) (tCons (tC (.str (T [97, 97]))) (tCons (tC (.str (T [98, 97, 110, 100]))) (tCons (tC (.str (T [122, 122, 122, 122, 122, 122]))) (tCons (tC (.str (T [109, 111, 115, 116]))) (tCons (tC (.str (T [109, 97, 100, 101]))) tNil)))))))))) tNil))) (gName 2)) (tAsg (tM1 (rJoin K) (tC (.str (T []))) (tLc (iRng1 (tCons (tOp (rAddU K) (tC (.int 1)) (tCall sp__law_draw (([] : List V).drop 0) E0 (tCons (tVar 0) (tCons (tC (.int 6)) tNil)))) tNil)) (gName 3) tYes (tCall sp__law_of (([] : List V).drop 0) E0 (tCons (tVar 0) (tCons (tC (.str (T [113, 119, 101, 114, 116, 122, 117, 105, 111, 112, 97, 115, 100, 102, 103, 104, 106, 107, 108, 121, 120, 99, 118, 98, 110, 109]))) tNil))) [3])) (gName 2)))
    (tSeq (tIfS (tTest (tOp (rInU K) (tVar 2) (tVar 1))) (tAsg (tOp (rIx K) (tLc (iSrc K (tC (.str (T [109, 110, 98, 118, 99, 120, 121, 108, 107, 106, 104, 103, 102, 100, 115, 97, 112, 111, 105, 117, 122, 116, 114, 101, 119, 113])))) (gName 4) (tTest (tOp (rNiU K) (tVar 4) (tVar 1))) (tVar 4) [4]) (tC (.int 0))) (gName 2)) tNext)
    (tRet (tVar 2))))

theorem w__law_title (B : Bl mg) {sp__law_draw : Sp} (G__law_draw : Df P w K mg base 1 "_law_draw" ["_law_bag_here", "_law_sides"] [] sp__law_draw) {sp__law_of : Sp} (G__law_of : Df P w K mg base 2 "_law_of" ["_law_bag_here", "_law_things"] [] sp__law_of) {f : Addr} {cdv : Value} {A : Around} {outer : List Env} {s : Shared} {H : Hp} {E : XK} (hr : Room 2 (A.deeper (envOfC "_law_title" (defScope s__law_title) s.heap.objs.size f cdv))) :
    PSs (cxOf (L2.CX P w) P w K mg base n__law_title "_law_title" (defScope s__law_title) f cdv A outer s H E).nox (defBody s__law_title) (t__law_title K sp__law_draw sp__law_of) := by
  have nd := sc__law_title.nd
  have hu := hr.units
  have hv := units5 hr
  have h1 := units1 hr
  exact (pss_cons (ps_if (pt_cmpR (op_eqU hu) (pe_df 0 G__law_draw (hr.mono (by decide)) (by rfl) (pa_cons (pv 0) (pa_cons pe_int pa_nil))) pe_int (nomark _)) (pss_one (ps_set (i := 2) nd rfl (Or.inl rfl) (pe_df 0 G__law_of (hr.mono (by decide)) (by rfl) (pa_cons (pv 0) (pa_cons (pe_lst (pa_cons (pe_strT (by decide +kernel)) (pa_cons (pe_strT (by decide +kernel)) (pa_cons (pe_strT (by decide +kernel)) (pa_cons (pe_strT (by decide +kernel)) (pa_cons (pe_strT (by decide +kernel)) (pa_cons (pe_strT (by decide +kernel)) (pa_cons (pe_strT (by decide +kernel)) (pa_cons (pe_strT (by decide +kernel)) (pa_cons (pe_strT (by decide +kernel)) pa_nil)))))))))) pa_nil))))) (pss_one (ps_set (i := 2) nd rfl (Or.inl rfl) (pe_joinU (pe_strT (by decide +kernel)) (pe_lc (own := [("_law_k", 3)]) rfl nd (pi_range1 (by rfl) B.f_range (pa_cons (pe_op op_addU pe_int (pe_df 0 G__law_draw (hr.mono (by decide)) (by rfl) (pa_cons (pv 0) (pa_cons pe_int pa_nil)))) pa_nil)) (blkOk_by (own := [("_law_k", 3)]) (N := n__law_title) (sc := defScope s__law_title) (by decide +kernel)) (fun _ _ _ _ _ => (pg_name (i := 3) nd rfl (Or.inl rfl))) (fun _ _ _ _ _ => pts_nil) (fun _ _ _ _ _ => (pe_df 0 G__law_of (hr.mono (by decide)) (by rfl) (pa_cons (pv 0) (pa_cons (pe_strT (by decide +kernel)) pa_nil)))))))))
    (pss_cons (ps_if (pt_cmpR (op_inU hv) (pv 2) (pv 1) (by rfl)) (pss_one (ps_set (i := 2) nd rfl (Or.inl rfl) (pe_ix ix_seq (pe_lc (own := [("_law_sign", 4)]) rfl nd (pi_src (pe_strT (by decide +kernel))) (blkOk_by (own := [("_law_sign", 4)]) (N := n__law_title) (sc := defScope s__law_title) (by decide +kernel)) (fun _ _ _ _ _ => (pg_name (i := 4) nd rfl (Or.inl rfl))) (fun _ _ _ _ _ => (pts_one (pt_cmpR (op_niU hv) (pv 4) (pv 1) (by rfl)))) (fun _ _ _ _ _ => (pv 4))) pe_int (fun _ _ => rfl)))) pss_nil)
    (pss_one (ps_ret (pv 2)))))

def t__law_frame (K : PySem.W.Frag) (sp__law_draw sp__law_title : Sp) : TS := (tSeq (tPar 3 4 (tCons (tLst tNil) (tCons (tLst tNil) tNil)))
    (tSeq (tFor (iRng1 (tCons (tVar 1) tNil)) (gName 5)
    (tSeq (tDrop (tBM K "list" rAppend (tVar 4) (tCons (tCall sp__law_title (([] : List V).drop 0) E0 (tCons (tVar 0) (tCons (tVar 4) tNil))) tNil)))
    (tDrop (tBM K "list" rAppend (tVar 3) (tCons (tTup (tCons (tOp (rIx K) (tVar 4) (tUn rNegU (tC (.int 1)))) (tCons (tOp (rAddU K) (tC (.int 1)) (tCall sp__law_draw (([] : List V).drop 0) E0 (tCons (tVar 0) (tCons (tVar 2) tNil)))) tNil))) tNil)))))
    (tRet (tVar 3))))

theorem w__law_frame (B : Bl mg) {sp__law_draw : Sp} (G__law_draw : Df P w K mg base 1 "_law_draw" ["_law_bag_here", "_law_sides"] [] sp__law_draw) {sp__law_title : Sp} (G__law_title : Df P w K mg base 3 "_law_title" ["_law_bag_here", "_law_taken"] [] sp__law_title) {f : Addr} {cdv : Value} {A : Around} {outer : List Env} {s : Shared} {H : Hp} {E : XK} (hr : Room 3 (A.deeper (envOfC "_law_frame" (defScope s__law_frame) s.heap.objs.size f cdv))) :
    PSs (cxOf (L2.CX P w) P w K mg base n__law_frame "_law_frame" (defScope s__law_frame) f cdv A outer s H E).nox (defBody s__law_frame) (t__law_frame K sp__law_draw sp__law_title) := by
  have nd := sc__law_frame.nd
  have hu := hr.units
  have hv := units5 hr
  have h1 := units1 hr
  exact (pss_cons (ps_par (i := 3) (j := 4) (by rfl) nd rfl rfl (by decide) rfl rfl (pa_cons (pe_lst pa_nil) (pa_cons (pe_lst pa_nil) pa_nil)) (by rfl))
    (pss_cons (ps_for PassesOwn.never rfl (pi_range1 (by rfl) B.f_range (pa_cons (pv 1) pa_nil)) (pg_name (i := 5) nd rfl (Or.inl rfl))
    (pss_cons (ps_expr (pe_bm PySem.F.plainAttrs_list PySem.F.slot_list_append PySem.F.type_list_append mt_append (pv 4) (pa_cons (pe_df 0 G__law_title (hr.mono (by decide)) (by rfl) (pa_cons (pv 0) (pa_cons (pv 4) pa_nil))) pa_nil)))
    (pss_one (ps_expr (pe_bm PySem.F.plainAttrs_list PySem.F.slot_list_append PySem.F.type_list_append mt_append (pv 3) (pa_cons (pe_tup (pa_cons (pe_ix ix_seq (pv 4) (pe_un un_negU pe_int) (fun _ _ => rfl)) (pa_cons (pe_op op_addU pe_int (pe_df 0 G__law_draw (hr.mono (by decide)) (by rfl) (pa_cons (pv 0) (pa_cons (pv 2) pa_nil)))) pa_nil))) pa_nil))))))
    (pss_one (ps_ret (pv 3)))))

def t__law_row (K : PySem.W.Frag) (sp__law_draw : Sp) : TS := (tRet (tM1 (rJoin K) (tC (.str (T []))) (tLc (iSrc K (tVar 1)) (gName 3) tYes (tIf (tTest (tOp rLtU (tCall sp__law_draw (([] : List V).drop 0) E0 (tCons (tVar 0) (tCons (tC (.int 5)) tNil))) (tVar 2))) (tC (.str (T [46]))) (tCB (rStr1) (tCons (tCall sp__law_draw (([] : List V).drop 0) E0 (tCons (tVar 0) (tCons (tOp (rIx K) (tVar 3) (tC (.int 1))) tNil))) tNil))) [3])))

theorem w__law_row (B : Bl mg) {sp__law_draw : Sp} (G__law_draw : Df P w K mg base 1 "_law_draw" ["_law_bag_here", "_law_sides"] [] sp__law_draw) {f : Addr} {cdv : Value} {A : Around} {outer : List Env} {s : Shared} {H : Hp} {E : XK} (hr : Room 1 (A.deeper (envOfC "_law_row" (defScope s__law_row) s.heap.objs.size f cdv))) :
    PSs (cxOf (L2.CX P w) P w K mg base n__law_row "_law_row" (defScope s__law_row) f cdv A outer s H E).nox (defBody s__law_row) (t__law_row K sp__law_draw) := by
  have nd := sc__law_row.nd
  have hu := hr.units
  have hv := units5 hr
  have h1 := units1 hr
  exact (pss_one (ps_ret (pe_joinU (pe_strT (by decide +kernel)) (pe_lc (own := [("_law_pair", 3)]) rfl nd (pi_src (pv 1)) (blkOk_by (own := [("_law_pair", 3)]) (N := n__law_row) (sc := defScope s__law_row) (by decide +kernel)) (fun _ _ _ _ _ => (pg_name (i := 3) nd rfl (Or.inl rfl))) (fun _ _ _ _ _ => pts_nil) (fun _ _ _ _ _ => (pe_ifExp (pt_cmpR op_ltU (pe_df 0 G__law_draw (hr.mono (by decide)) (by rfl) (pa_cons (pv 0) (pa_cons pe_int pa_nil))) (pv 2) (nomark _)) (pe_strT (by decide +kernel)) (pe_callTy call_strU (by rfl) B.f_str (by decide +kernel) (pa_cons (pe_df 0 G__law_draw (hr.mono (by decide)) (by rfl) (pa_cons (pv 0) (pa_cons (pe_ix ix_seq (pv 3) pe_int (fun _ _ => rfl)) pa_nil))) pa_nil))))))))

def t__law_once (K : PySem.W.Frag) : TS := (tSeq (tAsg (tLst tNil) (gName 1))
    (tSeq (tFor (iSrc K (tVar 0)) (gName 2)
    (tIfS (tTest (tOp (rNiU K) (tVar 2) (tVar 1))) (tDrop (tBM K "list" rAppend (tVar 1) (tCons (tVar 2) tNil))) tNext))
    (tRet (tVar 1))))

theorem w__law_once (B : Bl mg)  {f : Addr} {cdv : Value} {A : Around} {outer : List Env} {s : Shared} {H : Hp} {E : XK} (hr : Room 0 (A.deeper (envOfC "_law_once" (defScope s__law_once) s.heap.objs.size f cdv))) :
    PSs (cxOf (L2.CX P w) P w K mg base n__law_once "_law_once" (defScope s__law_once) f cdv A outer s H E).nox (defBody s__law_once) (t__law_once K ) := by
  have nd := sc__law_once.nd
  have hu := hr.units
  have hv := units5 hr
  have h1 := units1 hr
  exact (pss_cons (ps_set (i := 1) nd rfl (Or.inl rfl) (pe_lst pa_nil))
    (pss_cons (ps_for PassesOwn.never rfl (pi_src (pv 0)) (pg_name (i := 2) nd rfl (Or.inl rfl))
    (pss_one (ps_if (pt_cmpR (op_niU hv) (pv 2) (pv 1) (by rfl)) (pss_one (ps_expr (pe_bm PySem.F.plainAttrs_list PySem.F.slot_list_append PySem.F.type_list_append mt_append (pv 1) (pa_cons (pv 2) pa_nil)))) pss_nil)))
    (pss_one (ps_ret (pv 1)))))

def t__law_lay (K : PySem.W.Frag) : TS := (tRet (tM1 (rJoin K) (tC (.str (T []))) (tLc (iZipS K (tCons (tVar 0) (tCons (tVar 1) tNil))) (gTup K 2 (gCons (gName 2) (gCons (gName 3) gNil))) tYes (tIf (tTest (tOp (rEqU K) (tVar 2) (tC (.str (T [46]))))) (tVar 3) (tVar 2)) [2, 3])))

theorem w__law_lay (B : Bl mg)  {f : Addr} {cdv : Value} {A : Around} {outer : List Env} {s : Shared} {H : Hp} {E : XK} (hr : Room 0 (A.deeper (envOfC "_law_lay" (defScope s__law_lay) s.heap.objs.size f cdv))) :
    PSs (cxOf (L2.CX P w) P w K mg base n__law_lay "_law_lay" (defScope s__law_lay) f cdv A outer s H E).nox (defBody s__law_lay) (t__law_lay K ) := by
  have nd := sc__law_lay.nd
  have hu := hr.units
  have hv := units5 hr
  have h1 := units1 hr
  exact (pss_one (ps_ret (pe_joinU (pe_strT (by decide +kernel)) (pe_lc (own := [("_law_x", 2), ("_law_y", 3)]) rfl nd (pi_zipS (by rfl) B.f_zip (pa_cons (pv 0) (pa_cons (pv 1) pa_nil))) (blkOk_by (own := [("_law_x", 2), ("_law_y", 3)]) (N := n__law_lay) (sc := defScope s__law_lay) (by decide +kernel)) (fun _ _ _ _ _ => (pg_tup (by rfl) (pgs_cons (pg_name (i := 2) nd rfl (Or.inl rfl)) (pgs_cons (pg_name (i := 3) nd rfl (Or.inl rfl)) pgs_nil)))) (fun _ _ _ _ _ => pts_nil) (fun _ _ _ _ _ => (pe_ifExp (pt_cmpR (op_eqU hu) (pv 2) (pe_strT (by decide +kernel)) (nomark _)) (pv 3) (pv 2)))))))

def t__law_lot (K : PySem.W.Frag) : TS := (tRet (tM1 (rJoin K) (tC (.str (T []))) (tLc (iSrc K (tVar 0)) (gName 1) tYes (tIf (tTest (tOp (rEqU K) (tVar 1) (tC (.str (T [46]))))) (tC (.str (T [46]))) (tC (.str (T [43])))) [1])))

theorem w__law_lot (B : Bl mg)  {f : Addr} {cdv : Value} {A : Around} {outer : List Env} {s : Shared} {H : Hp} {E : XK} (hr : Room 0 (A.deeper (envOfC "_law_lot" (defScope s__law_lot) s.heap.objs.size f cdv))) :
    PSs (cxOf (L2.CX P w) P w K mg base n__law_lot "_law_lot" (defScope s__law_lot) f cdv A outer s H E).nox (defBody s__law_lot) (t__law_lot K ) := by
  have nd := sc__law_lot.nd
  have hu := hr.units
  have hv := units5 hr
  have h1 := units1 hr
  exact (pss_one (ps_ret (pe_joinU (pe_strT (by decide +kernel)) (pe_lc (own := [("_law_sign", 1)]) rfl nd (pi_src (pv 0)) (blkOk_by (own := [("_law_sign", 1)]) (N := n__law_lot) (sc := defScope s__law_lot) (by decide +kernel)) (fun _ _ _ _ _ => (pg_name (i := 1) nd rfl (Or.inl rfl))) (fun _ _ _ _ _ => pts_nil) (fun _ _ _ _ _ => (pe_ifExp (pt_cmpR (op_eqU hu) (pv 1) (pe_strT (by decide +kernel)) (nomark _)) (pe_strT (by decide +kernel)) (pe_strT (by decide +kernel))))))))

def t__law_join (K : PySem.W.Frag) : TS := (tRet (tM1 (rJoin K) (tC (.str (T []))) (tLc (iZipS K (tCons (tVar 0) (tCons (tVar 1) tNil))) (gTup K 2 (gCons (gName 2) (gCons (gName 3) gNil))) tYes (tIf (tTest (tOp (rInU K) (tC (.str (T [43]))) (tOp (rAddU K) (tVar 2) (tVar 3)))) (tC (.str (T [43]))) (tC (.str (T [46])))) [2, 3])))

theorem w__law_join (B : Bl mg)  {f : Addr} {cdv : Value} {A : Around} {outer : List Env} {s : Shared} {H : Hp} {E : XK} (hr : Room 0 (A.deeper (envOfC "_law_join" (defScope s__law_join) s.heap.objs.size f cdv))) :
    PSs (cxOf (L2.CX P w) P w K mg base n__law_join "_law_join" (defScope s__law_join) f cdv A outer s H E).nox (defBody s__law_join) (t__law_join K ) := by
  have nd := sc__law_join.nd
  have hu := hr.units
  have hv := units5 hr
  have h1 := units1 hr
  exact (pss_one (ps_ret (pe_joinU (pe_strT (by decide +kernel)) (pe_lc (own := [("_law_a", 2), ("_law_b", 3)]) rfl nd (pi_zipS (by rfl) B.f_zip (pa_cons (pv 0) (pa_cons (pv 1) pa_nil))) (blkOk_by (own := [("_law_a", 2), ("_law_b", 3)]) (N := n__law_join) (sc := defScope s__law_join) (by decide +kernel)) (fun _ _ _ _ _ => (pg_tup (by rfl) (pgs_cons (pg_name (i := 2) nd rfl (Or.inl rfl)) (pgs_cons (pg_name (i := 3) nd rfl (Or.inl rfl)) pgs_nil)))) (fun _ _ _ _ _ => pts_nil) (fun _ _ _ _ _ => (pe_ifExp (pt_cmpR (op_inU hv) (pe_strT (by decide +kernel)) (pe_op op_addU (pv 2) (pv 3)) (by rfl)) (pe_strT (by decide +kernel)) (pe_strT (by decide +kernel))))))))

def t__law_inner (K : PySem.W.Frag) : TS := (tRet (tOp (rEqU K) (tLc (iRng1 (tCons (tCB (rLen K) (tCons (tVar 0) tNil)) tNil)) (gName 2) (tAnd (tTest (tOp (rEqU K) (tOp (rIx K) (tVar 0) (tVar 2)) (tC (.str (T [43]))))) (tTest (tOp (rEqU K) (tOp (rIx K) (tVar 1) (tVar 2)) (tC (.str (T [46])))))) (tVar 2) [2]) (tLst tNil)))

theorem w__law_inner (B : Bl mg)  {f : Addr} {cdv : Value} {A : Around} {outer : List Env} {s : Shared} {H : Hp} {E : XK} (hr : Room 0 (A.deeper (envOfC "_law_inner" (defScope s__law_inner) s.heap.objs.size f cdv))) :
    PSs (cxOf (L2.CX P w) P w K mg base n__law_inner "_law_inner" (defScope s__law_inner) f cdv A outer s H E).nox (defBody s__law_inner) (t__law_inner K ) := by
  have nd := sc__law_inner.nd
  have hu := hr.units
  have hv := units5 hr
  have h1 := units1 hr
  exact (pss_one (ps_ret (pe_cmpR (op_eqU hu) (pe_lc (own := [("_law_k", 2)]) rfl nd (pi_range1 (by rfl) B.f_range (pa_cons (pe_callB call_lenU (by rfl) B.f_len (by decide +kernel) (pa_cons (pv 0) pa_nil)) pa_nil)) (blkOk_by (own := [("_law_k", 2)]) (N := n__law_inner) (sc := defScope s__law_inner) (by decide +kernel)) (fun _ _ _ _ _ => (pg_name (i := 2) nd rfl (Or.inl rfl))) (fun _ _ _ _ _ => (pts_one (PW.pt (pw_and (pt_cmpR (op_eqU hu) (pe_ix ix_seq (pv 0) (pv 2) (fun _ _ => rfl)) (pe_strT (by decide +kernel)) (nomark _)) (pw_and1 (pt_cmpR (op_eqU hu) (pe_ix ix_seq (pv 1) (pv 2) (fun _ _ => rfl)) (pe_strT (by decide +kernel)) (nomark _))))))) (fun _ _ _ _ _ => (pv 2))) (pe_lst pa_nil) (nomark _))))

def t__law_lots (K : PySem.W.Frag) (sp__law_once : Sp) : TS := (tSeq (tAsg (tCB ((rSortPT K)) (tCons (tLc (iSrc K (tVar 0)) (gName 2) tYes (tTup (tCons (tM1 rCount (tVar 2) (tC (.str (T [43])))) (tCons (tVar 2) tNil))) [2]) tNil)) (gName 1))
    (tRet (tCall sp__law_once (([] : List V).drop 0) E0 (tCons (tLc (iSrc K (tVar 1)) (gTup K 2 (gCons (gName 3) (gCons (gName 2) gNil))) tYes (tVar 2) [3, 2]) tNil))))

theorem w__law_lots (B : Bl mg) {sp__law_once : Sp} (G__law_once : Df P w K mg base 1 "_law_once" ["_law_things"] [] sp__law_once) {f : Addr} {cdv : Value} {A : Around} {outer : List Env} {s : Shared} {H : Hp} {E : XK} (hr : Room 1 (A.deeper (envOfC "_law_lots" (defScope s__law_lots) s.heap.objs.size f cdv))) :
    PSs (cxOf (L2.CX P w) P w K mg base n__law_lots "_law_lots" (defScope s__law_lots) f cdv A outer s H E).nox (defBody s__law_lots) (t__law_lots K sp__law_once) := by
  have nd := sc__law_lots.nd
  have hu := hr.units
  have hv := units5 hr
  have h1 := units1 hr
  exact (pss_cons (ps_set (i := 1) nd rfl (Or.inl rfl) (pe_callB (cr_sortPT hv) (by rfl) B.f_sorted (by decide +kernel) (pa_cons (pe_lc (own := [("_law_x", 2)]) rfl nd (pi_src (pv 0)) (blkOk_by (own := [("_law_x", 2)]) (N := n__law_lots) (sc := defScope s__law_lots) (by decide +kernel)) (fun _ _ _ _ _ => (pg_name (i := 2) nd rfl (Or.inl rfl))) (fun _ _ _ _ _ => pts_nil) (fun _ _ _ _ _ => (pe_tup (pa_cons (pe_countU (pv 2) (pe_strT (by decide +kernel))) (pa_cons (pv 2) pa_nil))))) pa_nil)))
    (pss_one (ps_ret (pe_df 0 G__law_once (hr.mono (by decide)) (by rfl) (pa_cons (pe_lc (own := [("_law_size", 3), ("_law_x", 2)]) rfl nd (pi_src (pv 1)) (blkOk_by (own := [("_law_size", 3), ("_law_x", 2)]) (N := n__law_lots) (sc := defScope s__law_lots) (by decide +kernel)) (fun _ _ _ _ _ => (pg_tup (by rfl) (pgs_cons (pg_name (i := 3) nd rfl (Or.inl rfl)) (pgs_cons (pg_name (i := 2) nd rfl (Or.inl rfl)) pgs_nil)))) (fun _ _ _ _ _ => pts_nil) (fun _ _ _ _ _ => (pv 2))) pa_nil)))))

def t__law_meet (K : PySem.W.Frag) : TS := (tRet (tOp (rEqU K) (tLc (iRng1 (tCons (tCB (rLen K) (tCons (tVar 0) tNil)) tNil)) (gName 2) (tAnd (tTest (tOp (rNeU K) (tOp (rIx K) (tVar 0) (tVar 2)) (tC (.str (T [46]))))) (tAnd (tTest (tOp (rNeU K) (tOp (rIx K) (tVar 1) (tVar 2)) (tC (.str (T [46]))))) (tTest (tOp (rNeU K) (tOp (rIx K) (tVar 0) (tVar 2)) (tOp (rIx K) (tVar 1) (tVar 2)))))) (tVar 2) [2]) (tLst tNil)))

theorem w__law_meet (B : Bl mg)  {f : Addr} {cdv : Value} {A : Around} {outer : List Env} {s : Shared} {H : Hp} {E : XK} (hr : Room 0 (A.deeper (envOfC "_law_meet" (defScope s__law_meet) s.heap.objs.size f cdv))) :
    PSs (cxOf (L2.CX P w) P w K mg base n__law_meet "_law_meet" (defScope s__law_meet) f cdv A outer s H E).nox (defBody s__law_meet) (t__law_meet K ) := by
  have nd := sc__law_meet.nd
  have hu := hr.units
  have hv := units5 hr
  have h1 := units1 hr
  exact (pss_one (ps_ret (pe_cmpR (op_eqU hu) (pe_lc (own := [("_law_k", 2)]) rfl nd (pi_range1 (by rfl) B.f_range (pa_cons (pe_callB call_lenU (by rfl) B.f_len (by decide +kernel) (pa_cons (pv 0) pa_nil)) pa_nil)) (blkOk_by (own := [("_law_k", 2)]) (N := n__law_meet) (sc := defScope s__law_meet) (by decide +kernel)) (fun _ _ _ _ _ => (pg_name (i := 2) nd rfl (Or.inl rfl))) (fun _ _ _ _ _ => (pts_one (PW.pt (pw_and (pt_cmpR (op_neU hu) (pe_ix ix_seq (pv 0) (pv 2) (fun _ _ => rfl)) (pe_strT (by decide +kernel)) (nomark _)) (pw_and (pt_cmpR (op_neU hu) (pe_ix ix_seq (pv 1) (pv 2) (fun _ _ => rfl)) (pe_strT (by decide +kernel)) (nomark _)) (pw_and1 (pt_cmpR (op_neU hu) (pe_ix ix_seq (pv 0) (pv 2) (fun _ _ => rfl)) (pe_ix ix_seq (pv 1) (pv 2) (fun _ _ => rfl)) (nomark _)))))))) (fun _ _ _ _ _ => (pv 2))) (pe_lst pa_nil) (nomark _))))

def t__law_bent (K : PySem.W.Frag) (sp__law_draw sp__law_of sp__law_row : Sp) : TS := (tSeq (tIfS (tTest (tOp (rEqU K) (tCall sp__law_draw (([] : List V).drop 0) E0 (tCons (tVar 0) (tCons (tC (.int 2)) tNil))) (tC (.int 0)))) (tRet (tCall sp__law_row (([.int 2] : List V).drop 0) E0 (tCons (tVar 0) (tCons (tVar 1) tNil)))) tNext)
    (tSeq (tAsg (tCall sp__law_draw (([] : List V).drop 0) E0 (tCons (tVar 0) (tCons (tCB (rLen K) (tCons (tVar 1) tNil)) tNil))) (gName 3))
    (tRet (tOp (rAddU K) (tOp (rAddU K) (tSl (rSlU K) (tVar 2) tNoPart (tPart (tVar 3))) (tCall sp__law_of (([] : List V).drop 0) E0 (tCons (tVar 0) (tCons (tOp (rAddU K) (tC (.str (T [46]))) (tSl (rSlU K) (tC (.str (T [48, 49, 50, 51]))) tNoPart (tPart (tOp (rIx K) (tOp (rIx K) (tVar 1) (tVar 3)) (tC (.int 1)))))) tNil)))) (tSl (rSlU K) (tVar 2) (tPart (tOp (rAddU K) (tVar 3) (tC (.int 1)))) tNoPart)))))

theorem w__law_bent (B : Bl mg) {sp__law_draw : Sp} (G__law_draw : Df P w K mg base 1 "_law_draw" ["_law_bag_here", "_law_sides"] [] sp__law_draw) {sp__law_of : Sp} (G__law_of : Df P w K mg base 2 "_law_of" ["_law_bag_here", "_law_things"] [] sp__law_of) {sp__law_row : Sp} (G__law_row : Df P w K mg base 2 "_law_row" ["_law_bag_here", "_law_frame_here", "_law_thin"] [.int 2] sp__law_row) {f : Addr} {cdv : Value} {A : Around} {outer : List Env} {s : Shared} {H : Hp} {E : XK} (hr : Room 2 (A.deeper (envOfC "_law_bent" (defScope s__law_bent) s.heap.objs.size f cdv))) :
    PSs (cxOf (L2.CX P w) P w K mg base n__law_bent "_law_bent" (defScope s__law_bent) f cdv A outer s H E).nox (defBody s__law_bent) (t__law_bent K sp__law_draw sp__law_of sp__law_row) := by
  have nd := sc__law_bent.nd
  have hu := hr.units
  have hv := units5 hr
  have h1 := units1 hr
  exact (pss_cons (ps_if (pt_cmpR (op_eqU hu) (pe_df 0 G__law_draw (hr.mono (by decide)) (by rfl) (pa_cons (pv 0) (pa_cons pe_int pa_nil))) pe_int (nomark _)) (pss_one (ps_ret (pe_df 0 G__law_row (hr.mono (by decide)) (by rfl) (pa_cons (pv 0) (pa_cons (pv 1) pa_nil))))) pss_nil)
    (pss_cons (ps_set (i := 3) nd rfl (Or.inl rfl) (pe_df 0 G__law_draw (hr.mono (by decide)) (by rfl) (pa_cons (pv 0) (pa_cons (pe_callB call_lenU (by rfl) B.f_len (by decide +kernel) (pa_cons (pv 1) pa_nil)) pa_nil))))
    (pss_one (ps_ret (pe_op op_addU (pe_op op_addU (pe_slice sl_U (pv 2) po_none (po_some (pv 3))) (pe_df 0 G__law_of (hr.mono (by decide)) (by rfl) (pa_cons (pv 0) (pa_cons (pe_op op_addU (pe_strT (by decide +kernel)) (pe_slice sl_U (pe_strT (by decide +kernel)) po_none (po_some (pe_ix ix_seq (pe_ix ix_seq (pv 1) (pv 3) (fun _ _ => rfl)) pe_int (fun _ _ => rfl))))) pa_nil)))) (pe_slice sl_U (pv 2) (po_some (pe_op op_addU (pv 3) pe_int)) po_none))))))

def t__law_pair_so (K : PySem.W.Frag) (sp__law_inner sp__law_join sp__law_lay sp__law_lot sp__law_meet sp__law_same sp_agree sp_laid sp_lot_of sp_over sp_union sp_within : Sp) : TS := (tSeq (tPar 2 3 (tCons (tCall sp__law_lot (([] : List V).drop 0) E0 (tCons (tVar 0) tNil)) (tCons (tCall sp__law_lot (([] : List V).drop 0) E0 (tCons (tVar 1) tNil)) tNil)))
    (tSeq (tAsg (tLst (tCons (tCall sp__law_lay (([] : List V).drop 0) E0 (tCons (tVar 0) (tCons (tVar 1) tNil))) (tCons (tVar 2) (tCons (tCall sp__law_inner (([] : List V).drop 0) E0 (tCons (tVar 2) (tCons (tVar 3) tNil))) (tCons (tCall sp__law_join (([] : List V).drop 0) E0 (tCons (tVar 2) (tCons (tVar 3) tNil))) (tCons (tCall sp__law_meet (([] : List V).drop 0) E0 (tCons (tVar 0) (tCons (tVar 1) tNil))) (tCons (tCall sp__law_lay (([] : List V).drop 0) E0 (tCons (tVar 0) (tCons (tVar 1) tNil))) (tCons (tVar 0) (tCons (tVar 1) tNil))))))))) (gName 4))
    (tSeq (tAsg (tLst (tCons (tCall sp_over (([] : List V).drop 0) E0 (tCons (tVar 0) (tCons (tVar 1) tNil))) (tCons (tCall sp_lot_of (([] : List V).drop 0) E0 (tCons (tVar 0) tNil)) (tCons (tCall sp_within (([] : List V).drop 0) E0 (tCons (tVar 2) (tCons (tVar 3) tNil))) (tCons (tCall sp_union (([] : List V).drop 0) E0 (tCons (tVar 2) (tCons (tVar 3) tNil))) (tCons (tCall sp_agree (([] : List V).drop 0) E0 (tCons (tVar 0) (tCons (tVar 1) tNil))) (tCons (tCall sp_laid (([] : List V).drop 0) E0 (tCons (tLst (tCons (tVar 1) (tCons (tVar 0) tNil))) tNil)) (tCons (tCall sp_over (([] : List V).drop 0) E0 (tCons (tVar 0) (tCons (tVar 0) tNil))) (tCons (tCall sp_laid (([] : List V).drop 0) E0 (tCons (tLst (tCons (tVar 1) tNil)) tNil)) tNil))))))))) (gName 5))
    (tSeq (tIfS (tOr (tNot (tB (tCall sp__law_same (([] : List V).drop 0) E0 (tCons (tVar 5) (tCons (tVar 4) tNil))))) (tNot (tB (tCall sp__law_same (([] : List V).drop 0) E0 (tCons (tCall sp_over (([] : List V).drop 0) E0 (tCons (tCall sp_over (([] : List V).drop 0) E0 (tCons (tVar 0) (tCons (tVar 1) tNil))) (tCons (tVar 0) tNil))) (tCons (tCall sp_over (([] : List V).drop 0) E0 (tCons (tVar 0) (tCons (tVar 1) tNil))) tNil)))))) (tRet (tC (.bl false))) tNext)
    (tRet (tCall sp__law_same (([] : List V).drop 0) E0 (tCons (tLst (tCons (tCall sp_lot_of (([] : List V).drop 0) E0 (tCons (tCall sp_over (([] : List V).drop 0) E0 (tCons (tVar 0) (tCons (tVar 1) tNil))) tNil)) (tCons (tCall sp_within (([] : List V).drop 0) E0 (tCons (tVar 2) (tCons (tCall sp_union (([] : List V).drop 0) E0 (tCons (tVar 3) (tCons (tVar 2) tNil))) tNil))) (tCons (tCall sp_agree (([] : List V).drop 0) E0 (tCons (tVar 0) (tCons (tCall sp_over (([] : List V).drop 0) E0 (tCons (tVar 0) (tCons (tVar 1) tNil))) tNil))) tNil)))) (tCons (tLst (tCons (tCall sp__law_join (([] : List V).drop 0) E0 (tCons (tVar 2) (tCons (tVar 3) tNil))) (tCons (tC (.bl true)) (tCons (tC (.bl true)) tNil)))) tNil))))))))

theorem w__law_pair_so (B : Bl mg) {sp__law_inner : Sp} (G__law_inner : Df P w K mg base 1 "_law_inner" ["_law_x", "_law_y"] [] sp__law_inner) {sp__law_join : Sp} (G__law_join : Df P w K mg base 1 "_law_join" ["_law_x", "_law_y"] [] sp__law_join) {sp__law_lay : Sp} (G__law_lay : Df P w K mg base 1 "_law_lay" ["_law_newer_row", "_law_older_row"] [] sp__law_lay) {sp__law_lot : Sp} (G__law_lot : Df P w K mg base 1 "_law_lot" ["_law_r"] [] sp__law_lot) {sp__law_meet : Sp} (G__law_meet : Df P w K mg base 1 "_law_meet" ["_law_x", "_law_y"] [] sp__law_meet) {sp__law_same : Sp} (G__law_same : Df P w K mg base 5 "_law_same" ["_law_found", "_law_due"] [] sp__law_same) {sp_agree : Sp} (G_agree : Df P w K mg base 1 "agree" ["one", "other"] [] sp_agree) {sp_laid : Sp} (G_laid : Df P w K mg base 2 "laid" ["rows"] [] sp_laid) {sp_lot_of : Sp} (G_lot_of : Df P w K mg base 1 "lot_of" ["row"] [] sp_lot_of) {sp_over : Sp} (G_over : Df P w K mg base 1 "over" ["newer", "older"] [] sp_over) {sp_union : Sp} (G_union : Df P w K mg base 1 "union" ["one", "other"] [] sp_union) {sp_within : Sp} (G_within : Df P w K mg base 1 "within" ["one", "other"] [] sp_within) {f : Addr} {cdv : Value} {A : Around} {outer : List Env} {s : Shared} {H : Hp} {E : XK} (hr : Room 5 (A.deeper (envOfC "_law_pair_so" (defScope s__law_pair_so) s.heap.objs.size f cdv))) :
    PSs (cxOf (L2.CX P w) P w K mg base n__law_pair_so "_law_pair_so" (defScope s__law_pair_so) f cdv A outer s H E).nox (defBody s__law_pair_so) (t__law_pair_so K sp__law_inner sp__law_join sp__law_lay sp__law_lot sp__law_meet sp__law_same sp_agree sp_laid sp_lot_of sp_over sp_union sp_within) := by
  have nd := sc__law_pair_so.nd
  have hu := hr.units
  have hv := units5 hr
  have h1 := units1 hr
  exact (pss_cons (ps_par (i := 2) (j := 3) (by rfl) nd rfl rfl (by decide) rfl rfl (pa_cons (pe_df 0 G__law_lot (hr.mono (by decide)) (by rfl) (pa_cons (pv 0) pa_nil)) (pa_cons (pe_df 0 G__law_lot (hr.mono (by decide)) (by rfl) (pa_cons (pv 1) pa_nil)) pa_nil)) (by rfl))
    (pss_cons (ps_set (i := 4) nd rfl (Or.inl rfl) (pe_lst (pa_cons (pe_df 0 G__law_lay (hr.mono (by decide)) (by rfl) (pa_cons (pv 0) (pa_cons (pv 1) pa_nil))) (pa_cons (pv 2) (pa_cons (pe_df 0 G__law_inner (hr.mono (by decide)) (by rfl) (pa_cons (pv 2) (pa_cons (pv 3) pa_nil))) (pa_cons (pe_df 0 G__law_join (hr.mono (by decide)) (by rfl) (pa_cons (pv 2) (pa_cons (pv 3) pa_nil))) (pa_cons (pe_df 0 G__law_meet (hr.mono (by decide)) (by rfl) (pa_cons (pv 0) (pa_cons (pv 1) pa_nil))) (pa_cons (pe_df 0 G__law_lay (hr.mono (by decide)) (by rfl) (pa_cons (pv 0) (pa_cons (pv 1) pa_nil))) (pa_cons (pv 0) (pa_cons (pv 1) pa_nil))))))))))
    (pss_cons (ps_set (i := 5) nd rfl (Or.inl rfl) (pe_lst (pa_cons (pe_df 0 G_over (hr.mono (by decide)) (by rfl) (pa_cons (pv 0) (pa_cons (pv 1) pa_nil))) (pa_cons (pe_df 0 G_lot_of (hr.mono (by decide)) (by rfl) (pa_cons (pv 0) pa_nil)) (pa_cons (pe_df 0 G_within (hr.mono (by decide)) (by rfl) (pa_cons (pv 2) (pa_cons (pv 3) pa_nil))) (pa_cons (pe_df 0 G_union (hr.mono (by decide)) (by rfl) (pa_cons (pv 2) (pa_cons (pv 3) pa_nil))) (pa_cons (pe_df 0 G_agree (hr.mono (by decide)) (by rfl) (pa_cons (pv 0) (pa_cons (pv 1) pa_nil))) (pa_cons (pe_df 0 G_laid (hr.mono (by decide)) (by rfl) (pa_cons (pe_lst (pa_cons (pv 1) (pa_cons (pv 0) pa_nil))) pa_nil)) (pa_cons (pe_df 0 G_over (hr.mono (by decide)) (by rfl) (pa_cons (pv 0) (pa_cons (pv 0) pa_nil))) (pa_cons (pe_df 0 G_laid (hr.mono (by decide)) (by rfl) (pa_cons (pe_lst (pa_cons (pv 1) pa_nil)) pa_nil)) pa_nil))))))))))
    (pss_cons (ps_if (PW.pt (pw_or (pt_not (pt_val (pe_df 0 G__law_same (hr.mono (by decide)) (by rfl) (pa_cons (pv 5) (pa_cons (pv 4) pa_nil))))) (pw_or1 (pt_not (pt_val (pe_df 0 G__law_same (hr.mono (by decide)) (by rfl) (pa_cons (pe_df 0 G_over (hr.mono (by decide)) (by rfl) (pa_cons (pe_df 0 G_over (hr.mono (by decide)) (by rfl) (pa_cons (pv 0) (pa_cons (pv 1) pa_nil))) (pa_cons (pv 0) pa_nil))) (pa_cons (pe_df 0 G_over (hr.mono (by decide)) (by rfl) (pa_cons (pv 0) (pa_cons (pv 1) pa_nil))) pa_nil)))))))) (pss_one (ps_ret pe_bl)) pss_nil)
    (pss_one (ps_ret (pe_df 0 G__law_same (hr.mono (by decide)) (by rfl) (pa_cons (pe_lst (pa_cons (pe_df 0 G_lot_of (hr.mono (by decide)) (by rfl) (pa_cons (pe_df 0 G_over (hr.mono (by decide)) (by rfl) (pa_cons (pv 0) (pa_cons (pv 1) pa_nil))) pa_nil)) (pa_cons (pe_df 0 G_within (hr.mono (by decide)) (by rfl) (pa_cons (pv 2) (pa_cons (pe_df 0 G_union (hr.mono (by decide)) (by rfl) (pa_cons (pv 3) (pa_cons (pv 2) pa_nil))) pa_nil))) (pa_cons (pe_df 0 G_agree (hr.mono (by decide)) (by rfl) (pa_cons (pv 0) (pa_cons (pe_df 0 G_over (hr.mono (by decide)) (by rfl) (pa_cons (pv 0) (pa_cons (pv 1) pa_nil))) pa_nil))) pa_nil)))) (pa_cons (pe_lst (pa_cons (pe_df 0 G__law_join (hr.mono (by decide)) (by rfl) (pa_cons (pv 2) (pa_cons (pv 3) pa_nil))) (pa_cons pe_bl (pa_cons pe_bl pa_nil)))) pa_nil)))))))))

def t__law_cuts_so (K : PySem.W.Frag) (sp__law_draw sp__law_lot sp__law_mixed sp__law_same sp_cut : Sp) : TS := (tSeq (tAsg (tCall sp__law_mixed (([] : List V).drop 0) E0 (tCons (tVar 0) (tCons (tLc (iRng1 (tCons (tCB (rLen K) (tCons (tVar 1) tNil)) tNil)) (gName 8) (tTest (tOp rGtU (tCall sp__law_draw (([] : List V).drop 0) E0 (tCons (tVar 0) (tCons (tC (.int 3)) tNil))) (tC (.int 0)))) (tVar 8) [8]) tNil))) (gName 3))
    (tSeq (tAsg (tCB (rList1 K) (tCons (tVar 3) tNil)) (gName 4))
    (tSeq (tAsg (tLst (tCons (tM1 (rJoin K) (tC (.str (T []))) (tLc (iSrc K (tVar 4)) (gName 8) tYes (tOp (rIx K) (tVar 2) (tVar 8)) [8])) (tCons (tCall sp__law_lot (([] : List V).drop 0) E0 (tCons (tM1 (rJoin K) (tC (.str (T []))) (tLc (iSrc K (tVar 4)) (gName 8) tYes (tOp (rIx K) (tVar 2) (tVar 8)) [8])) tNil)) (tCons (tC (.str (T []))) (tCons (tVar 2) tNil))))) (gName 5))
    (tSeq (tAsg (tLst (tCons (tCall sp_cut (([] : List V).drop 0) E0 (tCons (tVar 2) (tCons (tVar 3) tNil))) (tCons (tCall sp_cut (([] : List V).drop 0) E0 (tCons (tCall sp__law_lot (([] : List V).drop 0) E0 (tCons (tVar 2) tNil)) (tCons (tCB (rTup1 K) (tCons (tVar 3) tNil)) tNil))) (tCons (tCall sp_cut (([] : List V).drop 0) E0 (tCons (tVar 2) (tCons (tLst tNil) tNil))) (tCons (tCall sp_cut (([] : List V).drop 0) E0 (tCons (tVar 2) (tCons (tLstRg (tRg1 (tCB (rLen K) (tCons (tVar 1) tNil)))) tNil))) tNil))))) (gName 6))
    (tSeq (tAsg (tOp (rAddU K) (tOp (rAddU K) (tRevL K (tVar 4)) (tSl (rSlU K) (tVar 4) tNoPart (tPart (tC (.int 1))))) (tVar 4)) (gName 7))
    (tSeq (tIfS (tNot (tB (tCall sp__law_same (([] : List V).drop 0) E0 (tCons (tCall sp_cut (([] : List V).drop 0) E0 (tCons (tVar 2) (tCons (tVar 7) tNil))) (tCons (tM1 (rJoin K) (tC (.str (T []))) (tLc (iSrc K (tVar 7)) (gName 8) tYes (tOp (rIx K) (tVar 2) (tVar 8)) [8])) tNil))))) (tRet (tC (.bl false))) tNext)
    (tRet (tAndV (tCall sp__law_same (([] : List V).drop 0) E0 (tCons (tVar 6) (tCons (tVar 5) tNil))) (tCall sp__law_same (([] : List V).drop 0) E0 (tCons (tVar 3) (tCons (tVar 4) tNil)))))))))))

theorem w__law_cuts_so (B : Bl mg) {sp__law_draw : Sp} (G__law_draw : Df P w K mg base 1 "_law_draw" ["_law_bag_here", "_law_sides"] [] sp__law_draw) {sp__law_lot : Sp} (G__law_lot : Df P w K mg base 1 "_law_lot" ["_law_r"] [] sp__law_lot) {sp__law_mixed : Sp} (G__law_mixed : Df P w K mg base 2 "_law_mixed" ["_law_bag_here", "_law_things"] [] sp__law_mixed) {sp__law_same : Sp} (G__law_same : Df P w K mg base 5 "_law_same" ["_law_found", "_law_due"] [] sp__law_same) {sp_cut : Sp} (G_cut : Df P w K mg base 1 "cut" ["row", "places"] [] sp_cut) {f : Addr} {cdv : Value} {A : Around} {outer : List Env} {s : Shared} {H : Hp} {E : XK} (hr : Room 5 (A.deeper (envOfC "_law_cuts_so" (defScope s__law_cuts_so) s.heap.objs.size f cdv))) :
    PSs (cxOf (L2.CX P w) P w K mg base n__law_cuts_so "_law_cuts_so" (defScope s__law_cuts_so) f cdv A outer s H E).nox (defBody s__law_cuts_so) (t__law_cuts_so K sp__law_draw sp__law_lot sp__law_mixed sp__law_same sp_cut) := by
  have nd := sc__law_cuts_so.nd
  have hu := hr.units
  have hv := units5 hr
  have h1 := units1 hr
  exact (pss_cons (ps_set (i := 3) nd rfl (Or.inl rfl) (pe_df 0 G__law_mixed (hr.mono (by decide)) (by rfl) (pa_cons (pv 0) (pa_cons (pe_lc (own := [("_law_k", 8)]) rfl nd (pi_range1 (by rfl) B.f_range (pa_cons (pe_callB call_lenU (by rfl) B.f_len (by decide +kernel) (pa_cons (pv 1) pa_nil)) pa_nil)) (blkOk_by (own := [("_law_k", 8)]) (N := n__law_cuts_so) (sc := defScope s__law_cuts_so) (by decide +kernel)) (fun _ _ _ _ _ => (pg_name (i := 8) nd rfl (Or.inl rfl))) (fun _ _ _ _ _ => (pts_one (pt_cmpR op_gtU (pe_df 0 G__law_draw (hr.mono (by decide)) (by rfl) (pa_cons (pv 0) (pa_cons pe_int pa_nil))) pe_int (nomark _)))) (fun _ _ _ _ _ => (pv 8))) pa_nil))))
    (pss_cons (ps_set (i := 4) nd rfl (Or.inl rfl) (pe_callTy (call_listU rfl) (by rfl) B.f_list (by decide +kernel) (pa_cons (pv 3) pa_nil)))
    (pss_cons (ps_set (i := 5) nd rfl (Or.inl rfl) (pe_lst (pa_cons (pe_joinU (pe_strT (by decide +kernel)) (pe_lc (own := [("_law_k", 8)]) rfl nd (pi_src (pv 4)) (blkOk_by (own := [("_law_k", 8)]) (N := n__law_cuts_so) (sc := defScope s__law_cuts_so) (by decide +kernel)) (fun _ _ _ _ _ => (pg_name (i := 8) nd rfl (Or.inl rfl))) (fun _ _ _ _ _ => pts_nil) (fun _ _ _ _ _ => (pe_ix ix_seq (pv 2) (pv 8) (fun _ _ => rfl))))) (pa_cons (pe_df 0 G__law_lot (hr.mono (by decide)) (by rfl) (pa_cons (pe_joinU (pe_strT (by decide +kernel)) (pe_lc (own := [("_law_k", 8)]) rfl nd (pi_src (pv 4)) (blkOk_by (own := [("_law_k", 8)]) (N := n__law_cuts_so) (sc := defScope s__law_cuts_so) (by decide +kernel)) (fun _ _ _ _ _ => (pg_name (i := 8) nd rfl (Or.inl rfl))) (fun _ _ _ _ _ => pts_nil) (fun _ _ _ _ _ => (pe_ix ix_seq (pv 2) (pv 8) (fun _ _ => rfl))))) pa_nil)) (pa_cons (pe_strT (by decide +kernel)) (pa_cons (pv 2) pa_nil))))))
    (pss_cons (ps_set (i := 6) nd rfl (Or.inl rfl) (pe_lst (pa_cons (pe_df 0 G_cut (hr.mono (by decide)) (by rfl) (pa_cons (pv 2) (pa_cons (pv 3) pa_nil))) (pa_cons (pe_df 0 G_cut (hr.mono (by decide)) (by rfl) (pa_cons (pe_df 0 G__law_lot (hr.mono (by decide)) (by rfl) (pa_cons (pv 2) pa_nil)) (pa_cons (pe_callTy call_tupU (by rfl) B.f_tuple (by decide +kernel) (pa_cons (pv 3) pa_nil)) pa_nil))) (pa_cons (pe_df 0 G_cut (hr.mono (by decide)) (by rfl) (pa_cons (pv 2) (pa_cons (pe_lst pa_nil) pa_nil))) (pa_cons (pe_df 0 G_cut (hr.mono (by decide)) (by rfl) (pa_cons (pv 2) (pa_cons (pe_listRg rfl (by rfl) B.f_list (prg_1 (by rfl) B.f_range (pe_callB call_lenU (by rfl) B.f_len (by decide +kernel) (pa_cons (pv 1) pa_nil)))) pa_nil))) pa_nil))))))
    (pss_cons (ps_set (i := 7) nd rfl (Or.inl rfl) (pe_op op_addU (pe_op op_addU (pe_revL (pv 4)) (pe_slice sl_U (pv 4) po_none (po_some pe_int))) (pv 4)))
    (pss_cons (ps_if (pt_not (pt_val (pe_df 0 G__law_same (hr.mono (by decide)) (by rfl) (pa_cons (pe_df 0 G_cut (hr.mono (by decide)) (by rfl) (pa_cons (pv 2) (pa_cons (pv 7) pa_nil))) (pa_cons (pe_joinU (pe_strT (by decide +kernel)) (pe_lc (own := [("_law_k", 8)]) rfl nd (pi_src (pv 7)) (blkOk_by (own := [("_law_k", 8)]) (N := n__law_cuts_so) (sc := defScope s__law_cuts_so) (by decide +kernel)) (fun _ _ _ _ _ => (pg_name (i := 8) nd rfl (Or.inl rfl))) (fun _ _ _ _ _ => pts_nil) (fun _ _ _ _ _ => (pe_ix ix_seq (pv 2) (pv 8) (fun _ _ => rfl))))) pa_nil))))) (pss_one (ps_ret pe_bl)) pss_nil)
    (pss_one (ps_ret (pe_and (pe_df 0 G__law_same (hr.mono (by decide)) (by rfl) (pa_cons (pv 6) (pa_cons (pv 5) pa_nil))) (pe_one (pe_df 0 G__law_same (hr.mono (by decide)) (by rfl) (pa_cons (pv 3) (pa_cons (pv 4) pa_nil)))))))))))))

def t__law_order_so (K : PySem.W.Frag) (sp__law_draw sp__law_lot sp__law_lots sp__law_mixed sp__law_same sp_ordered_lots : Sp) : TS := (tSeq (tAsg (tCall sp__law_mixed (([] : List V).drop 0) E0 (tCons (tVar 0) (tCons (tOp (rAddU K) (tLc (iSrc K (tVar 1)) (gName 7) tYes (tCall sp__law_lot (([] : List V).drop 0) E0 (tCons (tVar 7) tNil)) [7]) (tSl (rSlU K) (tLst (tCons (tOp rMulU (tC (.str (T [46]))) (tVar 2)) (tCons (tOp rMulU (tC (.str (T [43]))) (tVar 2)) tNil))) tNoPart (tPart (tCall sp__law_draw (([] : List V).drop 0) E0 (tCons (tVar 0) (tCons (tC (.int 3)) tNil)))))) tNil))) (gName 3))
    (tSeq (tPar 4 5 (tCons (tCB (rList1 K) (tCons (tVar 3) tNil)) (tCons (tCall sp__law_lots (([] : List V).drop 0) E0 (tCons (tVar 3) tNil)) tNil)))
    (tSeq (tIfS (tNot (tB (tCall sp__law_same (([] : List V).drop 0) E0 (tCons (tLst (tCons (tCall sp_ordered_lots (([] : List V).drop 0) E0 (tCons (tVar 3) tNil)) (tCons (tCall sp_ordered_lots (([] : List V).drop 0) E0 (tCons (tCB (rTup1 K) (tCons (tVar 3) tNil)) tNil)) (tCons (tCall sp_ordered_lots (([] : List V).drop 0) E0 (tCons (tLst tNil) tNil)) tNil)))) (tCons (tLst (tCons (tVar 5) (tCons (tVar 5) (tCons (tLst tNil) tNil)))) tNil))))) (tRet (tC (.bl false))) tNext)
    (tSeq (tAsg (tCall sp_ordered_lots (([] : List V).drop 0) E0 (tCons (tVar 3) tNil)) (gName 6))
    (tSeq (tDrop (tBM K "list" rAppend (tVar 6) (tCons (tC (.str (T [120]))) tNil)))
    (tRet (tAndV (tCall sp__law_same (([] : List V).drop 0) E0 (tCons (tVar 3) (tCons (tVar 4) tNil))) (tCall sp__law_same (([] : List V).drop 0) E0 (tCons (tCall sp_ordered_lots (([] : List V).drop 0) E0 (tCons (tVar 5) tNil)) (tCons (tVar 5) tNil))))))))))

theorem w__law_order_so (B : Bl mg) {sp__law_draw : Sp} (G__law_draw : Df P w K mg base 1 "_law_draw" ["_law_bag_here", "_law_sides"] [] sp__law_draw) {sp__law_lot : Sp} (G__law_lot : Df P w K mg base 1 "_law_lot" ["_law_r"] [] sp__law_lot) {sp__law_lots : Sp} (G__law_lots : Df P w K mg base 2 "_law_lots" ["_law_told"] [] sp__law_lots) {sp__law_mixed : Sp} (G__law_mixed : Df P w K mg base 2 "_law_mixed" ["_law_bag_here", "_law_things"] [] sp__law_mixed) {sp__law_same : Sp} (G__law_same : Df P w K mg base 5 "_law_same" ["_law_found", "_law_due"] [] sp__law_same) {sp_ordered_lots : Sp} (G_ordered_lots : Df P w K mg base 4 "ordered_lots" ["lots"] [] sp_ordered_lots) {f : Addr} {cdv : Value} {A : Around} {outer : List Env} {s : Shared} {H : Hp} {E : XK} (hr : Room 5 (A.deeper (envOfC "_law_order_so" (defScope s__law_order_so) s.heap.objs.size f cdv))) :
    PSs (cxOf (L2.CX P w) P w K mg base n__law_order_so "_law_order_so" (defScope s__law_order_so) f cdv A outer s H E).nox (defBody s__law_order_so) (t__law_order_so K sp__law_draw sp__law_lot sp__law_lots sp__law_mixed sp__law_same sp_ordered_lots) := by
  have nd := sc__law_order_so.nd
  have hu := hr.units
  have hv := units5 hr
  have h1 := units1 hr
  exact (pss_cons (ps_set (i := 3) nd rfl (Or.inl rfl) (pe_df 0 G__law_mixed (hr.mono (by decide)) (by rfl) (pa_cons (pv 0) (pa_cons (pe_op op_addU (pe_lc (own := [("_law_r", 7)]) rfl nd (pi_src (pv 1)) (blkOk_by (own := [("_law_r", 7)]) (N := n__law_order_so) (sc := defScope s__law_order_so) (by decide +kernel)) (fun _ _ _ _ _ => (pg_name (i := 7) nd rfl (Or.inl rfl))) (fun _ _ _ _ _ => pts_nil) (fun _ _ _ _ _ => (pe_df 0 G__law_lot (hr.mono (by decide)) (by rfl) (pa_cons (pv 7) pa_nil)))) (pe_slice sl_U (pe_lst (pa_cons (pe_op op_mulU (pe_strT (by decide +kernel)) (pv 2)) (pa_cons (pe_op op_mulU (pe_strT (by decide +kernel)) (pv 2)) pa_nil))) po_none (po_some (pe_df 0 G__law_draw (hr.mono (by decide)) (by rfl) (pa_cons (pv 0) (pa_cons pe_int pa_nil)))))) pa_nil))))
    (pss_cons (ps_par (i := 4) (j := 5) (by rfl) nd rfl rfl (by decide) rfl rfl (pa_cons (pe_callTy (call_listU rfl) (by rfl) B.f_list (by decide +kernel) (pa_cons (pv 3) pa_nil)) (pa_cons (pe_df 0 G__law_lots (hr.mono (by decide)) (by rfl) (pa_cons (pv 3) pa_nil)) pa_nil)) (by rfl))
    (pss_cons (ps_if (pt_not (pt_val (pe_df 0 G__law_same (hr.mono (by decide)) (by rfl) (pa_cons (pe_lst (pa_cons (pe_df 0 G_ordered_lots (hr.mono (by decide)) (by rfl) (pa_cons (pv 3) pa_nil)) (pa_cons (pe_df 0 G_ordered_lots (hr.mono (by decide)) (by rfl) (pa_cons (pe_callTy call_tupU (by rfl) B.f_tuple (by decide +kernel) (pa_cons (pv 3) pa_nil)) pa_nil)) (pa_cons (pe_df 0 G_ordered_lots (hr.mono (by decide)) (by rfl) (pa_cons (pe_lst pa_nil) pa_nil)) pa_nil)))) (pa_cons (pe_lst (pa_cons (pv 5) (pa_cons (pv 5) (pa_cons (pe_lst pa_nil) pa_nil)))) pa_nil))))) (pss_one (ps_ret pe_bl)) pss_nil)
    (pss_cons (ps_set (i := 6) nd rfl (Or.inl rfl) (pe_df 0 G_ordered_lots (hr.mono (by decide)) (by rfl) (pa_cons (pv 3) pa_nil)))
    (pss_cons (ps_expr (pe_bm PySem.F.plainAttrs_list PySem.F.slot_list_append PySem.F.type_list_append mt_append (pv 6) (pa_cons (pe_strT (by decide +kernel)) pa_nil)))
    (pss_one (ps_ret (pe_and (pe_df 0 G__law_same (hr.mono (by decide)) (by rfl) (pa_cons (pv 3) (pa_cons (pv 4) pa_nil))) (pe_one (pe_df 0 G__law_same (hr.mono (by decide)) (by rfl) (pa_cons (pe_df 0 G_ordered_lots (hr.mono (by decide)) (by rfl) (pa_cons (pv 5) pa_nil)) (pa_cons (pv 5) pa_nil))))))))))))

def t_law (K : PySem.W.Frag) (sp__law_bag sp__law_bent sp__law_cuts_so sp__law_frame sp__law_lay sp__law_of sp__law_order_so sp__law_pair_so sp__law_row sp__law_same sp_blank sp_laid sp_over : Sp) : TS := (tSeq (tAsg (tCall sp__law_bag (([] : List V).drop 0) E0 (tCons (tVar 0) tNil)) (gName 1))
    (tSeq (tAsg (tCall sp__law_frame (([] : List V).drop 0) E0 (tCons (tVar 1) (tCons (tCall sp__law_of (([] : List V).drop 0) E0 (tCons (tVar 1) (tCons (tLst (tCons (tC (.int 2)) (tCons (tC (.int 3)) (tCons (tC (.int 4)) (tCons (tC (.int 5)) (tCons (tC (.int 7)) (tCons (tC (.int 12)) (tCons (tC (.int 1)) (tCons (tC (.int 11)) (tCons (tC (.int 3)) (tCons (tC (.int 6)) tNil))))))))))) tNil))) (tCons (tC (.int 4)) tNil)))) (gName 2))
    (tSeq (tAsg (tCall sp__law_row (([.int 2] : List V).drop 0) E0 (tCons (tVar 1) (tCons (tVar 2) tNil))) (gName 3))
    (tSeq (tAsg (tCall sp__law_bent (([] : List V).drop 0) E0 (tCons (tVar 1) (tCons (tVar 2) (tCons (tVar 3) tNil)))) (gName 4))
    (tSeq (tAsg (tCall sp__law_bent (([] : List V).drop 0) E0 (tCons (tVar 1) (tCons (tVar 2) (tCons (tVar 4) tNil)))) (gName 5))
    (tSeq (tIfS (tNot (tB (tCall sp__law_same (([] : List V).drop 0) E0 (tCons (tLst (tCons (tCall sp_blank (([] : List V).drop 0) E0 (tCons (tCB (rLen K) (tCons (tVar 2) tNil)) tNil)) (tCons (tCall sp_blank (([] : List V).drop 0) E0 (tCons (tC (.int 0)) tNil)) (tCons (tCall sp_blank (([] : List V).drop 0) E0 (tCons (tC (.int 12)) tNil)) tNil)))) (tCons (tLst (tCons (tOp rMulU (tC (.str (T [46]))) (tCB (rLen K) (tCons (tVar 2) tNil))) (tCons (tC (.str (T []))) (tCons (tOp rMulU (tC (.str (T [46]))) (tC (.int 12))) tNil)))) tNil))))) (tRet (tC (.bl false))) tNext)
    (tSeq (tFor (iSrc K (tLst (tCons (tTup (tCons (tVar 3) (tCons (tVar 4) tNil))) (tCons (tTup (tCons (tVar 4) (tCons (tVar 3) tNil))) (tCons (tTup (tCons (tVar 4) (tCons (tVar 5) tNil))) (tCons (tTup (tCons (tVar 5) (tCons (tVar 3) tNil))) tNil)))))) (gName 6)
    (tIfS (tNot (tB (tCall sp__law_pair_so (([] : List V).drop 0) E0 (tCons (tOp (rIx K) (tVar 6) (tC (.int 0))) (tCons (tOp (rIx K) (tVar 6) (tC (.int 1))) tNil))))) (tRet (tC (.bl false))) tNext))
    (tSeq (tAsg (tCall sp__law_lay (([] : List V).drop 0) E0 (tCons (tVar 3) (tCons (tCall sp__law_lay (([] : List V).drop 0) E0 (tCons (tVar 4) (tCons (tVar 5) tNil))) tNil))) (gName 7))
    (tSeq (tAsg (tLst (tCons (tVar 5) (tCons (tVar 4) (tCons (tVar 3) tNil)))) (gName 8))
    (tSeq (tIfS (tNot (tB (tCall sp__law_same (([] : List V).drop 0) E0 (tCons (tLst (tCons (tCall sp_over (([] : List V).drop 0) E0 (tCons (tCall sp_over (([] : List V).drop 0) E0 (tCons (tVar 3) (tCons (tVar 4) tNil))) (tCons (tVar 5) tNil))) (tCons (tCall sp_over (([] : List V).drop 0) E0 (tCons (tVar 3) (tCons (tCall sp_over (([] : List V).drop 0) E0 (tCons (tVar 4) (tCons (tVar 5) tNil))) tNil))) (tCons (tCall sp_laid (([] : List V).drop 0) E0 (tCons (tVar 8) tNil)) (tCons (tCall sp_laid (([] : List V).drop 0) E0 (tCons (tTup (tCons (tVar 5) (tCons (tVar 4) (tCons (tVar 3) tNil)))) tNil)) tNil))))) (tCons (tLst (tCons (tVar 7) (tCons (tVar 7) (tCons (tVar 7) (tCons (tVar 7) tNil))))) tNil))))) (tRet (tC (.bl false))) tNext)
    (tSeq (tIfS (tOr (tNot (tB (tCall sp__law_same (([] : List V).drop 0) E0 (tCons (tVar 8) (tCons (tLst (tCons (tVar 5) (tCons (tVar 4) (tCons (tVar 3) tNil)))) tNil))))) (tNot (tB (tCall sp__law_same (([] : List V).drop 0) E0 (tCons (tCall sp_laid (([] : List V).drop 0) E0 (tCons (tLst (tCons (tVar 3) (tCons (tVar 5) (tCons (tVar 4) (tCons (tVar 3) (tCons (tVar 5) tNil)))))) tNil)) (tCons (tCall sp__law_lay (([] : List V).drop 0) E0 (tCons (tVar 5) (tCons (tCall sp__law_lay (([] : List V).drop 0) E0 (tCons (tVar 3) (tCons (tVar 4) tNil))) tNil))) tNil)))))) (tRet (tC (.bl false))) tNext)
    (tSeq (tFor (iRng1 (tCons (tC (.int 2)) tNil)) (gName 9)
    (tIfS (tNot (tB (tCall sp__law_cuts_so (([] : List V).drop 0) E0 (tCons (tVar 1) (tCons (tVar 2) (tCons (tOp (rIx K) (tLst (tCons (tVar 3) (tCons (tVar 7) tNil))) (tVar 9)) tNil)))))) (tRet (tC (.bl false))) tNext))
    (tRet (tCall sp__law_order_so (([] : List V).drop 0) E0 (tCons (tVar 1) (tCons (tLst (tCons (tVar 3) (tCons (tVar 4) (tCons (tVar 5) (tCons (tVar 7) (tCons (tCall sp__law_row (([.int 2] : List V).drop 0) E0 (tCons (tVar 1) (tCons (tVar 2) tNil))) (tCons (tCall sp__law_lay (([] : List V).drop 0) E0 (tCons (tVar 5) (tCons (tVar 3) tNil))) (tCons (tVar 3) tNil)))))))) (tCons (tCB (rLen K) (tCons (tVar 2) tNil)) tNil)))))))))))))))))

theorem w_law (B : Bl mg) {sp__law_bag : Sp} (G__law_bag : Df P w K mg base 1 "_law_bag" ["_law_script"] [] sp__law_bag) {sp__law_bent : Sp} (G__law_bent : Df P w K mg base 3 "_law_bent" ["_law_bag_here", "_law_frame_here", "_law_r"] [] sp__law_bent) {sp__law_cuts_so : Sp} (G__law_cuts_so : Df P w K mg base 6 "_law_cuts_so" ["_law_bag_here", "_law_frame_here", "_law_x"] [] sp__law_cuts_so) {sp__law_frame : Sp} (G__law_frame : Df P w K mg base 4 "_law_frame" ["_law_bag_here", "_law_size", "_law_widest"] [] sp__law_frame) {sp__law_lay : Sp} (G__law_lay : Df P w K mg base 1 "_law_lay" ["_law_newer_row", "_law_older_row"] [] sp__law_lay) {sp__law_of : Sp} (G__law_of : Df P w K mg base 2 "_law_of" ["_law_bag_here", "_law_things"] [] sp__law_of) {sp__law_order_so : Sp} (G__law_order_so : Df P w K mg base 6 "_law_order_so" ["_law_bag_here", "_law_rows_here", "_law_wide"] [] sp__law_order_so) {sp__law_pair_so : Sp} (G__law_pair_so : Df P w K mg base 6 "_law_pair_so" ["_law_x", "_law_y"] [] sp__law_pair_so) {sp__law_row : Sp} (G__law_row : Df P w K mg base 2 "_law_row" ["_law_bag_here", "_law_frame_here", "_law_thin"] [.int 2] sp__law_row) {sp__law_same : Sp} (G__law_same : Df P w K mg base 5 "_law_same" ["_law_found", "_law_due"] [] sp__law_same) {sp_blank : Sp} (G_blank : Df P w K mg base 1 "blank" ["many"] [] sp_blank) {sp_laid : Sp} (G_laid : Df P w K mg base 2 "laid" ["rows"] [] sp_laid) {sp_over : Sp} (G_over : Df P w K mg base 1 "over" ["newer", "older"] [] sp_over) {f : Addr} {cdv : Value} {A : Around} {outer : List Env} {s : Shared} {H : Hp} {E : XK} (hr : Room 6 (A.deeper (envOfC "law" (defScope s_law) s.heap.objs.size f cdv))) :
    PSs (cxOf (L2.CX P w) P w K mg base n_law "law" (defScope s_law) f cdv A outer s H E).nox (defBody s_law) (t_law K sp__law_bag sp__law_bent sp__law_cuts_so sp__law_frame sp__law_lay sp__law_of sp__law_order_so sp__law_pair_so sp__law_row sp__law_same sp_blank sp_laid sp_over) := by
  have nd := sc_law.nd
  have hu := hr.units
  have hv := units5 hr
  have h1 := units1 hr
  exact (pss_cons (ps_set (i := 1) nd rfl (Or.inl rfl) (pe_df 0 G__law_bag (hr.mono (by decide)) (by rfl) (pa_cons (pv 0) pa_nil)))
    (pss_cons (ps_set (i := 2) nd rfl (Or.inl rfl) (pe_df 0 G__law_frame (hr.mono (by decide)) (by rfl) (pa_cons (pv 1) (pa_cons (pe_df 0 G__law_of (hr.mono (by decide)) (by rfl) (pa_cons (pv 1) (pa_cons (pe_lst (pa_cons pe_int (pa_cons pe_int (pa_cons pe_int (pa_cons pe_int (pa_cons pe_int (pa_cons pe_int (pa_cons pe_int (pa_cons pe_int (pa_cons pe_int (pa_cons pe_int pa_nil))))))))))) pa_nil))) (pa_cons pe_int pa_nil)))))
    (pss_cons (ps_set (i := 3) nd rfl (Or.inl rfl) (pe_df 0 G__law_row (hr.mono (by decide)) (by rfl) (pa_cons (pv 1) (pa_cons (pv 2) pa_nil))))
    (pss_cons (ps_set (i := 4) nd rfl (Or.inl rfl) (pe_df 0 G__law_bent (hr.mono (by decide)) (by rfl) (pa_cons (pv 1) (pa_cons (pv 2) (pa_cons (pv 3) pa_nil)))))
    (pss_cons (ps_set (i := 5) nd rfl (Or.inl rfl) (pe_df 0 G__law_bent (hr.mono (by decide)) (by rfl) (pa_cons (pv 1) (pa_cons (pv 2) (pa_cons (pv 4) pa_nil)))))
    (pss_cons (ps_if (pt_not (pt_val (pe_df 0 G__law_same (hr.mono (by decide)) (by rfl) (pa_cons (pe_lst (pa_cons (pe_df 0 G_blank (hr.mono (by decide)) (by rfl) (pa_cons (pe_callB call_lenU (by rfl) B.f_len (by decide +kernel) (pa_cons (pv 2) pa_nil)) pa_nil)) (pa_cons (pe_df 0 G_blank (hr.mono (by decide)) (by rfl) (pa_cons pe_int pa_nil)) (pa_cons (pe_df 0 G_blank (hr.mono (by decide)) (by rfl) (pa_cons pe_int pa_nil)) pa_nil)))) (pa_cons (pe_lst (pa_cons (pe_op op_mulU (pe_strT (by decide +kernel)) (pe_callB call_lenU (by rfl) B.f_len (by decide +kernel) (pa_cons (pv 2) pa_nil))) (pa_cons (pe_strT (by decide +kernel)) (pa_cons (pe_op op_mulU (pe_strT (by decide +kernel)) pe_int) pa_nil)))) pa_nil))))) (pss_one (ps_ret pe_bl)) pss_nil)
    (pss_cons (ps_for PassesOwn.never rfl (pi_src (pe_lst (pa_cons (pe_tup (pa_cons (pv 3) (pa_cons (pv 4) pa_nil))) (pa_cons (pe_tup (pa_cons (pv 4) (pa_cons (pv 3) pa_nil))) (pa_cons (pe_tup (pa_cons (pv 4) (pa_cons (pv 5) pa_nil))) (pa_cons (pe_tup (pa_cons (pv 5) (pa_cons (pv 3) pa_nil))) pa_nil)))))) (pg_name (i := 6) nd rfl (Or.inl rfl))
    (pss_one (ps_if (pt_not (pt_val (pe_df 0 G__law_pair_so (hr.mono (by decide)) (by rfl) (pa_cons (pe_ix ix_seq (pv 6) pe_int (fun _ _ => rfl)) (pa_cons (pe_ix ix_seq (pv 6) pe_int (fun _ _ => rfl)) pa_nil))))) (pss_one (ps_ret pe_bl)) pss_nil)))
    (pss_cons (ps_set (i := 7) nd rfl (Or.inl rfl) (pe_df 0 G__law_lay (hr.mono (by decide)) (by rfl) (pa_cons (pv 3) (pa_cons (pe_df 0 G__law_lay (hr.mono (by decide)) (by rfl) (pa_cons (pv 4) (pa_cons (pv 5) pa_nil))) pa_nil))))
    (pss_cons (ps_set (i := 8) nd rfl (Or.inl rfl) (pe_lst (pa_cons (pv 5) (pa_cons (pv 4) (pa_cons (pv 3) pa_nil)))))
    (pss_cons (ps_if (pt_not (pt_val (pe_df 0 G__law_same (hr.mono (by decide)) (by rfl) (pa_cons (pe_lst (pa_cons (pe_df 0 G_over (hr.mono (by decide)) (by rfl) (pa_cons (pe_df 0 G_over (hr.mono (by decide)) (by rfl) (pa_cons (pv 3) (pa_cons (pv 4) pa_nil))) (pa_cons (pv 5) pa_nil))) (pa_cons (pe_df 0 G_over (hr.mono (by decide)) (by rfl) (pa_cons (pv 3) (pa_cons (pe_df 0 G_over (hr.mono (by decide)) (by rfl) (pa_cons (pv 4) (pa_cons (pv 5) pa_nil))) pa_nil))) (pa_cons (pe_df 0 G_laid (hr.mono (by decide)) (by rfl) (pa_cons (pv 8) pa_nil)) (pa_cons (pe_df 0 G_laid (hr.mono (by decide)) (by rfl) (pa_cons (pe_tup (pa_cons (pv 5) (pa_cons (pv 4) (pa_cons (pv 3) pa_nil)))) pa_nil)) pa_nil))))) (pa_cons (pe_lst (pa_cons (pv 7) (pa_cons (pv 7) (pa_cons (pv 7) (pa_cons (pv 7) pa_nil))))) pa_nil))))) (pss_one (ps_ret pe_bl)) pss_nil)
    (pss_cons (ps_if (PW.pt (pw_or (pt_not (pt_val (pe_df 0 G__law_same (hr.mono (by decide)) (by rfl) (pa_cons (pv 8) (pa_cons (pe_lst (pa_cons (pv 5) (pa_cons (pv 4) (pa_cons (pv 3) pa_nil)))) pa_nil))))) (pw_or1 (pt_not (pt_val (pe_df 0 G__law_same (hr.mono (by decide)) (by rfl) (pa_cons (pe_df 0 G_laid (hr.mono (by decide)) (by rfl) (pa_cons (pe_lst (pa_cons (pv 3) (pa_cons (pv 5) (pa_cons (pv 4) (pa_cons (pv 3) (pa_cons (pv 5) pa_nil)))))) pa_nil)) (pa_cons (pe_df 0 G__law_lay (hr.mono (by decide)) (by rfl) (pa_cons (pv 5) (pa_cons (pe_df 0 G__law_lay (hr.mono (by decide)) (by rfl) (pa_cons (pv 3) (pa_cons (pv 4) pa_nil))) pa_nil))) pa_nil)))))))) (pss_one (ps_ret pe_bl)) pss_nil)
    (pss_cons (ps_for PassesOwn.never rfl (pi_range1 (by rfl) B.f_range (pa_cons pe_int pa_nil)) (pg_name (i := 9) nd rfl (Or.inl rfl))
    (pss_one (ps_if (pt_not (pt_val (pe_df 0 G__law_cuts_so (hr.mono (by decide)) (by rfl) (pa_cons (pv 1) (pa_cons (pv 2) (pa_cons (pe_ix ix_seq (pe_lst (pa_cons (pv 3) (pa_cons (pv 7) pa_nil))) (pv 9) (fun _ _ => rfl)) pa_nil)))))) (pss_one (ps_ret pe_bl)) pss_nil)))
    (pss_one (ps_ret (pe_df 0 G__law_order_so (hr.mono (by decide)) (by rfl) (pa_cons (pv 1) (pa_cons (pe_lst (pa_cons (pv 3) (pa_cons (pv 4) (pa_cons (pv 5) (pa_cons (pv 7) (pa_cons (pe_df 0 G__law_row (hr.mono (by decide)) (by rfl) (pa_cons (pv 1) (pa_cons (pv 2) pa_nil))) (pa_cons (pe_df 0 G__law_lay (hr.mono (by decide)) (by rfl) (pa_cons (pv 5) (pa_cons (pv 3) pa_nil))) (pa_cons (pv 3) pa_nil)))))))) (pa_cons (pe_callB call_lenU (by rfl) B.f_len (by decide +kernel) (pa_cons (pv 2) pa_nil)) pa_nil))))))))))))))))))

end
end G03

namespace H03
open PySem PySem.Spec PyProof.Rows Nt G03
open L2 hiding rLen
local macro_rules | `(tactic| walk_at "rep") => `(tactic| first
  | assumption
  | with_reducible exact Rep.int _
  | with_reducible exact Rep.str _
  | with_reducible exact Rep.bl _
  | with_reducible exact Rep.non
  | (refine Rep.ex (by assumption) ?_; walk_at "rep")
  | (refine Rep.off (by assumption) ?_; walk_at "rep"))
local macro_rules | `(tactic| walk_at "reps") => `(tactic| first
  | with_reducible exact Reps.nil
  | with_reducible exact Reps.cons (by with_unfolding_all walk_at "rep") (by with_unfolding_all walk_at "reps")
  | assumption
  | (refine Reps.ex (by assumption) ?_; walk_at "reps")
  | (refine Reps.off (by assumption) ?_; walk_at "reps"))
local macro_rules | `(tactic| walk_at "ex") => `(tactic| first
  | with_reducible exact Ex.refl _
  | assumption
  | (refine Ex.trans ?_ (by assumption); walk_at "ex"))
local macro_rules | `(tactic| walk_at "sz") => `(tactic| first
  | decide
  | (refine szOk ?_; first | omega | (simp only [List.length_append, List.length_cons, List.length_nil, List.length_map, List.length_take, List.length_drop, List.length_range]; omega)))
local macro_rules | `(tactic| walk_at "s1") => `(tactic| with_reducible first
  | refine sx_seq ?_
  | (refine sx_var1 ?_; with_unfolding_all refine ⟨_, rfl, ?_⟩)
  | refine sx_c ?_
  | refine sx_op ?_
  | refine sx_asg ?_
  | refine gs_name ?_
  | refine sx_cons ?_
  | refine sx_nil ?_
  | refine sx_call ?_
  | refine sx_cb ?_
  | refine sx_tt ?_
  | refine sx_tb ?_
  | refine sx_ret ?_
  | refine sx_ifS ?_
  | refine sx_if ?_
  | refine ex_b ?_
  | refine ifT ?_
  | refine ifF ?_
  | refine ifNT ?_
  | refine ifNF ?_
  | refine sx_and ?_
  | refine sx_or ?_
  | refine sx_not ?_
  | refine sx_andV ?_
  | refine sx_orV ?_
  | refine sx_notV ?_
  | refine sx_chain ?_
  | refine sx_lc ?_
  | refine sx_for ?_
  | refine sx_isrc ?_
  | refine sx_izip ?_
  | refine sx_ienum ?_
  | refine sx_rng1 ?_
  | refine sx_rng2 ?_
  | refine sx_tup0 ?_
  | refine sx_lst0 ?_
  | refine sx_m1 ?_
  | refine sx_bm ?_
  | refine sx_bm0 ?_
  | refine sx_sl ?_
  | refine sx_nopart ?_
  | refine sx_part ?_
  | refine sx_un ?_
  | refine sx_tru ?_
  | refine sx_yes ?_
  | refine sx_next ?_
  | refine sx_drop ?_
  | refine sx_par ?_
  | refine sx_par3 ?_
  | refine sx_retN ?_
  | refine sx_brk ?_
  | refine sx_cnt ?_
  | refine sx_rev ?_
  | refine ex_i ?_
  | refine ex_s ?_
  | refine ex_2 ?_
  | refine ex_3 ?_
  | refine gs_sub ?_
  | refine add_ii ?_
  | (refine add_TT ?hz ?_; (case hz => with_unfolding_all walk_at "sz"))
  | refine sub_ii ?_
  | refine lt_ii ?_
  | refine le_ii ?_
  | refine gt_ii ?_
  | refine ge_ii ?_
  | refine eq_ii ?_
  | refine eq_11 ?_
  | refine eq_TT ?_
  | refine eq_bb ?_
  | refine ne_ii ?_
  | refine ne_11 ?_
  | refine ne_TT ?_
  | refine ne_bb ?_
  | refine in_1T ?_
  | refine ni_1T ?_
  | refine isN_v ?_
  | refine notN_v ?_
  | refine isB_b ?_
  | refine notB_b ?_
  | refine neg_i ?_
  | refine int_i ?_
  | refine abs_i ?_
  | (refine len_T ?hz ?_; (case hz => with_unfolding_all walk_at "sz"))
  | (refine tup_endF (by assumption) (by assumption) (by assumption) (by with_unfolding_all walk_at "reps") (by with_unfolding_all walk_at "sz") ?_; intro _ _ _ _ _)
  | (refine lst_endF (by assumption) (by assumption) (by assumption) (by with_unfolding_all walk_at "reps") (by with_unfolding_all walk_at "sz") ?_; intro _ _ _ _ _))
local macro_rules | `(tactic| walk_at "sx") => `(tactic| repeat' (walk_at "s1"))

/-! ### what stands for what -/
abbrev e1 : Nat → D := fun c => .str (T [c])
abbrev eS : List Nat → D := fun l => .str (T l)
abbrev eI : Nat → D := fun n => .int (n : Nat)
abbrev eC : List Nat × Nat → D := fun c => .tup [.str (T c.1), .int (c.2 : Nat)]
def lot (l : List Nat) : List Nat := l.map fun c => if c = 46 then 46 else 43
def uni (l m : List Nat) : List Nat := (l.zip m).map fun p => if 43 = p.1 ∨ 43 = p.2 then 43 else 46
def lay (l m : List Nat) : List Nat := (l.zip m).map fun p => if p.1 = 46 then p.2 else p.1
def isRow (fr : List (List Nat × Nat)) (l : List Nat) : Bool := decide (l.length = fr.length) && (l.zip fr).all fun p => decide (p.1 ∈ ([46, 48, 49, 50, 51] : List Nat).take (p.2.2 + 1))
/-- new places -/
def news (s t : List Nat) : List Nat := (s.zipIdx.filter fun p => !decide (p.1 = 46) && !decide (t[p.2]? = some 43)).map (·.2)
section
variable {P : Program} {w : World} {K : PySem.W.Frag} {mg : Str → Option Value} {base : Heap}
def spLot (K : PySem.W.Frag) : Sp := fun vs H Q _ => ∃ M I l, Wf M I ∧ I H ∧ vs = [.str (T l)] ∧ l.length ≤ 1000 ∧ ∀ H', Ex M H H' → I H' → Q (.str (T (lot l))) H'
theorem ok_lot_of (B : Bl mg) (F : At K mg "lot_of" s_lot_of ["row"] []) : Df P w K mg base 1 "lot_of" ["row"] [] (spLot K) := by
  refine F.df sc_lot_of (fun vs H Q E h => ?_) (fun f cdv A outer s H vs Q E hr h => ⟨_, w_lot_of B hr, ?_⟩)
  · obtain ⟨M, I, l, _, _, rfl, _⟩ := h
    rfl
  · obtain ⟨M, I, l, hw, hI, rfl, hl, q⟩ := h
    unfold t_lot_of
    walk_at "sx"
    refine lc_srcM (as := l) (enc := e1) (fun c => .str (T [if c = 46 then 46 else 43])) hw hI (by walk_at "rep") rfl (by walk_at "sz") (fun _ => rfl) ?_ ?_
    · intro L acc k a v H hL ha rv wf hi ex Qe q
      cases rep_str rv
      walk_at "sx"
      refine ifB (fun h => ?_) (fun h => ?_) <;> walk_at "sx"
      · exact q _ _ (by simp at h; simp [h]; exact .str _) hi (Ex.refl _)
      · exact q _ _ (by simp at h; simp [h]; exact .str _) hi (Ex.refl _)
    · intro y H' rp ex hi
      exact join_1 _ rp (by omega) (q _ ex hi)
def spUni (K : PySem.W.Frag) : Sp := fun vs H Q _ => ∃ M I l m, Wf M I ∧ I H ∧ vs = [.str (T l), .str (T m)] ∧ l.length ≤ 1000 ∧ ∀ H', Ex M H H' → I H' → Q (.str (T (uni l m))) H'
theorem ok_union (B : Bl mg) (F : At K mg "union" s_union ["one", "other"] []) : Df P w K mg base 1 "union" ["one", "other"] [] (spUni K) := by
  refine F.df sc_union (fun vs H Q E h => ?_) (fun f cdv A outer s H vs Q E hr h => ⟨_, w_union B hr, ?_⟩)
  · obtain ⟨M, I, l, m, _, _, rfl, _⟩ := h
    rfl
  · obtain ⟨M, I, l, m, hw, hI, rfl, hl, q⟩ := h
    unfold t_union
    walk_at "sx"
    refine lc_zipM (as := l) (bs := m) (enc := e1) (enc2 := e1) (fun p => .str (T [if 43 = p.1 ∨ 43 = p.2 then 43 else 46])) hw hI (.str _) rfl (.str _) rfl (by walk_at "sz") (fun _ _ => rfl) ?_ ?_
    · intro L acc k a b v u H hL ha hb rv rw wf hi ex Qe q
      cases rep_str rv
      cases rep_str rw
      walk_at "sx"
      refine in_L (ls := [[a], [b]]) (by assumption) (.inr rfl) ?_
      walk_at "sx"
      refine ifB (fun h => ?_) (fun h => ?_) <;> walk_at "sx"
      · exact q _ _ (by simp at h; simp [h]; exact .str _) (by assumption) (by assumption)
      · exact q _ _ (by simp at h; simp [h]; exact .str _) (by assumption) (by assumption)
    · intro y H' rp ex hi
      exact join_1 _ rp (by simp; omega) (q _ ex hi)
def spBlank (K : PySem.W.Frag) : Sp := fun vs H Q _ => ∃ n : Nat, vs = [.int n] ∧ n ≤ 1000 ∧ Q (.str (T (List.replicate n 46))) H
theorem ok_blank (B : Bl mg) (F : At K mg "blank" s_blank ["many"] []) : Df P w K mg base 1 "blank" ["many"] [] (spBlank K) := by
  refine F.df sc_blank (fun vs H Q E h => ?_) (fun f cdv A outer s H vs Q E hr h => ⟨_, w_blank B hr, ?_⟩)
  · obtain ⟨n, rfl, _⟩ := h
    rfl
  · obtain ⟨n, rfl, hl, q⟩ := h
    unfold t_blank
    walk_at "sx"
    refine mul_Ti (by omega) (by decide) ?_
    rw [show (List.replicate n [46]).flatten = List.replicate n 46 from by induction n with
      | zero => rfl
      | succ n ih => simp [List.replicate_succ]]
    exact q
/-- the cells: a list or a tuple -/
def Cells (K : PySem.W.Frag) (M : Addr → Prop) (H : Hp) (x : V) (fr : List (List Nat × Nat)) : Prop := ∃ d, Rep K M H x d ∧ (d = .lst (fr.map eC) ∨ d = .tup (fr.map eC))
theorem Cells.ex {M : Addr → Prop} {H H' : Hp} {x : V} {fr : List (List Nat × Nat)} (e : Ex M H H') (h : Cells K M H x fr) : Cells K M H' x fr := by
  obtain ⟨d, h1, h2⟩ := h
  exact ⟨d, h1.ex e, h2⟩
theorem Cells.off {M : Addr → Prop} {H : Hp} {x : V} {fr : List (List Nat × Nat)} {q : Addr} (e : H q = none) (h : Cells K M H x fr) : Cells K (Mq M q) H x fr := by
  obtain ⟨d, h1, h2⟩ := h
  exact ⟨d, h1.off e, h2⟩
theorem Cells.ofL {M : Addr → Prop} {H : Hp} {x : V} {fr : List (List Nat × Nat)} (h : Rep K M H x (.lst (fr.map eC))) : Cells K M H x fr := ⟨_, h, .inl rfl⟩
theorem Cells.ix {M : Addr → Prop} {H : Hp} {x : V} {fr : List (List Nat × Nat)} {k : Nat} {Q : VK} (h : Cells K M H x fr) (hk : k < fr.length) (q : ∀ v, Rep K M H v (eC fr[k]) → Q v H) : rIx K x (.int (k : Nat)) H Q := by
  obtain ⟨d, h1, h2⟩ := h
  exact ix_R h1 h2 (by simp [hk]) q
theorem Cells.len {M : Addr → Prop} {H : Hp} {x : V} {fr : List (List Nat × Nat)} {Q : VK} (h : Cells K M H x fr) (q : Q (.int (fr.length : Nat)) H) : rLen K [x] H Q := by
  obtain ⟨d, h1, h2⟩ := h
  exact len_R h1 h2 (by rw [List.length_map]; exact q)
/-- data whose type shows -/
def Shows (d : D) : Prop := ∃ t, TyD d t
def isStr : D → Bool
  | .str _ => true
  | _ => false
def isTup : D → Bool
  | .tup _ => true
  | _ => false
def isLst : D → Bool
  | .lst _ => true
  | _ => false
def isInt : D → Bool
  | .int _ => true
  | .bl _ => true
  | _ => false
def isBl : D → Bool
  | .bl _ => true
  | _ => false
theorem isi_str {M : Addr → Prop} {H : Hp} {x : V} {d : D} {Q : VK} (h : Rep K M H x d) (hs : Shows d) (q : Q (.bl (isStr d)) H) : rIsi K [x, .ty "str"] H Q := by
  obtain ⟨t, ht⟩ := hs
  cases ht with
  | non => exact isi_D h .non (kit_ty (b := "str") (r := false) (by decide +kernel)) q
  | bl b => exact isi_D h (.bl b) (kit_ty (b := "str") (r := false) (by decide +kernel)) q
  | int b => exact isi_D h (.int b) (kit_ty (b := "str") (r := false) (by decide +kernel)) q
  | str b => exact isi_D h (.str b) (kit_ty (b := "str") (r := true) (by decide +kernel)) q
  | lst b => exact isi_D h (.lst b) (kit_ty (b := "str") (r := false) (by decide +kernel)) q
  | tup b => exact isi_D h (.tup b) (kit_ty (b := "str") (r := false) (by decide +kernel)) q
  | dct b => exact isi_D h (.dct b) (kit_ty (b := "str") (r := false) (by decide +kernel)) q
theorem isi_tup {M : Addr → Prop} {H : Hp} {x : V} {d : D} {Q : VK} (h : Rep K M H x d) (hs : Shows d) (q : Q (.bl (isTup d)) H) : rIsi K [x, .ty "tuple"] H Q := by
  obtain ⟨t, ht⟩ := hs
  cases ht with
  | non => exact isi_D h .non (kit_ty (b := "tuple") (r := false) (by decide +kernel)) q
  | bl b => exact isi_D h (.bl b) (kit_ty (b := "tuple") (r := false) (by decide +kernel)) q
  | int b => exact isi_D h (.int b) (kit_ty (b := "tuple") (r := false) (by decide +kernel)) q
  | str b => exact isi_D h (.str b) (kit_ty (b := "tuple") (r := false) (by decide +kernel)) q
  | lst b => exact isi_D h (.lst b) (kit_ty (b := "tuple") (r := false) (by decide +kernel)) q
  | tup b => exact isi_D h (.tup b) (kit_ty (b := "tuple") (r := true) (by decide +kernel)) q
  | dct b => exact isi_D h (.dct b) (kit_ty (b := "tuple") (r := false) (by decide +kernel)) q
def isRowD (fr : List (List Nat × Nat)) : D → Bool
  | .str z => isRow fr z.cps.toList
  | _ => false
/-- frame and value -/
def spIsRowD (K : PySem.W.Frag) : Sp := fun vs H Q _ => ∃ M I x v fr d, Wf M I ∧ I H ∧ vs = [x, v] ∧ Cells K M H x fr ∧ Rep K M H v d ∧ Shows d ∧ (∀ l, d = .str (T l) → l.length ≤ 1000) ∧ fr.length ≤ 1000 ∧ ∀ H', Ex M H H' → I H' → Q (.bl (isRowD fr d)) H'
def spIsRow (K : PySem.W.Frag) : Sp := fun vs H Q _ => ∃ M I x fr l, Wf M I ∧ I H ∧ vs = [x, .str (T l)] ∧ Cells K M H x fr ∧ l.length ≤ 1000 ∧ fr.length ≤ 1000 ∧ ∀ H', Ex M H H' → I H' → Q (.bl (isRow fr l)) H'
theorem row_str {k : Nat} {ps : List Str} (G : Df P w K mg base k "is_row" ps [] (spIsRowD K)) : Df P w K mg base k "is_row" ps [] (spIsRow K) := by
  obtain ⟨fd, h1, h2⟩ := G.ok
  refine ⟨G.mgx, ⟨fd, h1.imp fun vs H Q E h => ?_, h2⟩, G.kp⟩
  obtain ⟨M, I, x, fr, l, hw, hI, rfl, hx, hl, hf, q⟩ := h
  exact ⟨M, I, x, _, fr, .str (T l), hw, hI, rfl, hx, .str _, ⟨_, .str _⟩, fun m e => by cases (T_inj (by injection e) : l = m); exact hl, hf, q⟩
/-- seed, told -/
def spNews (K : PySem.W.Frag) : Sp := fun vs H Q _ => ∃ M I s t, Wf M I ∧ I H ∧ vs = [.str (T s), .str (T t)] ∧ s.length ≤ 1000 ∧ t.length = s.length ∧ ∀ y H', Ex M H H' → I H' → Rep K M H' y (.lst ((news s t).map eI)) → Q y H'
end



/-! ### coming -/
def canTake (s t r : List Nat) : Bool := !(news s t).isEmpty && (news s t).all fun k => decide (r[k]? = s[k]?)
def first (S : List (List Nat)) (t r : List Nat) : Option (List Nat) := S.find? fun s => canTake s t r
def takes (S : List (List Nat)) (r : List Nat) : Nat → List (List Nat) → List Nat → List (List Nat) × List Nat
  | 0, tk, t => (tk, t)
  | n + 1, tk, t => match first S t r with
    | none => (tk, t)
    | some s => takes S r n (tk ++ [s]) (uni t (lot s))
def taken (S : List (List Nat)) (r : List Nat) : List (List Nat) × List Nat := takes S r r.length [] (List.replicate r.length 46)
theorem news_lt {s t : List Nat} {k : Nat} (h : k ∈ news s t) : k < s.length := by
  unfold news at h
  obtain ⟨p, hp, rfl⟩ := List.mem_map.mp h
  obtain ⟨hp, _⟩ := List.mem_filter.mp hp
  have := List.mem_zipIdx hp
  omega
theorem lot_len (l : List Nat) : (lot l).length = l.length := by simp [lot]
theorem uni_len {l m : List Nat} (h : m.length = l.length) : (uni l m).length = l.length := by simp [uni, h]
def optS : Option (List Nat) → V
  | none => .non
  | some s => .str (T s)
section
variable {P : Program} {w : World} {K : PySem.W.Frag} {mg : Str → Option Value} {base : Heap}
theorem flat_I (l : List Nat) : ∀ d ∈ l.map eI, Flat d := by
  intro d hd
  obtain ⟨n, _, rfl⟩ := List.mem_map.mp hd
  trivial
def spCan (K : PySem.W.Frag) : Sp := fun vs H Q _ => ∃ M I s t r, Wf M I ∧ I H ∧ vs = [.str (T s), .str (T t), .str (T r)] ∧ s.length ≤ 1000 ∧ t.length = s.length ∧ r.length = s.length ∧ ∀ H', Ex M H H' → I H' → Q (.bl (canTake s t r)) H'
/-- seeds (a list or a tuple), told, row -/
def Seeds (K : PySem.W.Frag) (M : Addr → Prop) (H : Hp) (x : V) (S : List (List Nat)) : Prop := ∃ d, Rep K M H x d ∧ (d = .lst (S.map eS) ∨ d = .tup (S.map eS))
theorem Seeds.ex {M : Addr → Prop} {H H' : Hp} {x : V} {S : List (List Nat)} (e : Ex M H H') (h : Seeds K M H x S) : Seeds K M H' x S := by
  obtain ⟨d, r, z⟩ := h
  exact ⟨d, r.ex e, z⟩
theorem Seeds.off {M : Addr → Prop} {H : Hp} {x : V} {S : List (List Nat)} {q : Addr} (e : H q = none) (h : Seeds K M H x S) : Seeds K (Mq M q) H x S := by
  obtain ⟨d, r, z⟩ := h
  exact ⟨d, r.off e, z⟩
theorem seeds_el {d : D} {S : List (List Nat)} (h : d = .lst (S.map eS) ∨ d = .tup (S.map eS)) : d.elems = some (S.map eS) := by
  rcases h with rfl | rfl <;> rfl
def spFirst (K : PySem.W.Frag) : Sp := fun vs H Q _ => ∃ M I x S t r, Wf M I ∧ I H ∧ vs = [x, .str (T t), .str (T r)] ∧ Seeds K M H x S ∧ r.length ≤ 1000 ∧ t.length = r.length ∧ (∀ s ∈ S, s.length = r.length) ∧
  ∀ H', Ex M H H' → I H' → Q (optS (first S t r)) H'
end



/-! ### the bag -/
section
variable {P : Program} {w : World} {K : PySem.W.Frag} {mg : Str → Option Value} {base : Heap}
def spBag (K : PySem.W.Frag) : Sp := fun vs H Q _ => ∃ (a : Addr) (ns : List Int), vs = [.ref a] ∧ SqL K H a (ns.map V.int) ∧ ns.length ≤ 63 ∧ ∀ b l H', b ≠ l → BagOk H' b l → Q (.ref b) H'
theorem ok_bag (B : Bl mg) (F : At K mg "_law_bag" s__law_bag ["_law_script"] []) : Df P w K mg base 1 "_law_bag" ["_law_script"] [] (spBag K) := by
  refine F.df sc__law_bag (fun vs H Q E h => ?_) (fun f cdv A outer s H vs Q E hr h => ⟨_, w__law_bag B hr, ?_⟩)
  · obtain ⟨a, ns, rfl, _⟩ := h
    rfl
  · obtain ⟨a, ns, rfl, hS, hl, q⟩ := h
    unfold t__law_bag
    walk_at "sx"
    have ec : cutV (ns.map V.int) none (some 63) = ns.map V.int := by
      have e := cut_to (xs := ns.map V.int) (n := 63)
      refine e.trans (List.take_of_length_le (by simpa using hl))
    refine .inl ⟨a, _, rfl, hS, fun p hp => ?_⟩
    rw [ec]
    have e1 : Ex M0 H (upd H p (.lst (ns.map V.int))) := Ex.of (same_upd hp)
    refine for_src (K := K) (M := M0) (as := ns) (enc := D.int) (.lst upd_same (fun h => h) (Reps.scal (fun i => .int i) ns)) rfl (fun k σ H1 => ∃ m v, σ = [some (.ref a), some (.int (m : Nat)), v] ∧ m < 2147483400 ∧ Ex M0 (upd H p (.lst (ns.map V.int))) H1)
      ⟨42012, none, rfl, by decide, Ex.refl _⟩ (fun k σ H h => by obtain ⟨_, _, _, _, h⟩ := h; exact h) ?_ ?_
    · rintro k z v σ H1 hz ⟨m, v0, rfl, hm, e2⟩ rv
      cases rep_int rv
      walk_at "sx"
      refine mul_r (by decide) ?_
      walk_at "sx"
      refine mod_any (by decide) fun m2 h2 => ?_
      walk_at "sx"
      refine mul_r (by decide) ?_
      walk_at "sx"
      refine mod_any (by decide) fun m3 h3 => ?_
      walk_at "sx"
      exact ⟨m3, _, rfl, by omega, e2⟩
    · rintro σ H1 ⟨m, v0, rfl, hm, e2⟩
      walk_at "sx"
      refine .inl ⟨a, _, rfl, sq_l (e1.trans e2) (fun h => h) hS, fun p2 hp2 => ?_⟩
      rw [ec]
      walk_at "sx"
      refine .inl ⟨p2, _, rfl, .inl (SqL.of upd_same), fun l hl2 => ?_⟩
      walk_at "sx"
      refine ⟨by show 5 ≤ sizeLine; decide, fun b hb => ?_⟩
      have hn : b ≠ l := fun e => by subst e; rw [upd_same] at hb; cases hb
      exact q b l _ hn ⟨ns, 0, 0, m, 0, upd_same, by rw [upd_ne hn.symm, upd_same], by omega, by omega⟩
def spDraw (K : PySem.W.Frag) : Sp := fun vs H Q _ => ∃ (M : Addr → Prop) (I : Hp → Prop) (b : Addr) (n : Int), Wf M I ∧ I H ∧ HasBag M I b ∧ vs = [.ref b, .int n] ∧ 0 < n ∧ n < 2 ^ 200 ∧ ∀ (k : Nat) H', (k : Int) < n → Ex M H H' → I H' → Q (.int (k : Nat)) H'
theorem ok_draw (B : Bl mg) (F : At K mg "_law_draw" s__law_draw ["_law_bag_here", "_law_sides"] []) : Df P w K mg base 1 "_law_draw" ["_law_bag_here", "_law_sides"] [] (spDraw K) := by
  refine F.df sc__law_draw (fun vs H Q E h => ?_) (fun f cdv A outer s H vs Q E hr h => ⟨_, w__law_draw B hr, ?_⟩)
  · obtain ⟨M, I, b, n, _, _, _, rfl, _⟩ := h
    rfl
  · obtain ⟨M, I, b, n, hw, hI, hB, rfl, hn, hn2, q⟩ := h
    have hlog : n.natAbs.log2 < 9000 := by
      have h1 : n.natAbs < 2 ^ 200 := by omega
      have := PySem.Flt.log2_lt_of (n := n.natAbs) (k := 200) (by decide) h1
      omega
    obtain ⟨l, hMb, hMl, hbl, hOk, hput⟩ := hB.ex
    -- the end of it: only the bag has changed
    have fin : ∀ (k : Nat) H', (k : Int) < n → (∀ p, p ≠ b → H' p = H p) → BagOk H' b l → Q (.int (k : Nat)) H' := fun k H' hk e o =>
      q k H' hk (fun p u hp h => by rw [e p fun z => hp (z ▸ hMb)]; exact h) (hput H H' hI (fun p _ hp => e p hp) o)
    obtain ⟨cs, i, g, m, c, h0⟩ := hOk H hI
    unfold t__law_draw
    walk_at "sx"
    refine ix_raw h0.hb rfl ?_
    walk_at "sx"
    refine set_raw h0.hb rfl ?_
    have h1 : BagIs (upd H b (.lst (bagL l i g m (c + 1)))) b l cs i g m (c + 1) := bag_put h0 hbl h0.hm
    have k1 : ∀ p, p ≠ b → (upd H b (.lst (bagL l i g m (c + 1)))) p = H p := fun p hp => upd_ne hp
    -- the rest of the body, whatever the middle did
    have rest : ∀ (σ2 σ3 : Option V) (i g m : Nat) (H2 : Hp), BagIs H2 b l cs i g m (c + 1) → (∀ p, p ≠ b → H2 p = H p) →
        (tSeq (tIfS (tTest (tOp rGtU (tOp (rIx K) (tVar 0) (tC (.int 2))) (tC (.int 0)))) (tSeq (tAsg (tOp rModU (tCB (rInt1) (tCons (tOp (rIx K) (tVar 0) (tC (.int 2))) tNil)) (tVar 1)) (gName 3))
    (tSeq (tAsg (tOp rDivU (tOp (rIx K) (tVar 0) (tC (.int 2))) (tVar 1)) (gSub (tVar 0) (tC (.int 2)) rSetL))
    (tRet (tVar 3)))) tNext)
    (tSeq (tAsg (tCB (rInt1) (tCons (tOp (rIx K) (tVar 0) (tC (.int 3))) tNil)) (gName 4))
    (tSeq (tAsg (tOp rModU (tCB (rInt1) (tCons (tOp (rAddU K) (tOp (rAddU K) (tOp (rAddU K) (tOp rMulU (tOp rMulU (tVar 4) (tVar 4)) (tC (.int 23))) (tOp rMulU (tVar 4) (tC (.int 46021)))) (tOp rMulU (tOp (rIx K) (tVar 0) (tC (.int 4))) (tC (.int 104729)))) (tC (.int 60013))) tNil)) (tC (.int 2147483543))) (gSub (tVar 0) (tC (.int 3)) rSetL))
    (tRet (tOp rModU (tCB (rInt1) (tCons (tOp (rAddU K) (tOp rDivU (tOp (rIx K) (tVar 0) (tC (.int 3))) (tC (.int 67))) (tOp rMulU (tOp rModU (tCB (rInt1) (tCons (tOp (rIx K) (tVar 0) (tC (.int 3))) tNil)) (tC (.int 8009))) (tC (.int 61)))) tNil)) (tVar 1))))))
          { nx := fun _ H' => Q .non H', rt := Q } [some (.ref b), some (.int n), σ2, σ3, none] H2 := by
      intro σ2 σ3 i g m H2 h2 k2
      walk_at "sx"
      refine ix_raw h2.hb rfl ?_
      walk_at "sx"
      refine ifB (fun hg => ?_) (fun hg => ?_)
      · walk_at "sx"
        refine ix_raw h2.hb rfl ?_
        walk_at "sx"
        refine mod_any hn fun k hk => ?_
        walk_at "sx"
        refine ix_raw h2.hb rfl ?_
        walk_at "sx"
        refine div_any hn hlog fun g3 => ?_
        walk_at "sx"
        refine set_raw h2.hb rfl ?_
        walk_at "sx"
        exact fin k _ hk (fun p hp => (upd_ne hp).trans (k2 p hp)) ⟨_, _, _, _, _, bag_put h2 hbl (i' := i) (g' := g3) (c' := c + 1) h2.hm⟩
      · walk_at "sx"
        refine ix_raw h2.hb rfl ?_
        walk_at "sx"
        have hm := h2.hm
        refine mul_r (by omega) ?_
        walk_at "sx"
        refine mul_r (by decide) ?_
        walk_at "sx"
        refine mul_r (by decide) ?_
        walk_at "sx"
        refine ix_raw h2.hb rfl ?_
        walk_at "sx"
        refine mul_r (by decide) ?_
        walk_at "sx"
        refine mod_any (by decide) fun m3 h3 => ?_
        walk_at "sx"
        refine set_raw h2.hb rfl ?_
        have h4 := bag_put h2 hbl (i' := i) (g' := g) (m' := m3) (c' := c + 1) (by omega)
        walk_at "sx"
        refine ix_raw h4.hb rfl ?_
        walk_at "sx"
        refine div_any (by decide) (by decide +kernel) fun d => ?_
        walk_at "sx"
        refine ix_raw h4.hb rfl ?_
        walk_at "sx"
        refine mod_any (by decide) fun e he => ?_
        walk_at "sx"
        refine mul_r (by decide) ?_
        walk_at "sx"
        refine mod_any hn fun k hk => ?_
        exact fin k _ hk (fun p hp => (upd_ne hp).trans (k2 p hp)) ⟨_, _, _, _, _, h4⟩
    walk_at "sx"
    refine ix_raw h1.hb rfl ?_
    walk_at "sx"
    refine ifB (fun hg => ?_) (fun hg => ?_)
    · walk_at "sx"
      refine ix_raw h1.hb rfl ?_
      walk_at "sx"
      refine ix_raw h1.hb rfl ?_
      walk_at "sx"
      refine len_raw h1.hl ?_
      walk_at "sx"
      refine ifB (fun hi => ?_) (fun hi => ?_)
      · have hi2 : i < cs.length := by simpa using hi
        walk_at "sx"
        refine ix_raw h1.hb rfl ?_
        walk_at "sx"
        refine ix_raw h1.hb rfl ?_
        refine ix_raw (v := .int cs[i]) h1.hl (atI_nat' (by simp [hi2])) ?_
        walk_at "sx"
        refine ix_raw h1.hb rfl ?_
        walk_at "sx"
        refine set_raw h1.hb rfl ?_
        have h2 := bag_put h1 hbl (i' := i + 1) (g' := g) (c' := c + 1) h1.hm
        walk_at "sx"
        refine pow_ii ⟨by decide, by decide, by decide⟩ ?_
        walk_at "sx"
        refine ifB (fun hp => ?_) (fun hp => ?_)
        · walk_at "sx"
          refine set_raw h2.hb rfl ?_
          exact rest _ _ (i + 1) cs[i].natAbs m _ (bag_put h2 hbl h2.hm) fun p hp => (upd_ne hp).trans ((upd_ne hp).trans (k1 p hp))
        · walk_at "sx"
          refine ix_raw h2.hb rfl ?_
          walk_at "sx"
          refine mul_r (by decide) ?_
          walk_at "sx"
          refine mod_any (by decide) fun e he => ?_
          walk_at "sx"
          refine mul_r (by decide) ?_
          walk_at "sx"
          refine mod_any (by decide) fun m3 h3 => ?_
          walk_at "sx"
          refine set_raw h2.hb rfl ?_
          exact rest _ _ (i + 1) g m3 _ (bag_put h2 hbl (by omega)) fun p hp => (upd_ne hp).trans ((upd_ne hp).trans (k1 p hp))
      · refine sx_next ?_
        exact rest _ _ i g m _ h1 k1
    · refine ifF ?_
      refine sx_next ?_
      exact rest _ _ i g m _ h1 k1
end


section
variable {P : Program} {w : World} {K : PySem.W.Frag} {mg : Str → Option Value} {base : Heap}
def spOf (K : PySem.W.Frag) : Sp := fun vs H Q _ => ∃ (M : Addr → Prop) (I : Hp → Prop) (b : Addr) (x : V) (d : D) (ds : List D), Wf M I ∧ I H ∧ HasBag M I b ∧ vs = [.ref b, x] ∧ Rep K M H x d ∧ d.elems = some ds ∧ 0 < ds.length ∧ ds.length ≤ 100000 ∧ ∀ v e H', e ∈ ds → Rep K M H' v e → Ex M H H' → I H' → Q v H'
theorem ok_of (B : Bl mg) (G : Df P w K mg base 1 "_law_draw" ["_law_bag_here", "_law_sides"] [] (spDraw K)) (F : At K mg "_law_of" s__law_of ["_law_bag_here", "_law_things"] []) : Df P w K mg base 2 "_law_of" ["_law_bag_here", "_law_things"] [] (spOf K) := by
  refine F.df sc__law_of (fun vs H Q E h => ?_) (fun f cdv A outer s H vs Q E hr h => ⟨_, w__law_of B G hr, ?_⟩)
  · obtain ⟨M, I, b, x, d, ds, _, _, _, rfl, _⟩ := h
    rfl
  · obtain ⟨M, I, b, x, d, ds, hw, hI, hB, rfl, hx, hd, h0, hl, q⟩ := h
    unfold t__law_of
    walk_at "sx"
    refine len_E hx hd (szOk (by omega)) ?_
    walk_at "sx"
    refine ⟨M, I, b, _, hw, hI, hB, rfl, by omega, by omega, fun k H1 hk e1 i1 => ?_⟩
    have hk2 : k < ds.length := by omega
    refine ix_E (e := ds[k]) (hx.ex e1) hd (szOk (by omega)) (by simp [hk2]) fun v rv => ?_
    exact q v _ H1 (List.getElem_mem hk2) rv e1 i1
/-- a list or a tuple, its items in some order -/
def spMixed (K : PySem.W.Frag) : Sp := fun vs H Q _ => ∃ (M : Addr → Prop) (I : Hp → Prop) (b : Addr) (x : V) (d : D) (ds : List D), Wf M I ∧ I H ∧ HasBag M I b ∧ vs = [.ref b, x] ∧ Rep K M H x d ∧ (d = .lst ds ∨ d = .tup ds) ∧ ds.length ≤ 100000 ∧ ∀ v es H', es.Perm ds → Rep K M H' v (.lst es) → Ex M H H' → I H' → Q v H'
theorem Reps.erase {M : Addr → Prop} {H : Hp} : ∀ {xs : List V} {ds : List D} (k : Nat), Reps K M H xs ds → Reps K M H (xs.eraseIdx k) (ds.eraseIdx k)
  | _, _, _, .nil => .nil
  | _, _, 0, .cons _ y => y
  | _, _, k + 1, .cons x y => .cons x (Reps.erase k y)
theorem perm_erase {α : Type} {l : List α} {k : Nat} (h : k < l.length) : (l[k] :: l.eraseIdx k).Perm l := by
  have e : l = l.take k ++ l[k] :: l.drop (k + 1) := by rw [List.getElem_cons_drop, List.take_append_drop]
  have e2 : l.eraseIdx k = l.take k ++ l.drop (k + 1) := List.eraseIdx_eq_take_drop_succ l k
  rw [e2]
  conv => rhs; rw [e]
  exact List.perm_middle.symm
theorem ok_mixed (B : Bl mg) (G : Df P w K mg base 1 "_law_draw" ["_law_bag_here", "_law_sides"] [] (spDraw K)) (F : At K mg "_law_mixed" s__law_mixed ["_law_bag_here", "_law_things"] []) : Df P w K mg base 2 "_law_mixed" ["_law_bag_here", "_law_things"] [] (spMixed K) := by
  refine F.df sc__law_mixed (fun vs H Q E h => ?_) (fun f cdv A outer s H vs Q E hr h => ⟨_, w__law_mixed B G hr, ?_⟩)
  · obtain ⟨M, I, b, x, d, ds, _, _, _, rfl, _⟩ := h
    rfl
  · obtain ⟨M, I, b, x, d, ds, hw, hI, hB, rfl, hx, hd, hl, q⟩ := h
    have hde : d.elems = some ds := by rcases hd with rfl | rfl <;> rfl
    unfold t__law_mixed
    walk_at "sx"
    refine list_E hw hI hx hd fun p xs hp rx => ?_
    have np : ¬ M p := hw.fresh hI hp
    have w1 := hw.add p (.lst xs)
    have i1 : Iq I p (.lst xs) (upd H p (.lst xs)) := ⟨hw.same (same_upd hp) hI, upd_same⟩
    have e1 : Ex (Mq M p) H (upd H p (.lst xs)) := Ex.of (same_upd hp)
    generalize upd H p (.lst xs) = H1 at i1 e1
    walk_at "sx"
    refine lst_mut w1 i1 (by decide) fun p2 H2 hp2 np2 e2 w2 i2 => ?_
    walk_at "sx"
    have hx2 : Rep K (Mq (Mq M p) p2) H2 x d := (((hx.off hp).ex e1).off hp2).ex e2
    refine len_E hx2 hde (szOk (by omega)) ?_
    walk_at "sx"
    refine ⟨ds.length, rfl, by omega, by omega, ?_⟩
    have ed : (((ds.length : Nat) : Int)).toNat = ds.length := by omega
    rw [ed]
    have npp : p2 ≠ p := fun e => np2 (e ▸ .inr rfl)
    refine for_rng (fun k σ H3 => ∃ ys zs ds1 ds2 v, σ = [some (.ref b), some x, some (.ref p), some (.ref p2), v] ∧ (ds1 ++ ds2).Perm ds ∧ ds2.length = k ∧ Wf (Mq (Mq M p) p2) (Iq (Iq I p (.lst ys)) p2 (.lst zs)) ∧ Iq (Iq I p (.lst ys)) p2 (.lst zs) H3 ∧ Ex (Mq (Mq M p) p2) H2 H3 ∧ Reps K (Mq (Mq M p) p2) H3 ys ds1 ∧ Reps K (Mq (Mq M p) p2) H3 zs ds2)
      ⟨xs, [], ds, [], _, rfl, by simp, rfl, w2, i2, Ex.refl _, (((rx.off hp).ex e1).off hp2).ex e2, .nil⟩ ?_ ?_
    · rintro k σ H3 hk ⟨ys, zs, ds1, ds2, v, rfl, pm, hk2, w3, i3, e3, ry, rz⟩
      have hlen : ds1.length + ds2.length = ds.length := by have := pm.length_eq; simpa using this
      walk_at "sx"
      refine ⟨tyv_l i3.2, ?_⟩
      walk_at "sx"
      refine ⟨tyv_l i3.1.2, ?_⟩
      walk_at "sx"
      refine len_raw i3.1.2 ?_
      walk_at "sx"
      have hB3 : HasBag (Mq (Mq M p) p2) (Iq (Iq I p (.lst ys)) p2 (.lst zs)) b := (hB.add np).add np2
      have ly := ry.length
      have lz := rz.length
      refine ⟨_, _, b, _, w3, i3, hB3, rfl, by omega, by omega, fun j H4 hj e4 i4 => ?_⟩
      have hj2 : j < ys.length := by omega
      have hj3 : j < ds1.length := by omega
      have ry4 := ry.ex e4
      have rz4 := rz.ex e4
      walk_at "sx"
      -- rest.pop(j)
      have sq : seqIndex? ((j : Nat) : Int) ys.length = some j := by
        have := (ixN_seq (n := ys.length) (i := (j : Int)) (j := j) (by unfold ixN; rw [if_pos (by omega), if_pos (by omega)]; simp)).1
        exact this
      refine ⟨p, ys, j, j, ys[j], rfl, rfl, i4.1.2, by omega, by omega, sq, by simp [hj2], ?_⟩
      have w5 : Wf (Mq (Mq M p) p2) (Iq (Iq I p (.lst (ys.eraseIdx j))) p2 (.lst zs)) := (hw.add p _).add p2 _
      have i5 : Iq (Iq I p (.lst (ys.eraseIdx j))) p2 (.lst zs) (upd H4 p (.lst (ys.eraseIdx j))) := by
        obtain ⟨u1, u2⟩ := hw.put (o' := .lst (ys.eraseIdx j)) np i4.1
        exact ⟨u1, by rw [upd_ne npp]; exact i4.2⟩
      have e5 : Ex (Mq (Mq M p) p2) H4 (upd H4 p (.lst (ys.eraseIdx j))) := fun a o n h => by
        rw [upd_ne fun z => n (.inl (.inr z))]; exact h
      generalize upd H4 p (.lst (ys.eraseIdx j)) = H5 at i5 e5
      obtain ⟨v5, hv5, rv5⟩ := ry4.get (k := j) (d := ds1[j]) (by simp [hj3])
      have ev : v5 = ys[j] := by simp [hj2] at hv5; exact hv5.symm
      subst ev
      walk_at "sx"
      refine app_mut (hw.add p _) np2 i5 (by omega) fun H6 e6 w6 i6 => ?_
      refine ⟨ys.eraseIdx j, zs ++ [ys[j]], ds1.eraseIdx j, ds2 ++ [ds1[j]], _, rfl, ?_, by simp [hk2], w6, i6, ((e3.trans e4).trans e5).trans e6, ((Reps.erase j ry4).ex e5).ex e6, (((rz4.append (.cons rv5 .nil)).ex e5).ex e6)⟩
      have h1 : (ds1.eraseIdx j ++ (ds2 ++ [ds1[j]])).Perm (ds1[j] :: ds1.eraseIdx j ++ ds2) := by
        rw [← List.append_assoc]
        refine List.perm_append_comm.trans ?_
        simp
      exact h1.trans (((perm_erase hj3).append_right ds2).trans pm)
    · rintro σ H3 ⟨ys, zs, ds1, ds2, v, rfl, pm, hk2, w3, i3, e3, ry, rz⟩
      walk_at "sx"
      have hlen : ds1.length + ds2.length = ds.length := by have := pm.length_eq; simpa using this
      have d0 : ds1 = [] := List.length_eq_zero_iff.mp (by omega)
      subst d0
      refine q _ ds2 H3 (by simpa using pm) (.lst i3.2 (fun m => np2 (.inl m)) ((rz.le fun _ m => .inl (.inl m)))) ?_ i3.1.1
      exact (e1.trans ((e2.trans e3).shut hp2)).shut hp
end


/-! ### same -/
def isSc : D → Bool
  | .non => true
  | .bl _ => true
  | .int _ => true
  | .str _ => true
  | _ => false
def fit : Nat → D → Prop
  | 0, d => isSc d = true
  | n + 1, d => isSc d = true ∨ (∃ l, (d = .lst l ∨ d = .tup l) ∧ l.length ≤ 100000 ∧ ∀ e ∈ l, fit n e) ∨ ∃ l, d = .dct l ∧ l.length ≤ 100000 ∧ (l.map (·.1)).Nodup ∧ 1 ≤ n ∧ ∀ kv ∈ l, fit n kv.2
theorem sc_key (k : Key) : isSc (keyD k) = true := by cases k <;> rfl
theorem fit_sc {d : D} (h : isSc d = true) : ∀ n, fit n d
  | 0 => h
  | _ + 1 => .inl h
section
variable {P : Program} {w : World} {K : PySem.W.Frag} {mg : Str → Option Value} {base : Heap}
theorem df_none {x : Str} {st : Stmt} {ps : List Str} {dfl : List V} (F : At K mg x st ps dfl) (k : Nat) : Df P w K mg base k x ps dfl (fun _ _ _ _ => False) := by
  obtain ⟨fd, F1, F2⟩ := F.ex
  exact ⟨F.mgx, ⟨fd, ⟨fun _ _ _ _ h => h.elim, fun _ _ _ _ _ _ _ _ _ _ _ _ _ h => h.elim⟩, F2⟩, F1.kp⟩
def spSame (K : PySem.W.Frag) (n : Nat) : Sp := fun vs H Q _ => ∃ (M : Addr → Prop) (I : Hp → Prop) (x y : V) (d : D), Wf M I ∧ I H ∧ vs = [x, y] ∧ Rep K M H x d ∧ Rep K M H y d ∧ fit n d ∧ ∀ H', Ex M H H' → I H' → Q (.bl true) H'
theorem kit_same {K : PySem.W.Frag} {H : Hp} {x : V} {t c : String} {b : Bool} {Q : VK} (h : TyX K H x (.type t)) (k : kitB t c = some b) (q : Q (.bl b) H) : rIsi K [x, .ty c] H Q :=
  ⟨x, .ty c, .type t, .type c, b, rfl, .ty c, h, kit_ty k, q⟩
/-- isinstance(x, (list, tuple)) -/
theorem kit_lt {K : PySem.W.Frag} {H : Hp} {x : V} {t : String} {b1 b2 : Bool} {p : Addr} {Q : VK} (hp : H p = some (.tup [.ty "list", .ty "tuple"])) (h : TyX K H x (.type t)) (k1 : kitB t "list" = some b1) (k2 : kitB t "tuple" = some b2) (q : Q (.bl (b1 || b2)) H) : rIsiT K [x, .ref p] H Q :=
  ⟨x, p, _, .type t, [.type "list", .type "tuple"], b1 || b2, rfl, hp, .cons (.ty _) (.cons (.ty _) .nil), h, by
    refine kitAny_cons (kit_ty k1) (fun e => ?_) (fun e => by rw [e]; rfl)
    rw [e]
    refine kitAny_cons (kit_ty k2) (fun e2 => ?_) (fun e2 => by rw [e2]; rfl)
    rw [e2]
    exact kitAny_nil, q⟩
theorem same_body {n : Nat} {sp : Sp} {M : Addr → Prop} {I : Hp → Prop} {x y : V} {d : D} {H : Hp} {Q : VK} (hw : Wf M I) (hI : I H) (hx : Rep K M H x d) (hy : Rep K M H y d)
    (hf : isSc d = true ∨ (∃ l, (d = .lst l ∨ d = .tup l) ∧ l.length ≤ 100000 ∧ ∀ e ∈ l, ∀ (M : Addr → Prop) (I : Hp → Prop) (x y : V) (H : Hp) (Q : VK), Wf M I → I H → Rep K M H x e → Rep K M H y e → (∀ H', Ex M H H' → I H' → Q (.bl true) H') → sp [x, y] H Q E0) ∨
      ∃ l, d = .dct l ∧ l.length ≤ 100000 ∧ (l.map (·.1)).Nodup ∧ ∀ e, (e = .lst (l.map fun kv => keyD kv.1) ∨ ∃ kv ∈ l, e = kv.2) → ∀ (M : Addr → Prop) (I : Hp → Prop) (x y : V) (H : Hp) (Q : VK), Wf M I → I H → Rep K M H x e → Rep K M H y e → (∀ H', Ex M H H' → I H' → Q (.bl true) H') → sp [x, y] H Q E0)
    (q : ∀ H', Ex M H H' → I H' → Q (.bl true) H') : t__law_same K sp { nx := fun _ H' => Q .non H', rt := Q } (L2.start n__law_same [x, y]) H := by
  unfold t__law_same
  -- (list, tuple)
  have lt : ∀ {Z : VK} {H : Hp}, I H → (∀ p H2, H2 p = some (.tup [.ty "list", .ty "tuple"]) → Ex M H H2 → I H2 → Z (.ref p) H2) → TupK Z [.ty "list", .ty "tuple"] H := fun {Z H} hI q => by
    refine ⟨by show 2 ≤ sizeLine; decide, fun p hp => ?_⟩
    have s := same_upd (o := .tup [.ty "list", .ty "tuple"]) hp
    exact q p _ upd_same (Ex.of s) (hw.same s hI)
  rcases hf with hsc | ⟨l, hd, hl, hr⟩ | ⟨l, hd, hl, hnd, hr⟩
  · cases d with
    | non =>
      cases rep_non hx
      cases rep_non hy
      walk_at "sx"
      refine ifIsT (by simp) ?_
      walk_at "sx"
      refine ifIsT (by simp) ?_
      walk_at "sx"
      rw [show decide (V.non = V.non) = true by simp]
      exact q H (Ex.refl _) hI
    | bl b =>
      cases rep_bl hx
      cases rep_bl hy
      walk_at "sx"
      refine ifIsF (by simp) ?_
      walk_at "sx"
      refine ifIsF (by simp) ?_
      walk_at "sx"
      refine lt hI fun p H2 hp2 e2 i2 => ?_
      walk_at "sx"
      refine kit_lt hp2 (.base (.bl b)) (b1 := false) (b2 := false) (by decide +kernel) (by decide +kernel) ?_
      refine ex_b ?_
      refine ifIsF rfl ?_
      walk_at "sx"
      refine kit_same (.base (.bl b)) (b := false) (by decide +kernel) ?_
      walk_at "sx"
      refine kit_same (.base (.bl b)) (b := true) (by decide +kernel) ?_
      walk_at "sx"
      refine kit_same (.base (.bl b)) (b := true) (by decide +kernel) ?_
      walk_at "sx"
      refine ifIsF (by simp) ?_
      walk_at "sx"
      refine kit_same (.base (.bl b)) (b := true) (by decide +kernel) ?_
      walk_at "sx"
      refine kit_same (.base (.bl b)) (b := true) (by decide +kernel) ?_
      walk_at "sx"
      refine ifIsF (by simp) ?_
      walk_at "sx"
      refine kit_same (.base (.bl b)) (b := false) (by decide +kernel) ?_
      walk_at "sx"
      refine kit_same (.base (.bl b)) (b := false) (by decide +kernel) ?_
      walk_at "sx"
      refine ifIsT (by simp) ?_
      walk_at "sx"
      rw [show decide (b = b) = true by simp]
      exact q H2 e2 i2
    | int i =>
      cases rep_int hx
      cases rep_int hy
      walk_at "sx"
      refine ifIsF (by simp) ?_
      walk_at "sx"
      refine ifIsF (by simp) ?_
      walk_at "sx"
      refine lt hI fun p H2 hp2 e2 i2 => ?_
      walk_at "sx"
      refine kit_lt hp2 (.base (.int i)) (b1 := false) (b2 := false) (by decide +kernel) (by decide +kernel) ?_
      refine ex_b ?_
      refine ifIsF rfl ?_
      walk_at "sx"
      refine kit_same (.base (.int i)) (b := false) (by decide +kernel) ?_
      walk_at "sx"
      refine kit_same (.base (.int i)) (b := false) (by decide +kernel) ?_
      walk_at "sx"
      refine kit_same (.base (.int i)) (b := false) (by decide +kernel) ?_
      walk_at "sx"
      refine ifIsF (by simp) ?_
      walk_at "sx"
      refine kit_same (.base (.int i)) (b := true) (by decide +kernel) ?_
      walk_at "sx"
      refine kit_same (.base (.int i)) (b := true) (by decide +kernel) ?_
      walk_at "sx"
      refine ifIsF (by simp) ?_
      walk_at "sx"
      refine kit_same (.base (.int i)) (b := false) (by decide +kernel) ?_
      walk_at "sx"
      refine kit_same (.base (.int i)) (b := false) (by decide +kernel) ?_
      walk_at "sx"
      refine ifIsT (by simp) ?_
      walk_at "sx"
      rw [show decide (i = i) = true by simp]
      exact q H2 e2 i2
    | str z =>
      cases rep_str hx
      cases rep_str hy
      walk_at "sx"
      refine ifIsF (by simp) ?_
      walk_at "sx"
      refine ifIsF (by simp) ?_
      walk_at "sx"
      refine lt hI fun p H2 hp2 e2 i2 => ?_
      walk_at "sx"
      refine kit_lt hp2 (.base (.str z)) (b1 := false) (b2 := false) (by decide +kernel) (by decide +kernel) ?_
      refine ex_b ?_
      refine ifIsF rfl ?_
      walk_at "sx"
      refine kit_same (.base (.str z)) (b := false) (by decide +kernel) ?_
      walk_at "sx"
      refine kit_same (.base (.str z)) (b := false) (by decide +kernel) ?_
      walk_at "sx"
      refine kit_same (.base (.str z)) (b := false) (by decide +kernel) ?_
      walk_at "sx"
      refine ifIsF (by simp) ?_
      walk_at "sx"
      refine kit_same (.base (.str z)) (b := false) (by decide +kernel) ?_
      walk_at "sx"
      refine kit_same (.base (.str z)) (b := false) (by decide +kernel) ?_
      walk_at "sx"
      refine ifIsF (by simp) ?_
      walk_at "sx"
      refine kit_same (.base (.str z)) (b := true) (by decide +kernel) ?_
      walk_at "sx"
      refine kit_same (.base (.str z)) (b := true) (by decide +kernel) ?_
      walk_at "sx"
      refine ifIsT (by simp) ?_
      walk_at "sx"
      refine .inl ⟨rfl, ?_⟩
      rw [show decide (V.str z = V.str z) = true by simp]
      exact q H2 e2 i2
    | _ => cases hsc
  · -- lists and tuples alike
    have key : ∀ {t : String} {b1 b2 : Bool}, (∀ H2, Ex M H H2 → TyX K H2 x (.type t) ∧ TyX K H2 y (.type t)) → d.elems = some l → x ≠ .non → y ≠ .non → kitB t "list" = some b1 → kitB t "tuple" = some b2 → (b1 || b2) = true →
        t__law_same K sp { nx := fun _ H' => Q .non H', rt := Q } (L2.start n__law_same [x, y]) H := fun {t b1 b2} ht hde nx ny k1 k2 hb => by
      unfold t__law_same
      walk_at "sx"
      refine ifIsF (by simp [ny]) ?_
      walk_at "sx"
      refine ifIsF (by simp [nx]) ?_
      walk_at "sx"
      refine lt hI fun p H2 hp2 e2 i2 => ?_
      obtain ⟨tx, ty⟩ := ht H2 e2
      walk_at "sx"
      refine kit_lt hp2 ty k1 k2 ?_
      refine ex_b ?_
      refine ifIsT hb ?_
      walk_at "sx"
      refine kit_same tx k1 ?_
      walk_at "sx"
      refine kit_same ty k1 ?_
      walk_at "sx"
      refine ifIsF (by simp) ?_
      walk_at "sx"
      refine kit_same tx k2 ?_
      walk_at "sx"
      refine kit_same ty k2 ?_
      walk_at "sx"
      refine ifIsF (by simp) ?_
      walk_at "sx"
      refine len_E (hx.ex e2) hde (szOk (by omega)) ?_
      walk_at "sx"
      refine len_E (hy.ex e2) hde (szOk (by omega)) ?_
      walk_at "sx"
      refine ifIsT (by simp) ?_
      walk_at "sx"
      refine lc_zipM (as := l) (bs := l) (enc := id) (enc2 := id) (fun _ => .bl true) hw i2 (hx.ex e2) (by simpa using hde) (hy.ex e2) (by simpa using hde) (szOk (by omega)) (fun _ _ => rfl) ?_ ?_
      · intro L acc k a b v u H3 hL ha hb' rv rw' wf hi ex Qe qe
        have eab : a = b := by rw [ha] at hb'; exact Option.some.inj hb'
        subst eab
        walk_at "sx"
        exact hr a (List.mem_of_getElem? ha) _ _ v u H3 _ wf hi rv rw' fun H4 e4 i4 => qe _ H4 (.bl true) i4 e4
      · intro y2 H3 rp e3 i3
        refine all_M (fun _ => true) rp ?_
        rw [show ((l.zip l).all fun _ => true) = true by simp]
        exact q H3 (e2.trans e3) i3
    rcases hd with rfl | rfl
    · refine key (t := "list") (b1 := true) (b2 := false) (fun H2 e => ⟨tyx_of (hx.ex e) (.lst _), tyx_of (hy.ex e) (.lst _)⟩) rfl ?_ ?_ (by decide +kernel) (by decide +kernel) rfl
      · cases hx; exact nofun
      · cases hy; exact nofun
    · refine key (t := "tuple") (b1 := false) (b2 := true) (fun H2 e => ⟨tyx_of (hx.ex e) (.tup _), tyx_of (hy.ex e) (.tup _)⟩) rfl ?_ ?_ (by decide +kernel) (by decide +kernel) rfl
      · cases hx; exact nofun
      · cases hy; exact nofun
  · -- dicts
    subst hd
    have nx : x ≠ .non := by cases hx; exact nofun
    have ny : y ≠ .non := by cases hy; exact nofun
    walk_at "sx"
    refine ifIsF (by simp [ny]) ?_
    walk_at "sx"
    refine ifIsF (by simp [nx]) ?_
    walk_at "sx"
    refine lt hI fun p H2 hp2 e2 i2 => ?_
    have tx : ∀ H3, Ex M H2 H3 → TyX K H3 x (.type "dict") := fun H3 e => tyx_of ((hx.ex e2).ex e) (.dct _)
    have ty : ∀ H3, Ex M H2 H3 → TyX K H3 y (.type "dict") := fun H3 e => tyx_of ((hy.ex e2).ex e) (.dct _)
    walk_at "sx"
    refine kit_lt hp2 (ty _ (Ex.refl _)) (b1 := false) (b2 := false) (by decide +kernel) (by decide +kernel) ?_
    refine ex_b ?_
    refine ifIsF rfl ?_
    walk_at "sx"
    refine kit_same (ty _ (Ex.refl _)) (b := true) (by decide +kernel) ?_
    walk_at "sx"
    refine kit_same (tx _ (Ex.refl _)) (b := true) (by decide +kernel) ?_
    walk_at "sx"
    refine list_keys hw i2 (hx.ex e2) fun v3 H3 e3 i3 r3 => ?_
    walk_at "sx"
    refine list_keys hw i3 ((hy.ex e2).ex e3) fun v4 H4 e4 i4 r4 => ?_
    walk_at "sx"
    refine hr _ (.inl rfl) M I v3 v4 H4 _ hw i4 (r3.ex e4) r4 fun H5 e5 i5 => ?_
    walk_at "sx"
    have e25 : Ex M H2 H5 := (e3.trans e4).trans e5
    have hx5 := (hx.ex e2).ex e25
    have hy5 := (hy.ex e2).ex e25
    refine list_keys hw i5 hy5 fun v6 H6 e6 i6 r6 => ?_
    refine lc_srcM (as := l) (enc := fun kv => keyD kv.1) (fun _ => .bl true) hw i6 r6 rfl (szOk (by omega)) (fun _ => rfl) ?_ ?_
    · intro L acc k a v H7 hL ha rv wf hi ex Qe qe
      have hm := List.mem_of_getElem? ha
      obtain ⟨a1, a2⟩ := a
      have ev : v = kV a1 := by
        cases a1 with
        | inl i => exact rep_int rv
        | inr z => exact rep_str rv
      subst ev
      have rx7 := ((hx5.ex e6).off hL).ex ex
      have ry7 := ((hy5.ex e6).off hL).ex ex
      walk_at "sx"
      refine sx_dget ?_
      walk_at "sx"
      refine dget_R rx7 hnd hm fun u1 ru1 => ?_
      walk_at "sx"
      refine sx_dget ?_
      walk_at "sx"
      refine dget_R ry7 hnd hm fun u2 ru2 => ?_
      walk_at "sx"
      exact hr a2 (.inr ⟨_, hm, rfl⟩) _ _ u1 u2 H7 _ wf hi ru1 ru2 fun H8 e8 i8 => qe _ H8 (.bl true) i8 e8
    · intro y2 H7 rp e7 i7
      walk_at "sx"
      refine all_M (fun _ => true) rp ?_
      rw [show (l.all fun _ => true) = true from List.all_eq_true.mpr fun _ _ => rfl]
      exact q H7 ((e2.trans e25).trans (e6.trans e7)) i7
theorem ok_same (B : Bl mg) (F : At K mg "_law_same" s__law_same ["_law_found", "_law_due"] []) : ∀ n, Df P w K mg base (n + 1) "_law_same" ["_law_found", "_law_due"] [] (spSame K n)
  | 0 => by
    refine F.df sc__law_same (fun vs H Q E h => ?_) (fun f cdv A outer s H vs Q E hr h => ⟨_, w__law_same (kk := 0) B (df_none F 0) hr, ?_⟩)
    · obtain ⟨M, I, x, y, d, _, _, rfl, _⟩ := h
      rfl
    · obtain ⟨M, I, x, y, d, hw, hI, rfl, hx, hy, hf, q⟩ := h
      exact same_body (n := 0) hw hI hx hy (.inl hf) q
  | n + 1 => by
    refine F.df sc__law_same (fun vs H Q E h => ?_) (fun f cdv A outer s H vs Q E hr h => ⟨_, w__law_same (kk := n + 1) B (ok_same B F n) hr, ?_⟩)
    · obtain ⟨M, I, x, y, d, _, _, rfl, _⟩ := h
      rfl
    · obtain ⟨M, I, x, y, d, hw, hI, rfl, hx, hy, hf, q⟩ := h
      refine same_body (n := n) hw hI hx hy ?_ q
      rcases hf with h | ⟨l, h1, h2, h3⟩ | ⟨l, h1, h2, h3, h4, h5⟩
      · exact .inl h
      · exact .inr (.inl ⟨l, h1, h2, fun e he M I x y H Q hw hI hx hy q => ⟨M, I, x, y, e, hw, hI, rfl, hx, hy, h3 e he, q⟩⟩)
      · refine .inr (.inr ⟨l, h1, h2, h3, fun e he M I x y H Q hw hI hx hy q => ⟨M, I, x, y, e, hw, hI, rfl, hx, hy, ?_, q⟩⟩)
        rcases he with rfl | ⟨kv, hkv, rfl⟩
        · obtain ⟨m, rfl⟩ : ∃ m, n = m + 1 := ⟨n - 1, by omega⟩
          refine .inr (.inl ⟨_, .inl rfl, by simpa using h2, fun e he => ?_⟩)
          obtain ⟨kv, _, rfl⟩ := List.mem_map.mp he
          exact fit_sc (sc_key _) _
        · exact h5 kv hkv
end


/-! ### drawn things -/
theorem str_k {k : Nat} {Q : VK} {H : Hp} (h : k < 10) (q : Q (.str (T [48 + k])) H) : rStr1 [.int (k : Nat)] H Q := by
  have e : ∀ k : Fin 10, Str.ofString (toString ((k.val : Nat) : Int)) = T [48 + k.val] := by decide +kernel
  have l : ∀ k : Fin 10, ((k.val : Nat) : Int).natAbs.log2 < 1920 := by decide +kernel
  refine ⟨_, rfl, l ⟨k, h⟩, ?_⟩
  have e2 := e ⟨k, h⟩
  show Q (.str (Str.ofString (toString ((k : Nat) : Int)))) H
  rw [e2]
  exact q
theorem nodup_len {α : Type} [DecidableEq α] : ∀ {l m : List α}, l.Nodup → (∀ a ∈ l, a ∈ m) → l.length ≤ m.length
  | [], _, _, _ => Nat.zero_le _
  | a :: l, m, hn, h => by
    have ha := h a List.mem_cons_self
    have h2 : ∀ b ∈ l, b ∈ m.erase a := fun b hb => by
      have nb : b ≠ a := fun e => (List.nodup_cons.mp hn).1 (e ▸ hb)
      exact (List.mem_erase_of_ne nb).mpr (h b (List.mem_cons_of_mem _ hb))
    have ih := nodup_len (List.nodup_cons.mp hn).2 h2
    have := List.length_erase_of_mem ha
    have := List.length_pos_of_mem ha
    simp only [List.length_cons]
    omega
abbrev abc2 : List Nat := [109, 110, 98, 118, 99, 120, 121, 108, 107, 106, 104, 103, 102, 100, 115, 97, 112, 111, 105, 117, 122, 116, 114, 101, 119, 113]
theorem free_letter {ls : List (List Nat)} (h : ls.length < 26) : ∃ c cs, abc2.filter (fun c => !decide ([c] ∈ ls)) = c :: cs := by
  cases e : abc2.filter (fun c => !decide ([c] ∈ ls)) with
  | cons c cs => exact ⟨c, cs, rfl⟩
  | nil =>
    exfalso
    have hall : ∀ a ∈ abc2.map (fun c => [c]), a ∈ ls := by
      intro a ha
      obtain ⟨c, hc, rfl⟩ := List.mem_map.mp ha
      have := List.filter_eq_nil_iff.mp e c hc
      simpa using this
    have hn : (abc2.map (fun c => [c])).Nodup := by decide
    have := nodup_len hn hall
    simp at this
    omega
section
variable {P : Program} {w : World} {K : PySem.W.Frag} {mg : Str → Option Value} {base : Heap}
/-- a list of texts that is read as it stands -/
def LstS (K : PySem.W.Frag) (I : Hp → Prop) (x : V) (ls : List (List Nat)) : Prop := ∃ p, x = .ref p ∧ ∀ H, I H → H p = some (.lst (ls.map fun l => V.str (T l)))
theorem LstS.inn {I : Hp → Prop} {x : V} {ls : List (List Nat)} {l : List Nat} {H : Hp} {Q : VK} (h : LstS K I x ls) (hI : I H) (q : Q (.bl (decide (l ∈ ls))) H) : rInU K (.str (T l)) x H Q := by
  obtain ⟨p, rfl, hp⟩ := h
  exact .inr (.inl ⟨p, _, rfl, .inl (SqL.of (hp H hI)), rfl, by simp [List.all_map, flatV], by rw [inV_T]; exact q⟩)
theorem LstS.nin {I : Hp → Prop} {x : V} {ls : List (List Nat)} {l : List Nat} {H : Hp} {Q : VK} (h : LstS K I x ls) (hI : I H) (q : Q (.bl (!decide (l ∈ ls))) H) : rNiU K (.str (T l)) x H Q := by
  obtain ⟨p, rfl, hp⟩ := h
  exact .inr (.inl ⟨p, _, rfl, .inl (SqL.of (hp H hI)), rfl, by simp [List.all_map, flatV], by rw [inV_T]; exact q⟩)
/-- a title: one to six small letters -/
def TOk (t : List Nat) : Prop := 1 ≤ t.length ∧ t.length ≤ 6 ∧ ∀ c ∈ t, 97 ≤ c ∧ c ≤ 122
instance (t : List Nat) : Decidable (TOk t) := by unfold TOk; infer_instance
theorem TOk.lt {t : List Nat} (h : TOk t) : ∀ c ∈ t, c < 128 := fun c hc => by have := h.2.2 c hc; omega
def spTitle (K : PySem.W.Frag) : Sp := fun vs H Q _ => ∃ (M : Addr → Prop) (I : Hp → Prop) (b : Addr) (x : V) (ls : List (List Nat)), Wf M I ∧ I H ∧ HasBag M I b ∧ vs = [.ref b, x] ∧ LstS K I x ls ∧ ls.length < 26 ∧ ∀ t H', TOk t → Ex M H H' → I H' → Q (.str (T t)) H'
theorem ok_title (B : Bl mg) (G1 : Df P w K mg base 1 "_law_draw" ["_law_bag_here", "_law_sides"] [] (spDraw K)) (G2 : Df P w K mg base 2 "_law_of" ["_law_bag_here", "_law_things"] [] (spOf K))
    (F : At K mg "_law_title" s__law_title ["_law_bag_here", "_law_taken"] []) : Df P w K mg base 3 "_law_title" ["_law_bag_here", "_law_taken"] [] (spTitle K) := by
  refine F.df sc__law_title (fun vs H Q E h => ?_) (fun f cdv A outer s H vs Q E hr h => ⟨_, w__law_title B G1 G2 hr, ?_⟩)
  · obtain ⟨M, I, b, x, ls, _, _, _, rfl, _⟩ := h
    rfl
  · obtain ⟨M, I, b, x, ls, hw, hI, hB, rfl, hx, hl, q⟩ := h
    unfold t__law_title
    -- behind the first half
    have rest : ∀ (t : List Nat) (s3 s4 : Option V) (H1 : Hp), TOk t → Ex M H H1 → I H1 → (tSeq (tIfS (tTest (tOp (rInU K) (tVar 2) (tVar 1))) (tAsg (tOp (rIx K) (tLc (iSrc K (tC (.str (T abc2)))) (gName 4) (tTest (tOp (rNiU K) (tVar 4) (tVar 1))) (tVar 4) [4]) (tC (.int 0))) (gName 2)) tNext)
        (tRet (tVar 2))) { nx := fun _ H' => Q .non H', rt := Q } [some (.ref b), some x, some (.str (T t)), s3, s4] H1 := by
      intro t s3 s4 H1 ht e1 i1
      walk_at "sx"
      refine hx.inn i1 ?_
      walk_at "sx"
      refine ifB (fun h => ?_) (fun h => ?_)
      · walk_at "sx"
        refine lc_srcF (as := abc2) (enc := H03.e1) (fun c => !decide ([c] ∈ ls)) H03.e1 hw i1 (K := K) (.str _) rfl (szOk (by decide)) (fun _ => rfl) ?_ ?_ ?_
        · intro L acc k a v H2 hL ha rv wf hi ex Qt qt
          cases rep_str rv
          walk_at "sx"
          exact hx.nin hi.1 (by
            refine ex_b ?_
            exact qt H2 hi (Ex.refl _))
        · intro L acc k a v H2 hL ha _ rv wf hi ex Qe qe
          cases rep_str rv
          walk_at "sx"
          exact qe _ _ (.str _) hi (Ex.refl _)
        · intro y H2 rp e2 i2
          obtain ⟨c, cs, ec⟩ := free_letter hl
          rw [ec] at rp
          walk_at "sx"
          refine ix_R (n := 0) rp (.inl rfl) rfl fun v rv => ?_
          cases rep_str rv
          walk_at "sx"
          exact q [c] H2 (by have hc : c ∈ abc2 := (List.mem_filter.mp (show c ∈ abc2.filter _ by rw [ec]; exact List.mem_cons_self)).1; have key : ∀ c ∈ abc2, TOk [c] := by decide
                             exact key c hc) (e1.trans e2) i2
      · walk_at "sx"
        exact q t H1 ht e1 i1
    walk_at "sx"
    refine ⟨M, I, b, 8, hw, hI, hB, rfl, by decide, by decide, fun k H1 hk e1 i1 => ?_⟩
    walk_at "sx"
    refine ifB (fun h => ?_) (fun h => ?_)
    · walk_at "sx"
      rename_i y H2 e2 i2 r2
      refine ⟨M, I, b, y, _, _, hw, i2, hB, rfl, r2, rfl, by decide, by decide, fun v e H3 he rv e3 i3 => ?_⟩
      obtain ⟨t, rfl, ht⟩ : ∃ t, e = .str (T t) ∧ TOk t := by
        simp only [List.mem_cons, List.not_mem_nil, or_false] at he
        rcases he with rfl | rfl | rfl | rfl | rfl | rfl | rfl | rfl | rfl <;> exact ⟨_, rfl, by decide⟩
      cases rep_str rv
      refine gs_name ?_
      exact rest t none none H3 ht (by walk_at "ex") i3
    · walk_at "sx"
      refine ⟨M, I, b, 6, hw, i1, hB, rfl, by decide, by decide, fun k2 H2 hk2 e2 i2 => ?_⟩
      walk_at "sx"
      refine ⟨_, rfl, by omega, by omega, ?_⟩
      have ek : (1 + (k2 : Int)).toNat = k2 + 1 := by omega
      rw [ek]
      refine lc_rng (K := K) hw i2 (szOk (by omega)) (fun _ => rfl) (fun _ => true) (fun _ d => ∃ c, d = .str (T [c]) ∧ 97 ≤ c ∧ c ≤ 122) ?_ ?_ ?_
      · intro L acc k H3 hL nL hk wf hi ex Qt qt
        walk_at "sx"
        exact qt _ hi (Ex.refl _)
      · intro L acc k H3 hL nL hk _ wf hi ex Qe qe
        walk_at "sx"
        refine ⟨_, _, b, _, _, _, wf, hi, hB.add nL, rfl, .str _, rfl, by decide, by decide, fun v e H4 he rv e4 i4 => ?_⟩
        obtain ⟨c, hc, rfl⟩ := List.mem_map.mp he
        have hc2 : 97 ≤ c ∧ c ≤ 122 := by
          have key : ∀ c ∈ ([113, 119, 101, 114, 116, 122, 117, 105, 111, 112, 97, 115, 100, 102, 103, 104, 106, 107, 108, 121, 120, 99, 118, 98, 110, 109] : List Nat), 97 ≤ c ∧ c ≤ 122 := by decide
          exact key c hc
        exact qe v _ H4 ⟨c, rfl, hc2⟩ rv i4 e4
      · intro y ds H3 a2 rp e3 i3
        walk_at "sx"
        rw [filter_tt] at a2
        obtain ⟨cs, rfl, a3⟩ := a2.ex (g := H03.e1) (Q := fun _ c => 97 ≤ c ∧ c ≤ 122) fun a d ⟨c, e, z⟩ => ⟨c, e, z⟩
        have hcl := a3.length
        have hcs : TOk cs := by
          refine ⟨by simp at hcl; omega, by simp at hcl; omega, ?_⟩
          clear rp a2 hcl
          have key : ∀ {as cs : List Nat}, A2 (fun _ c => 97 ≤ c ∧ c ≤ 122) as cs → ∀ c ∈ cs, 97 ≤ c ∧ c ≤ 122 := by
            intro as cs h
            induction h with
            | nil => intro c hc; cases hc
            | cons x y ih =>
              intro c hc
              rcases List.mem_cons.mp hc with rfl | hc
              · exact x
              · exact ih c hc
          exact key a3
        refine join_1 id (by simpa using rp) ?_ ?_
        · have := a2.length
          simp at this
          omega
        refine gs_name ?_
        exact rest _ none none H3 (by rw [List.map_id]; exact hcs) (by walk_at "ex") i3
end


def sgs (m : Nat) : List Nat := ([46, 48, 49, 50, 51] : List Nat).take (m + 1)
theorem isRow_iff {fr : List (List Nat × Nat)} {l : List Nat} : isRow fr l = true ↔ l.length = fr.length ∧ ∀ (k c : Nat) (p : List Nat × Nat), l[k]? = some c → fr[k]? = some p → c ∈ sgs p.2 := by
  unfold isRow sgs
  rw [Bool.and_eq_true, decide_eq_true_eq, List.all_eq_true]
  constructor
  · rintro ⟨h1, h2⟩
    refine ⟨h1, fun k c p hc hp => ?_⟩
    have hz : (l.zip fr)[k]? = some (c, p) := List.getElem?_zip_eq_some.mpr ⟨hc, hp⟩
    exact of_decide_eq_true (h2 _ (List.mem_of_getElem? hz))
  · rintro ⟨h1, h2⟩
    refine ⟨h1, fun x hx => ?_⟩
    obtain ⟨k, hk⟩ := List.getElem?_of_mem hx
    obtain ⟨a, b⟩ := x
    obtain ⟨ha, hb⟩ := List.getElem?_zip_eq_some.mp hk
    exact decide_eq_true (h2 k a b ha hb)
theorem sgs_dot (m : Nat) : 46 ∈ sgs m := by simp [sgs]
theorem sgs_k {m k : Nat} (h : k < m) (hm : m ≤ 4) : 48 + k ∈ sgs m := by
  have e : ∀ m : Fin 5, ∀ k : Fin 5, k.val < m.val → 48 + k.val ∈ sgs m.val := by decide
  exact e ⟨m, by omega⟩ ⟨k, by omega⟩ h
theorem sgs_lt {m c : Nat} (h : c ∈ sgs m) : c < 128 := by
  have := List.mem_of_mem_take h
  simp at this
  omega
def setAt (l : List Nat) (k c : Nat) : List Nat := l.take k ++ [c] ++ l.drop (k + 1)
theorem setAt_set {l : List Nat} {k c : Nat} (h : k < l.length) : setAt l k c = l.set k c := by
  unfold setAt
  rw [List.set_eq_take_append_cons_drop, if_pos h]
  simp
theorem setAt_row {fr : List (List Nat × Nat)} {l : List Nat} {k c : Nat} {p : List Nat × Nat} (h : isRow fr l = true) (hp : fr[k]? = some p) (hc : c ∈ sgs p.2) : isRow fr (setAt l k c) = true := by
  obtain ⟨h1, h2⟩ := isRow_iff.mp h
  have hk := (List.getElem?_eq_some_iff.mp hp).1
  rw [setAt_set (by omega)]
  refine isRow_iff.mpr ⟨by simp [h1], fun j d q hd hq => ?_⟩
  rw [List.getElem?_set] at hd
  by_cases e : k = j
  · subst e
    rw [if_pos rfl, if_pos (by omega)] at hd
    cases hd
    rw [hp] at hq
    cases hq
    exact hc
  · rw [if_neg e] at hd
    exact h2 j d q hd hq
/-- a frame: between 1 and 4 values a cell -/
def FrOk (fr : List (List Nat × Nat)) : Prop := ∀ p ∈ fr, 1 ≤ p.2 ∧ p.2 ≤ 4 ∧ TOk p.1
section
variable {P : Program} {w : World} {K : PySem.W.Frag} {mg : Str → Option Value} {base : Heap}
theorem atI_last {xs : List V} {y : V} : atI (xs ++ [y]) (-1) = some y := by
  unfold atI ixN
  rw [if_neg (by decide), if_pos (by simp; omega)]
  have e : ((-1 : Int) + ((xs ++ [y]).length : Nat)).toNat = xs.length := by simp; omega
  show (xs ++ [y])[((-1 : Int) + ((xs ++ [y]).length : Nat)).toNat]? = some y
  rw [e]
  simp
def spFrame (K : PySem.W.Frag) : Sp := fun vs H Q _ => ∃ (M : Addr → Prop) (I : Hp → Prop) (b : Addr) (n m : Nat), Wf M I ∧ I H ∧ HasBag M I b ∧ vs = [.ref b, .int n, .int m] ∧ n ≤ 20 ∧ 1 ≤ m ∧ m ≤ 4 ∧ ∀ y fr H', fr.length = n → FrOk fr → Rep K M H' y (.lst (fr.map eC)) → Ex M H H' → I H' → Q y H'
theorem ok_frame (B : Bl mg) (G1 : Df P w K mg base 1 "_law_draw" ["_law_bag_here", "_law_sides"] [] (spDraw K)) (G2 : Df P w K mg base 3 "_law_title" ["_law_bag_here", "_law_taken"] [] (spTitle K))
    (F : At K mg "_law_frame" s__law_frame ["_law_bag_here", "_law_size", "_law_widest"] []) : Df P w K mg base 4 "_law_frame" ["_law_bag_here", "_law_size", "_law_widest"] [] (spFrame K) := by
  refine F.df sc__law_frame (fun vs H Q E h => ?_) (fun f cdv A outer s H vs Q E hr h => ⟨_, w__law_frame B G1 G2 hr, ?_⟩)
  · obtain ⟨M, I, b, n, m, _, _, _, rfl, _⟩ := h
    rfl
  · obtain ⟨M, I, b, n, m, hw, hI, hB, rfl, hn, hm1, hm2, q⟩ := h
    unfold t__law_frame
    walk_at "sx"
    refine lst_mut hw hI (by decide) fun p H1 hp np e1 w1 i1 => ?_
    walk_at "sx"
    refine lst_mut w1 i1 (by decide) fun p2 H2 hp2 np2 e2 w2 i2 => ?_
    walk_at "sx"
    refine ⟨_, rfl, by omega, by omega, ?_⟩
    rw [Int.toNat_natCast]
    have npp : p2 ≠ p := fun e => np2 (e ▸ .inr rfl)
    refine for_rng (fun k σ H3 => ∃ fs ts fr v, σ = [some (.ref b), some (.int (n : Nat)), some (.int (m : Nat)), some (.ref p), some (.ref p2), v] ∧ fr.length = k ∧ ts.length = k ∧ FrOk fr ∧
        Wf (Mq (Mq M p) p2) (Iq (Iq I p (.lst fs)) p2 (.lst (ts.map fun l => V.str (T l)))) ∧ Iq (Iq I p (.lst fs)) p2 (.lst (ts.map fun l => V.str (T l))) H3 ∧ Ex (Mq (Mq M p) p2) H2 H3 ∧ Reps K (Mq (Mq M p) p2) H3 fs (fr.map eC))
      ⟨[], [], [], _, rfl, rfl, rfl, (fun _ h => nomatch h), w2, i2, Ex.refl _, .nil⟩ ?_ ?_
    · rintro k σ H3 hk ⟨fs, ts, fr, v, rfl, hf, ht, ok, w3, i3, e3, rs⟩
      walk_at "sx"
      refine ⟨tyv_l i3.2, ?_⟩
      walk_at "sx"
      have hB3 := (hB.add (o := .lst fs) np).add (o := .lst (ts.map fun l => V.str (T l))) np2
      refine ⟨_, _, b, _, ts, w3, i3, hB3, rfl, ⟨p2, rfl, fun H h => h.2⟩, by omega, fun t H4 ht4 e4 i4 => ?_⟩
      walk_at "sx"
      refine app_mut (hw.add p _) np2 i4 (by simp; omega) fun H5 e5 w5 i5 => ?_
      have et : ts.map (fun l => V.str (T l)) ++ [V.str (T t)] = (ts ++ [t]).map fun l => V.str (T l) := by simp
      rw [et] at w5 i5
      walk_at "sx"
      refine ⟨tyv_l i5.1.2, ?_⟩
      walk_at "sx"
      refine ix_raw (v := .str (T t)) i5.2 (by rw [← et]; exact atI_last) ?_
      walk_at "sx"
      have hB5 := (hB.add (o := .lst fs) np).add (o := .lst ((ts ++ [t]).map fun l => V.str (T l))) np2
      refine ⟨_, _, b, _, w5, i5, hB5, rfl, by omega, by omega, fun d H6 hd e6 i6 => ?_⟩
      have ed : (1 : Int) + (d : Nat) = ((d + 1 : Nat) : Int) := by omega
      walk_at "sx"
      rename_i v7 H7 e7 i7 r7
      rw [ed] at r7
      -- frame.append: the list at p
      have ix := i7.1
      have fl : fs.length ≤ 20 := by have := rs.length; simp at this; omega
      refine ⟨p, fs, v7, rfl, rfl, i7.1.2, Nat.lt_of_le_of_lt fl (by decide), ?_⟩
      have i8 : Iq (Iq I p (.lst (fs ++ [v7]))) p2 (.lst ((ts ++ [t]).map fun l => V.str (T l))) (upd H7 p (.lst (fs ++ [v7]))) := by
        obtain ⟨u1, u2⟩ := hw.put (o' := .lst (fs ++ [v7])) np i7.1
        exact ⟨u1, by rw [upd_ne npp]; exact i7.2⟩
      have e8 : Ex (Mq (Mq M p) p2) H7 (upd H7 p (.lst (fs ++ [v7]))) := fun a o n h => by
        rw [upd_ne fun z => n (.inl (.inr z))]; exact h
      generalize upd H7 p (.lst (fs ++ [v7])) = H8 at i8 e8
      refine ⟨fs ++ [v7], ts ++ [t], fr ++ [(t, d + 1)], _, rfl, by simp [hf], by simp [ht], fun x hx => ?_, (hw.add p _).add p2 _, i8, ((((e3.trans e4).trans e5).trans e6).trans e7).trans e8, ?_⟩
      · rcases List.mem_append.mp hx with z | z
        · exact ok x z
        · rw [List.mem_singleton.mp z]; exact ⟨by show 1 ≤ d + 1; omega, by show d + 1 ≤ 4; omega, ht4⟩
      · rw [List.map_append]
        exact (((((rs.ex e4).ex e5).ex e6).ex e7).append (.cons r7 .nil)).ex e8
    · rintro σ H3 ⟨fs, ts, fr, v, rfl, hf, ht, ok, w3, i3, e3, rs⟩
      walk_at "sx"
      refine q _ fr H3 hf ok (.lst i3.1.2 np (rs.le fun _ m => .inl (.inl m))) ?_ i3.1.1
      exact (e1.trans ((e2.trans e3).shut hp2)).shut hp
def spRow (K : PySem.W.Frag) : Sp := fun vs H Q _ => ∃ (M : Addr → Prop) (I : Hp → Prop) (b : Addr) (x : V) (fr : List (List Nat × Nat)) (m : Int), Wf M I ∧ I H ∧ HasBag M I b ∧ vs = [.ref b, x, .int m] ∧ Rep K M H x (.lst (fr.map eC)) ∧ FrOk fr ∧ fr.length ≤ 100 ∧ ∀ l H', isRow fr l = true → Ex M H H' → I H' → Q (.str (T l)) H'
theorem ok_row (B : Bl mg) (G : Df P w K mg base 1 "_law_draw" ["_law_bag_here", "_law_sides"] [] (spDraw K)) (F : At K mg "_law_row" s__law_row ["_law_bag_here", "_law_frame_here", "_law_thin"] [.int 2]) : Df P w K mg base 2 "_law_row" ["_law_bag_here", "_law_frame_here", "_law_thin"] [.int 2] (spRow K) := by
  refine F.df sc__law_row (fun vs H Q E h => ?_) (fun f cdv A outer s H vs Q E hr h => ⟨_, w__law_row B G hr, ?_⟩)
  · obtain ⟨M, I, b, x, fr, m, _, _, _, rfl, _⟩ := h
    rfl
  · obtain ⟨M, I, b, x, fr, m, hw, hI, hB, rfl, hx, hfr, hl, q⟩ := h
    unfold t__law_row
    walk_at "sx"
    refine lc_src (as := fr) (enc := eC) hw hI hx rfl (szOk (by omega)) (fun _ => rfl) (fun _ => true) (fun p d => ∃ c, d = .str (T [c]) ∧ c ∈ sgs p.2) ?_ ?_ ?_
    · intro L acc k a v H3 hL nL ha rv wf hi ex Qt qt
      walk_at "sx"
      exact qt _ hi (Ex.refl _)
    · intro L acc k a v H3 hL nL ha _ rv wf hi ex Qe qe
      have oka := hfr a (List.mem_of_getElem? ha)
      walk_at "sx"
      refine ⟨_, _, b, _, wf, hi, hB.add nL, rfl, by decide, by decide, fun k2 H4 hk2 e4 i4 => ?_⟩
      walk_at "sx"
      refine ifB (fun h => ?_) (fun h => ?_)
      · walk_at "sx"
        exact qe _ _ H4 ⟨46, rfl, sgs_dot _⟩ (.str _) i4 e4
      · walk_at "sx"
        refine ix_R (n := 1) (rv.ex e4) (.inr rfl) rfl fun v5 r5 => ?_
        cases rep_int r5
        walk_at "sx"
        refine ⟨_, _, b, _, wf, i4, hB.add nL, rfl, by omega, by omega, fun k3 H5 hk3 e5 i5 => ?_⟩
        walk_at "sx"
        refine str_k (by omega) ?_
        exact qe _ _ H5 ⟨48 + k3, rfl, sgs_k (by omega) oka.2.1⟩ (.str _) i5 (e4.trans e5)
    · intro y ds H3 a2 rp e3 i3
      walk_at "sx"
      rw [filter_tt] at a2
      obtain ⟨cs, rfl, a3⟩ := a2.ex (g := H03.e1) (Q := fun p c => c ∈ sgs p.2) fun a d ⟨c, e, z⟩ => ⟨c, e, z⟩
      have hcl := a3.length
      refine join_1 id (by simpa using rp) (by omega) ?_
      rw [List.map_id]
      refine q cs H3 (isRow_iff.mpr ⟨hcl, fun k c p hc hp => ?_⟩) e3 i3
      clear rp a2 q
      have : ∀ {as : List (List Nat × Nat)} {bs : List Nat} {k c : Nat} {p : List Nat × Nat}, A2 (fun p c => c ∈ sgs p.2) as bs → bs[k]? = some c → as[k]? = some p → c ∈ sgs p.2 := by
        intro as bs k c p h
        induction h generalizing k with
        | nil => intro h; simp at h
        | cons x y ih =>
          cases k with
          | zero => intro h1 h2; simp at h1 h2; rw [← h1, ← h2]; exact x
          | succ k => intro h1 h2; exact ih (by simpa using h1) (by simpa using h2)
      exact this a3 hc hp
end


abbrev kTake : List Nat := [116, 97, 107, 101]


/-! ### the law's own plain functions -/
def dedup : List (List Nat) → List (List Nat) → List (List Nat)
  | acc, [] => acc
  | acc, a :: l => dedup (if a ∈ acc then acc else acc ++ [a]) l
theorem dedup_mem {a : List Nat} : ∀ {l acc : List (List Nat)}, a ∈ dedup acc l ↔ a ∈ acc ∨ a ∈ l
  | [], acc => by simp [dedup]
  | b :: l, acc => by
    unfold dedup
    rw [dedup_mem (l := l)]
    by_cases h : b ∈ acc
    · rw [if_pos h]
      constructor
      · rintro (z | z)
        · exact .inl z
        · exact .inr (List.mem_cons_of_mem _ z)
      · rintro (z | z)
        · exact .inl z
        · rcases List.mem_cons.mp z with rfl | z
          · exact .inl h
          · exact .inr z
    · rw [if_neg h]
      simp only [List.mem_append, List.mem_cons, List.not_mem_nil, or_false]
      constructor
      · rintro ((z | z) | z)
        · exact .inl z
        · exact .inr (.inl z)
        · exact .inr (.inr z)
      · rintro (z | z | z)
        · exact .inl (.inl z)
        · exact .inl (.inr z)
        · exact .inr z
theorem dedup_snoc {a : List Nat} : ∀ {l acc : List (List Nat)}, dedup acc (l ++ [a]) = if a ∈ dedup acc l then dedup acc l else dedup acc l ++ [a]
  | [], acc => rfl
  | b :: l, acc => by
    simp only [List.cons_append]
    unfold dedup
    exact dedup_snoc
theorem dedup_len : ∀ {l acc : List (List Nat)}, (dedup acc l).length ≤ acc.length + l.length
  | [], acc => by simp [dedup]
  | b :: l, acc => by
    unfold dedup
    refine Nat.le_trans dedup_len ?_
    split <;> simp <;> omega
def fresh (s t : List Nat) : List Nat := (List.range s.length).filter fun k => !decide (s[k]? = some 46) && decide (t[k]? = some 46)
def fits (s r t : List Nat) : Bool := !(fresh s t).isEmpty && ((fresh s t).filter fun k => !decide (r[k]? = s[k]?)).isEmpty
def ready (S : List (List Nat)) (r t : List Nat) : List (List Nat) := S.filter fun s => fits s r t
def lfStep (S : List (List Nat)) (r t : List Nat) : List Nat := match (ready S r t).getLast? with
  | none => t
  | some s => uni t (lot s)
def lfN (S : List (List Nat)) (r : List Nat) : Nat → List Nat
  | 0 => List.replicate r.length 46
  | n + 1 => lfStep S r (lfN S r n)
theorem lfStep_len {S : List (List Nat)} {r t : List Nat} (hS : ∀ s ∈ S, s.length = r.length) (h : t.length = r.length) : (lfStep S r t).length = r.length := by
  unfold lfStep
  split
  · exact h
  · rename_i s hs
    have := hS s (List.mem_filter.mp (List.mem_of_getLast? hs)).1
    rw [uni_len (by rw [lot_len]; omega)]
    exact h
theorem lfN_len {S : List (List Nat)} {r : List Nat} (hS : ∀ s ∈ S, s.length = r.length) : ∀ n, (lfN S r n).length = r.length
  | 0 => by simp [lfN]
  | n + 1 => lfStep_len hS (lfN_len hS n)
def takeP : D → Bool
  | .tup [.str z, _] => decide (z = T kTake)
  | _ => false
def takeF : D → D
  | .tup [_, e] => e
  | _ => .non
def IsLn (d : D) : Prop := ∃ k es, d = .tup (eS k :: es) ∧ es.length ≤ 5
section
variable {P : Program} {w : World} {K : PySem.W.Frag} {mg : Str → Option Value} {base : Heap}
/-- a list that is handed back new -/
def spOnce (K : PySem.W.Frag) : Sp := fun vs H Q _ => ∃ (M : Addr → Prop) (I : Hp → Prop) (x : V) (ls : List (List Nat)), Wf M I ∧ I H ∧ vs = [x] ∧ Rep K M H x (.lst (ls.map eS)) ∧ ls.length ≤ 1000 ∧ ∀ p H', H p = none → ¬ M p → H' p = some (.lst ((dedup [] ls).map fun l => V.str (T l))) → Ex M H H' → I H' → Q (.ref p) H'
theorem ok_once (B : Bl mg) (F : At K mg "_law_once" s__law_once ["_law_things"] []) : Df P w K mg base 1 "_law_once" ["_law_things"] [] (spOnce K) := by
  refine F.df sc__law_once (fun vs H Q E h => ?_) (fun f cdv A outer s H vs Q E hr h => ⟨_, w__law_once B hr, ?_⟩)
  · obtain ⟨M, I, x, ls, _, _, rfl, _⟩ := h
    rfl
  · obtain ⟨M, I, x, ls, hw, hI, rfl, hx, hl, q⟩ := h
    unfold t__law_once
    walk_at "sx"
    refine lst_mut hw hI (by decide) fun p H1 hp np e1 w1 i1 => ?_
    walk_at "sx"
    refine for_src (as := ls) (enc := eS) ((hx.off hp).ex e1) rfl (fun k σ H2 => ∃ v, σ = [some x, some (.ref p), v] ∧ Ex (Mq M p) H1 H2 ∧ Iq I p (.lst ((dedup [] (ls.take k)).map fun l => V.str (T l))) H2)
      ⟨_, rfl, Ex.refl _, i1⟩ (fun k σ H h => by obtain ⟨_, _, h, _⟩ := h; exact h) ?_ ?_
    · rintro k a v σ H2 ha ⟨v0, rfl, e2, i2⟩ rv
      cases rep_str rv
      have es : dedup [] (ls.take (k + 1)) = if a ∈ dedup [] (ls.take k) then dedup [] (ls.take k) else dedup [] (ls.take k) ++ [a] := by rw [take_snoc ha, dedup_snoc]
      walk_at "sx"
      refine LstS.nin (K := K) (I := Iq I p (.lst ((dedup [] (ls.take k)).map fun l => V.str (T l)))) ⟨p, rfl, fun H h => h.2⟩ i2 ?_
      walk_at "sx"
      refine ifB (fun h => ?_) (fun h => ?_)
      · have h2 : ¬ a ∈ dedup [] (ls.take k) := by simpa using h
        walk_at "sx"
        refine ⟨tyv_l i2.2, ?_⟩
        walk_at "sx"
        have dl : (dedup [] (ls.take k)).length ≤ 1000 := by
          refine Nat.le_trans dedup_len ?_
          simp; omega
        refine app_mut hw np i2 (by simp; omega) fun H3 e3 w3 i3 => ?_
        refine ⟨_, rfl, e2.trans e3, ?_⟩
        rw [es, if_neg h2, List.map_append]
        exact i3
      · have h2 : a ∈ dedup [] (ls.take k) := by simpa using h
        walk_at "sx"
        refine ⟨_, rfl, e2, ?_⟩
        rw [es, if_pos h2]
        exact i2
    · rintro σ H2 ⟨v0, rfl, e2, i2⟩
      walk_at "sx"
      rw [List.take_length] at i2
      exact q p H2 hp np i2.2 ((e1.trans e2).shut hp) i2.1
def spSize (K : PySem.W.Frag) : Sp := fun vs H Q _ => ∃ (M : Addr → Prop) (I : Hp → Prop) (b : Addr), Wf M I ∧ I H ∧ HasBag M I b ∧ vs = [.ref b] ∧ ∀ (n : Nat) H', 1 ≤ n → n ≤ 6 → Ex M H H' → I H' → Q (.int n) H'
theorem ok_lot (B : Bl mg) (F : At K mg "_law_lot" s__law_lot ["_law_r"] []) : Df P w K mg base 1 "_law_lot" ["_law_r"] [] (spLot K) := by
  refine F.df sc__law_lot (fun vs H Q E h => ?_) (fun f cdv A outer s H vs Q E hr h => ⟨_, w__law_lot B hr, ?_⟩)
  · obtain ⟨M, I, l, _, _, rfl, _⟩ := h
    rfl
  · obtain ⟨M, I, l, hw, hI, rfl, hl, q⟩ := h
    unfold t__law_lot
    walk_at "sx"
    refine lc_srcM (as := l) (enc := H03.e1) (fun c => .str (T [if c = 46 then 46 else 43])) hw hI (by walk_at "rep") rfl (by walk_at "sz") (fun _ => rfl) ?_ ?_
    · intro L acc k a v H hL ha rv wf hi ex Qe q
      cases rep_str rv
      walk_at "sx"
      refine ifB (fun h => ?_) (fun h => ?_) <;> walk_at "sx"
      · exact q _ _ (by simp at h; simp [h]; exact .str _) hi (Ex.refl _)
      · exact q _ _ (by simp at h; simp [h]; exact .str _) hi (Ex.refl _)
    · intro y H' rp ex hi
      walk_at "sx"
      exact join_1 _ rp (by omega) (q _ ex hi)
theorem ok_join (B : Bl mg) (F : At K mg "_law_join" s__law_join ["_law_x", "_law_y"] []) : Df P w K mg base 1 "_law_join" ["_law_x", "_law_y"] [] (spUni K) := by
  refine F.df sc__law_join (fun vs H Q E h => ?_) (fun f cdv A outer s H vs Q E hr h => ⟨_, w__law_join B hr, ?_⟩)
  · obtain ⟨M, I, l, m, _, _, rfl, _⟩ := h
    rfl
  · obtain ⟨M, I, l, m, hw, hI, rfl, hl, q⟩ := h
    unfold t__law_join
    walk_at "sx"
    refine lc_zipM (as := l) (bs := m) (enc := H03.e1) (enc2 := H03.e1) (fun p => .str (T [if 43 = p.1 ∨ 43 = p.2 then 43 else 46])) hw hI (.str _) rfl (.str _) rfl (by walk_at "sz") (fun _ _ => rfl) ?_ ?_
    · intro L acc k a b v u H hL ha hb rv rw wf hi ex Qe q
      cases rep_str rv
      cases rep_str rw
      walk_at "sx"
      refine ifB (fun h => ?_) (fun h => ?_) <;> walk_at "sx"
      · exact q _ _ (by simp at h; simp [h]; exact .str _) hi (Ex.refl _)
      · exact q _ _ (by simp at h; simp [h]; exact .str _) hi (Ex.refl _)
    · intro y H' rp ex hi
      walk_at "sx"
      exact join_1 _ rp (by simp; omega) (q _ ex hi)
def spLay (K : PySem.W.Frag) : Sp := fun vs H Q _ => ∃ M I l m, Wf M I ∧ I H ∧ vs = [.str (T l), .str (T m)] ∧ l.length ≤ 1000 ∧ ∀ H', Ex M H H' → I H' → Q (.str (T (lay l m))) H'
theorem ok_lay (B : Bl mg) (F : At K mg "_law_lay" s__law_lay ["_law_newer_row", "_law_older_row"] []) : Df P w K mg base 1 "_law_lay" ["_law_newer_row", "_law_older_row"] [] (spLay K) := by
  refine F.df sc__law_lay (fun vs H Q E h => ?_) (fun f cdv A outer s H vs Q E hr h => ⟨_, w__law_lay B hr, ?_⟩)
  · obtain ⟨M, I, l, m, _, _, rfl, _⟩ := h
    rfl
  · obtain ⟨M, I, l, m, hw, hI, rfl, hl, q⟩ := h
    unfold t__law_lay
    walk_at "sx"
    refine lc_zipM (as := l) (bs := m) (enc := H03.e1) (enc2 := H03.e1) (fun p => .str (T [if p.1 = 46 then p.2 else p.1])) hw hI (.str _) rfl (.str _) rfl (by walk_at "sz") (fun _ _ => rfl) ?_ ?_
    · intro L acc k a b v u H hL ha hb rv rw wf hi ex Qe q
      cases rep_str rv
      cases rep_str rw
      walk_at "sx"
      refine ifB (fun h => ?_) (fun h => ?_) <;> walk_at "sx"
      · exact q _ _ (by simp at h; simp [h]; exact .str _) hi (Ex.refl _)
      · exact q _ _ (by simp at h; simp [h]; exact .str _) hi (Ex.refl _)
    · intro y H' rp ex hi
      walk_at "sx"
      exact join_1 _ rp (by simp; omega) (q _ ex hi)
theorem rep46 (n : Nat) : (List.replicate n [46]).flatten = List.replicate n 46 := by
  induction n with
  | zero => rfl
  | succ n ih => simp [List.replicate_succ]
def spBlankF (K : PySem.W.Frag) : Sp := fun vs H Q _ => ∃ M x ds, vs = [x] ∧ Rep K M H x (.lst ds) ∧ ds.length ≤ 1000 ∧ Q (.str (T (List.replicate ds.length 46))) H
def spFresh (K : PySem.W.Frag) : Sp := fun vs H Q _ => ∃ M I s t, Wf M I ∧ I H ∧ vs = [.str (T s), .str (T t)] ∧ s.length ≤ 1000 ∧ t.length = s.length ∧ ∀ y H', Ex M H H' → I H' → Rep K M H' y (.lst ((fresh s t).map eI)) → Q y H'
theorem fresh_len (s t : List Nat) : (fresh s t).length ≤ s.length := by
  unfold fresh
  refine Nat.le_trans (List.length_filter_le _ _) (by simp)
theorem fresh_lt {s t : List Nat} {k : Nat} (h : k ∈ fresh s t) : k < s.length := by simpa using (List.mem_filter.mp h).1
def spFits (K : PySem.W.Frag) : Sp := fun vs H Q _ => ∃ M I s r t, Wf M I ∧ I H ∧ vs = [.str (T s), .str (T r), .str (T t)] ∧ s.length ≤ 1000 ∧ t.length = s.length ∧ r.length = s.length ∧ ∀ H', Ex M H H' → I H' → Q (.bl (fits s r t)) H'
end


/-! ### the stack of seeds -/
section
variable {P : Program} {w : World} {K : PySem.W.Frag} {mg : Str → Option Value} {base : Heap}
/-- row[:k] + str(a value drawn for cell k) + row[k + 1:] -/
theorem put_te {M : Addr → Prop} {I : Hp → Prop} {H : Hp} {σ : L2.St} {a c k : Nat} {b : Addr} {x : V} {fr : List (List Nat × Nat)} {l : List Nat} {p : List Nat × Nat} {Q : VK} (hw : Wf M I) (hI : I H) (hB : HasBag M I b) (hx : Rep K M H x (.lst (fr.map eC))) (hfr : FrOk fr) (hl : l.length ≤ 1000)
    (h0 : σ[0]? = some (some (.ref b))) (h1 : σ[1]? = some (some x)) (ha : σ[a]? = some (some (.str (T l)))) (hc : σ[c]? = some (some (.int (k : Nat)))) (hp : fr[k]? = some p)
    (q : ∀ d H', d < p.2 → Ex M H H' → I H' → Q (.str (T (setAt l k (48 + d)))) H') :
    tOp (rAddU K) (tOp (rAddU K) (tSl (rSlU K) (tVar a) tNoPart (tPart (tVar c))) (tCB (rStr1) (tCons (tCall (spDraw K) (([] : List V).drop 0) E0 (tCons (tVar 0) (tCons (tOp (rIx K) (tOp (rIx K) (tVar 1) (tVar c)) (tC (.int 1))) tNil))) tNil))) (tSl (rSlU K) (tVar a) (tPart (tOp (rAddU K) (tVar c) (tC (.int 1)))) tNoPart) σ H Q := by
  have okp := hfr p (List.mem_of_getElem? hp)
  refine sx_op (sx_op (sx_sl (sx_var ha (sx_nopart (sx_part (sx_var hc ⟨_, rfl, ?_⟩))))))
  refine sl_Tto (by walk_at "sz") ?_
  refine sx_cb (sx_cons (sx_call (sx_cons (sx_var h0 (sx_cons (sx_op (sx_op (sx_var h1 (sx_var hc ?_)))))))))
  refine ix_R (n := k) (e := eC p) hx (.inl rfl) (by simp [hp]) fun v1 r1 => ?_
  refine sx_c ?_
  refine ix_R (n := 1) r1 (.inr rfl) rfl fun v2 r2 => ?_
  cases rep_int r2
  refine sx_nil ?_
  refine ⟨M, I, b, _, hw, hI, hB, rfl, by omega, by omega, fun d H1 hd e1 i1 => ?_⟩
  refine sx_nil ?_
  refine str_k (by omega) ?_
  refine add_TT (by walk_at "sz") ?_
  refine sx_sl (sx_var ha (sx_part (sx_op (sx_var hc (sx_c (add_ii ⟨_, rfl, ?_⟩))))))
  refine sx_nopart ?_
  have e : (k : Int) + 1 = ((k + 1 : Nat) : Int) := by omega
  rw [e]
  refine sl_Tfrom (by walk_at "sz") ?_
  refine add_TT (by walk_at "sz") ?_
  exact q d H1 (by omega) e1 i1
def spStack (K : PySem.W.Frag) : Sp := fun vs H Q _ => ∃ (M : Addr → Prop) (I : Hp → Prop) (b : Addr) (x : V) (fr : List (List Nat × Nat)) (n : Nat), Wf M I ∧ I H ∧ HasBag M I b ∧ vs = [.ref b, x, .int n] ∧ Rep K M H x (.lst (fr.map eC)) ∧ FrOk fr ∧ 1 ≤ fr.length ∧ fr.length ≤ 20 ∧ 1 ≤ n ∧ n ≤ 20 ∧ ∀ y S H', S ≠ [] → S.length ≤ n → (∀ s ∈ S, isRow fr s = true) → Rep K M H' y (.lst (S.map eS)) → Ex M H H' → I H' → Q y H'
theorem flat_S {ls : List (List Nat)} (h : ∀ s ∈ ls, ∀ c ∈ s, c < 128) : ∀ d ∈ ls.map eS, Flat d := by
  intro d hd
  obtain ⟨s, hs, rfl⟩ := List.mem_map.mp hd
  exact ok_T (h s hs)
theorem row_lt {fr : List (List Nat × Nat)} {s : List Nat} (h : isRow fr s = true) : ∀ c ∈ s, c < 128 := by
  intro c hc
  obtain ⟨h1, h2⟩ := isRow_iff.mp h
  obtain ⟨k, hk, e⟩ := List.getElem_of_mem hc
  have hk2 : k < fr.length := by omega
  exact sgs_lt (h2 k c fr[k] (by simp [hk, e]) (by simp [hk2]))
theorem pop_mut {M : Addr → Prop} {I : Hp → Prop} {H : Hp} {p : Addr} {xs : List V} {y : V} {Q : VK} (hw : Wf M I) (hp : ¬ M p) (hI : Iq I p (.lst (xs ++ [y])) H) (q : ∀ H', Ex (Mq M p) H H' → Wf (Mq M p) (Iq I p (.lst xs)) → Iq I p (.lst xs) H' → Q y H') : rPop (.ref p) [] H Q := by
  refine ⟨p, _, y, rfl, rfl, hI.2, by simp, ?_⟩
  rw [List.dropLast_concat]
  obtain ⟨i, e⟩ := hw.put (o' := .lst xs) hp hI
  exact q _ e (hw.add _ _) i
theorem map_snocS {ls : List (List Nat)} {l : List Nat} : (ls.map fun l => V.str (T l)) ++ [V.str (T l)] = (ls ++ [l]).map fun l => V.str (T l) := by simp
theorem reps_S {M : Addr → Prop} {H : Hp} : ∀ (ls : List (List Nat)), Reps K M H (ls.map fun l => V.str (T l)) (ls.map eS)
  | [] => .nil
  | _ :: ls => .cons (.str _) (reps_S ls)
end


/-! ### rows, plain -/
def inB (x y : List Nat) : Bool := (x.zip y).all fun p => decide (p.1 = 46) || decide (p.2 = 43)
def agB (x y : List Nat) : Bool := (x.zip y).all fun p => decide (p.1 = 46) || decide (p.2 = 46) || decide (p.1 = p.2)
def cutF (l ks : List Nat) : List Nat := ks.map fun k => l.getD k 46
def laidF : List (List Nat) → List Nat
  | [] => []
  | r :: rs => rs.foldl (fun a r => lay r a) r
/-- a lot -/
def LotS (l : List Nat) : Prop := ∀ c ∈ l, c = 46 ∨ c = 43
theorem lotS_lot (l : List Nat) : LotS (lot l) := fun c hc => by
  obtain ⟨d, _, rfl⟩ := List.mem_map.mp hc
  split
  · exact .inl rfl
  · exact .inr rfl
theorem lotS_uni (l m : List Nat) : LotS (uni l m) := fun c hc => by
  obtain ⟨d, _, rfl⟩ := List.mem_map.mp hc
  split
  · exact .inr rfl
  · exact .inl rfl
theorem LotS.lt {l : List Nat} (h : LotS l) : ∀ c ∈ l, c < 128 := fun c hc => by
  rcases h c hc with rfl | rfl <;> decide
theorem all_zip {x y : List Nat} {f : Nat × Nat → Bool} (hl : x.length = y.length) : (x.zip y).all f = ((List.range x.length).filter fun k => !f (x.getD k 46, y.getD k 46)).isEmpty := by
  rw [Bool.eq_iff_iff, List.all_eq_true]
  constructor
  · intro h
    rw [List.isEmpty_iff, List.filter_eq_nil_iff]
    intro k hk
    have hk := List.mem_range.mp hk
    have h2 : k < y.length := by omega
    have := h (x[k], y[k]) (List.mem_iff_getElem?.mpr ⟨k, by rw [List.getElem?_zip_eq_some]; exact ⟨by simp [hk], by simp [h2]⟩⟩)
    simp [List.getD_eq_getElem?_getD, hk, h2, this]
  · intro h p hp
    rw [List.isEmpty_iff, List.filter_eq_nil_iff] at h
    obtain ⟨k, hk⟩ := List.mem_iff_getElem?.mp hp
    rw [List.getElem?_zip_eq_some] at hk
    have hk1 := (List.getElem?_eq_some_iff.mp hk.1).1
    have := h k (List.mem_range.mpr hk1)
    simpa [List.getD_eq_getElem?_getD, hk.1, hk.2] using this
section
variable {P : Program} {w : World} {K : PySem.W.Frag} {mg : Str → Option Value} {base : Heap}
theorem ok_over (B : Bl mg) (F : At K mg "over" s_over ["newer", "older"] []) : Df P w K mg base 1 "over" ["newer", "older"] [] (spLay K) := by
  refine F.df sc_over (fun vs H Q E h => ?_) (fun f cdv A outer s H vs Q E hr h => ⟨_, w_over B hr, ?_⟩)
  · obtain ⟨M, I, l, m, _, _, rfl, _⟩ := h
    rfl
  · obtain ⟨M, I, l, m, hw, hI, rfl, hl, q⟩ := h
    unfold t_over
    walk_at "sx"
    refine lc_zipM (as := l) (bs := m) (enc := H03.e1) (enc2 := H03.e1) (fun p => .str (T [if p.1 = 46 then p.2 else p.1])) hw hI (.str _) rfl (.str _) rfl (by walk_at "sz") (fun _ _ => rfl) ?_ ?_
    · intro L acc k a b v u H hL ha hb rv rw wf hi ex Qe q
      cases rep_str rv
      cases rep_str rw
      walk_at "sx"
      refine ifB (fun h => ?_) (fun h => ?_) <;> walk_at "sx"
      · exact q _ _ (by simp at h; simp [h]; exact .str _) hi (Ex.refl _)
      · exact q _ _ (by simp at h; simp [h]; exact .str _) hi (Ex.refl _)
    · intro y H' rp ex hi
      walk_at "sx"
      exact join_1 _ rp (by simp; omega) (q _ ex hi)
def spLaid (K : PySem.W.Frag) : Sp := fun vs H Q _ => ∃ (M : Addr → Prop) (I : Hp → Prop) (x : V) (d : D) (S : List (List Nat)), Wf M I ∧ I H ∧ vs = [x] ∧ Rep K M H x d ∧ (d = .lst (S.map eS) ∨ d = .tup (S.map eS)) ∧ S ≠ [] ∧ S.length ≤ 1000 ∧ (∀ s ∈ S, s.length ≤ 1000) ∧ ∀ H', Ex M H H' → I H' → Q (.str (T (laidF S))) H'
theorem sl_E1 {M : Addr → Prop} {I : Hp → Prop} {H : Hp} {x : V} {d : D} {ds : List D} {n : Nat} {Q : VK} (hw : Wf M I) (hI : I H) (hx : Rep K M H x d) (hd : d = .lst ds ∨ d = .tup ds) (q : ∀ v d2 H', Ex M H H' → I H' → Rep K M H' v d2 → (d2 = .lst (ds.drop n) ∨ d2 = .tup (ds.drop n)) → Q v H') : rSlU K x (some (n : Nat)) none H Q := by
  rcases hd with rfl | rfl
  · exact sl_Lfrom hw hI hx fun v H' e i r => q v _ H' e i r (.inl rfl)
  · cases hx with
    | tup h n1 r =>
      refine .inr (.inl ⟨_, _, rfl, SqT.of h, fun hc => ?_, fun hc p hp => ?_⟩)
      · have e : ds.drop n = ds := by
          have h1 := hc.1
          rw [HT.sIx_nat, r.length] at h1
          by_cases hn : n = 0
          · rw [hn]; rfl
          · rw [List.length_eq_zero_iff.mp (show ds.length = 0 by omega)]; simp
        exact q _ (.tup ds) H (Ex.refl _) hI (.tup h n1 r) (.inr (by rw [e]))
      · rw [cut_from]
        exact q _ _ _ (Ex.of (same_upd hp)) (hw.same (same_upd hp) hI) (.tup upd_same (hw.fresh hI hp) ((r.drop n).same (same_upd hp))) (.inr rfl)
theorem ok_laid (B : Bl mg) (G : Df P w K mg base 1 "over" ["newer", "older"] [] (spLay K)) (F : At K mg "laid" s_laid ["rows"] []) : Df P w K mg base 2 "laid" ["rows"] [] (spLaid K) := by
  refine F.df sc_laid (fun vs H Q E h => ?_) (fun f cdv A outer s H vs Q E hr h => ⟨_, w_laid B G hr, ?_⟩)
  · obtain ⟨M, I, x, d, S, _, _, rfl, _⟩ := h
    rfl
  · obtain ⟨M, I, x, d, S, hw, hI, rfl, hx, hd, hn, hl, hs, q⟩ := h
    obtain ⟨r, S, rfl⟩ : ∃ r S2, S = r :: S2 := by cases S; exact absurd rfl hn; exact ⟨_, _, rfl⟩
    unfold t_laid
    walk_at "sx"
    refine ix_R (n := 0) hx hd rfl fun v rv => ?_
    cases rep_str rv
    walk_at "sx"
    refine sl_E1 (n := 1) hw hI hx hd fun v1 d1 H1 e1 i1 r1 hd1 => ?_
    walk_at "sx"
    refine for_src (as := S) (enc := eS) r1 (by rcases hd1 with rfl | rfl <;> rfl) (fun k σ H2 => ∃ u, σ = [some x, some (.str (T ((S.take k).foldl (fun a r => lay r a) r))), u] ∧ Ex M H1 H2 ∧ I H2)
      ⟨_, rfl, Ex.refl _, i1⟩ (fun k σ H h => by obtain ⟨_, _, h, _⟩ := h; exact h) ?_ ?_
    · rintro k a v σ H2 ha ⟨u, rfl, e2, i2⟩ rv
      cases rep_str rv
      walk_at "sx"
      refine ⟨M, I, _, _, hw, i2, rfl, hs a (List.mem_cons_of_mem _ (List.mem_of_getElem? ha)), fun H3 e3 i3 => ?_⟩
      walk_at "sx"
      have es : (S.take (k + 1)).foldl (fun a r => lay r a) r = lay a ((S.take k).foldl (fun a r => lay r a) r) := by rw [take_snoc ha, List.foldl_append]; rfl
      rw [es]
      exact ⟨_, rfl, e2.trans e3, i3⟩
    · rintro σ H2 ⟨u, rfl, e2, i2⟩
      rw [List.take_length]
      walk_at "sx"
      exact q H2 (e1.trans e2) i2
def spIn (K : PySem.W.Frag) : Sp := fun vs H Q _ => ∃ M I l m, Wf M I ∧ I H ∧ vs = [.str (T l), .str (T m)] ∧ l.length = m.length ∧ LotS l ∧ LotS m ∧ l.length ≤ 1000 ∧ ∀ H', Ex M H H' → I H' → Q (.bl (inB l m)) H'
theorem ok_within (B : Bl mg) (F : At K mg "within" s_within ["one", "other"] []) : Df P w K mg base 1 "within" ["one", "other"] [] (spIn K) := by
  refine F.df sc_within (fun vs H Q E h => ?_) (fun f cdv A outer s H vs Q E hr h => ⟨_, w_within B hr, ?_⟩)
  · obtain ⟨M, I, l, m, _, _, rfl, _⟩ := h
    rfl
  · obtain ⟨M, I, l, m, hw, hI, rfl, hlm, _, _, hl, q⟩ := h
    unfold t_within
    walk_at "sx"
    refine lc_zipM (as := l) (bs := m) (enc := H03.e1) (enc2 := H03.e1) (fun p => .bl (decide (p.1 = 46) || decide (p.2 = 43))) hw hI (.str _) rfl (.str _) rfl (by walk_at "sz") (fun _ _ => rfl) ?_ ?_
    · intro L acc k a b v u H hL ha hb rv rw wf hi ex Qe q
      cases rep_str rv
      cases rep_str rw
      walk_at "sx"
      refine ifB (fun h => ?_) (fun h => ?_)
      · refine q _ _ (?_ : Rep K _ _ _ _) hi (Ex.refl _)
        (try rw [dec1] at h)
        rw [h, Bool.true_or]
        exact .bl _
      · walk_at "sx"
        refine q _ _ (?_ : Rep K _ _ _ _) hi (Ex.refl _)
        (try rw [dec1] at h)
        rw [h, Bool.false_or]
        (try rw [dec1])
        exact .bl _
    · intro y H' rp ex hi
      walk_at "sx"
      exact all_M _ rp (q _ ex hi)
theorem not_in {l m : List Nat} (h1 : LotS l) (h2 : LotS m) {k : Nat} (hl : k < l.length) (hm : k < m.length) : (!(decide (l.getD k 46 = 46) || decide (m.getD k 46 = 43))) = (decide (l[k] = 43) && decide (m[k] = 46)) := by
  rw [List.getD_eq_getElem?_getD, List.getD_eq_getElem?_getD, List.getElem?_eq_getElem hl, List.getElem?_eq_getElem hm]
  simp only [Option.getD_some]
  rcases h1 _ (List.getElem_mem hl) with e | e <;> rcases h2 _ (List.getElem_mem hm) with e2 | e2 <;> rw [e, e2] <;> rfl
theorem ok_inner (B : Bl mg) (F : At K mg "_law_inner" s__law_inner ["_law_x", "_law_y"] []) : Df P w K mg base 1 "_law_inner" ["_law_x", "_law_y"] [] (spIn K) := by
  refine F.df sc__law_inner (fun vs H Q E h => ?_) (fun f cdv A outer s H vs Q E hr h => ⟨_, w__law_inner B hr, ?_⟩)
  · obtain ⟨M, I, l, m, _, _, rfl, _⟩ := h
    rfl
  · obtain ⟨M, I, l, m, hw, hI, rfl, hlm, hs1, hs2, hl, q⟩ := h
    unfold t__law_inner
    walk_at "sx"
    refine ⟨_, rfl, by omega, by omega, ?_⟩
    rw [Int.toNat_natCast]
    refine lc_rngF (K := K) (fun k => !(decide (l.getD k 46 = 46) || decide (m.getD k 46 = 43))) eI hw hI (szOk (by omega)) (fun _ => rfl) ?_ ?_ ?_
    · intro L acc k H hL hk wf hi ex Qt q
      have hk2 : k < m.length := by omega
      have q := q H hi (Ex.refl _)
      rw [not_in hs1 hs2 hk hk2] at q
      rw [Int.zero_add]
      walk_at "sx"
      refine ix_T (z := l[k]) (by walk_at "sz") (by simp [hk]) ?_
      walk_at "sx"
      refine ifB (fun h => ?_) (fun h => ?_)
      · walk_at "sx"
        refine ix_T (z := m[k]) (by walk_at "sz") (by simp [hk2]) ?_
        walk_at "sx"
        (try rw [dec1] at h)
        rw [h, Bool.true_and] at q
        (try rw [dec1])
        exact q
      · (try rw [dec1] at h)
        rw [h, Bool.false_and] at q
        exact q
    · intro L acc k H hL hk hp wf hi ex Qe q
      rw [Int.zero_add]
      walk_at "sx"
      exact q _ _ (.int _) hi (Ex.refl _)
    · intro y H1 r1 e1 i1
      walk_at "sx"
      refine lst_end (K := K) hw i1 .nil (by decide) fun y2 H2 e2 i2 r2 => ?_
      refine eq_L0 (r1.ex e2) r2 (flat_I _) ?_
      have ef : (((List.range l.length).filter fun k => !(decide (l.getD k 46 = 46) || decide (m.getD k 46 = 43))).map eI).isEmpty = inB l m := by
        rw [inB, all_zip hlm, List.isEmpty_map]
      rw [ef]
      exact q H2 (e1.trans e2) i2
def spAg (K : PySem.W.Frag) : Sp := fun vs H Q _ => ∃ M I l m, Wf M I ∧ I H ∧ vs = [.str (T l), .str (T m)] ∧ l.length = m.length ∧ l.length ≤ 1000 ∧ ∀ H', Ex M H H' → I H' → Q (.bl (agB l m)) H'
theorem ok_agree (B : Bl mg) (F : At K mg "agree" s_agree ["one", "other"] []) : Df P w K mg base 1 "agree" ["one", "other"] [] (spAg K) := by
  refine F.df sc_agree (fun vs H Q E h => ?_) (fun f cdv A outer s H vs Q E hr h => ⟨_, w_agree B hr, ?_⟩)
  · obtain ⟨M, I, l, m, _, _, rfl, _⟩ := h
    rfl
  · obtain ⟨M, I, l, m, hw, hI, rfl, hlm, hl, q⟩ := h
    unfold t_agree
    walk_at "sx"
    refine lc_zipM (as := l) (bs := m) (enc := H03.e1) (enc2 := H03.e1) (fun p => .bl (decide (p.1 = 46) || decide (p.2 = 46) || decide (p.1 = p.2))) hw hI (.str _) rfl (.str _) rfl (by walk_at "sz") (fun _ _ => rfl) ?_ ?_
    · intro L acc k a b v u H hL ha hb rv rw wf hi ex Qe q
      cases rep_str rv
      cases rep_str rw
      have ed : ∀ H4 : Hp, decide ([46] ∈ [[a], [b]]) = (decide (a = 46) || decide (b = 46)) := fun _ => by
        rw [Bool.eq_iff_iff]
        simp only [List.mem_cons, List.cons.injEq, and_true, List.not_mem_nil, or_false, Bool.or_eq_true, decide_eq_true_eq]
        exact ⟨fun h => h.imp Eq.symm Eq.symm, fun h => h.imp Eq.symm Eq.symm⟩
      walk_at "sx"
      refine in_L (ls := [[a], [b]]) (by assumption) (.inr rfl) ?_
      refine ⟨_, rfl, ?_⟩
      rw [ed H]
      refine ifB (fun h => ?_) (fun h => ?_)
      · refine q _ _ (?_ : Rep K _ _ _ _) (by assumption) (by assumption)
        simp only [] at h ⊢
        rw [h, Bool.true_or]
        exact .bl _
      · walk_at "sx"
        refine q _ _ (?_ : Rep K _ _ _ _) (by assumption) (by assumption)
        simp only [] at h ⊢
        rw [h, Bool.false_or]
        (try rw [dec1])
        exact .bl _
    · intro y H' rp ex hi
      walk_at "sx"
      exact all_M _ rp (q _ ex hi)
theorem not_ag {l m : List Nat} {k : Nat} (hl : k < l.length) (hm : k < m.length) : (!(decide (l.getD k 46 = 46) || decide (m.getD k 46 = 46) || decide (l.getD k 46 = m.getD k 46))) = ((!decide (l[k] = 46)) && ((!decide (m[k] = 46)) && (!decide (l[k] = m[k])))) := by
  rw [List.getD_eq_getElem?_getD, List.getD_eq_getElem?_getD, List.getElem?_eq_getElem hl, List.getElem?_eq_getElem hm]
  simp only [Option.getD_some, Bool.not_or, Bool.and_assoc]
theorem ok_meet (B : Bl mg) (F : At K mg "_law_meet" s__law_meet ["_law_x", "_law_y"] []) : Df P w K mg base 1 "_law_meet" ["_law_x", "_law_y"] [] (spAg K) := by
  refine F.df sc__law_meet (fun vs H Q E h => ?_) (fun f cdv A outer s H vs Q E hr h => ⟨_, w__law_meet B hr, ?_⟩)
  · obtain ⟨M, I, l, m, _, _, rfl, _⟩ := h
    rfl
  · obtain ⟨M, I, l, m, hw, hI, rfl, hlm, hl, q⟩ := h
    unfold t__law_meet
    walk_at "sx"
    refine ⟨_, rfl, by omega, by omega, ?_⟩
    rw [Int.toNat_natCast]
    refine lc_rngF (K := K) (fun k => !(decide (l.getD k 46 = 46) || decide (m.getD k 46 = 46) || decide (l.getD k 46 = m.getD k 46))) eI hw hI (szOk (by omega)) (fun _ => rfl) ?_ ?_ ?_
    · intro L acc k H hL hk wf hi ex Qt q
      have hk2 : k < m.length := by omega
      have q := q H hi (Ex.refl _)
      rw [not_ag hk hk2] at q
      rw [Int.zero_add]
      walk_at "sx"
      refine ix_T (z := l[k]) (by walk_at "sz") (by simp [hk]) ?_
      walk_at "sx"
      refine ifB (fun h => ?_) (fun h => ?_)
      · (try rw [dec1] at h)
        rw [h, Bool.true_and] at q
        walk_at "sx"
        refine ix_T (z := m[k]) (by walk_at "sz") (by simp [hk2]) ?_
        walk_at "sx"
        refine ifB (fun h => ?_) (fun h => ?_)
        · (try rw [dec1] at h)
          rw [h, Bool.true_and] at q
          walk_at "sx"
          refine ix_T (z := l[k]) (by walk_at "sz") (by simp [hk]) ?_
          walk_at "sx"
          refine ix_T (z := m[k]) (by walk_at "sz") (by simp [hk2]) ?_
          walk_at "sx"
          (try rw [dec1])
          exact q
        · (try rw [dec1] at h)
          rw [h, Bool.false_and] at q
          exact q
      · (try rw [dec1] at h)
        rw [h, Bool.false_and] at q
        exact q
    · intro L acc k H hL hk hp wf hi ex Qe q
      rw [Int.zero_add]
      walk_at "sx"
      exact q _ _ (.int _) hi (Ex.refl _)
    · intro y H1 r1 e1 i1
      walk_at "sx"
      refine lst_end (K := K) hw i1 .nil (by decide) fun y2 H2 e2 i2 r2 => ?_
      refine eq_L0 (r1.ex e2) r2 (flat_I _) ?_
      have ef : (((List.range l.length).filter fun k => !(decide (l.getD k 46 = 46) || decide (m.getD k 46 = 46) || decide (l.getD k 46 = m.getD k 46))).map eI).isEmpty = agB l m := by
        rw [agB, all_zip hlm, List.isEmpty_map]
      rw [ef]
      exact q H2 (e1.trans e2) i2
def spCut (K : PySem.W.Frag) : Sp := fun vs H Q _ => ∃ (M : Addr → Prop) (I : Hp → Prop) (l : List Nat) (x : V) (d : D) (ks : List Nat), Wf M I ∧ I H ∧ vs = [.str (T l), x] ∧ Rep K M H x d ∧ (d = .lst (ks.map eI) ∨ d = .tup (ks.map eI)) ∧ ks.length ≤ 1000 ∧ l.length ≤ 1000 ∧ (∀ k ∈ ks, k < l.length) ∧ ∀ H', Ex M H H' → I H' → Q (.str (T (cutF l ks))) H'
theorem ok_cut (B : Bl mg) (F : At K mg "cut" s_cut ["row", "places"] []) : Df P w K mg base 1 "cut" ["row", "places"] [] (spCut K) := by
  refine F.df sc_cut (fun vs H Q E h => ?_) (fun f cdv A outer s H vs Q E hr h => ⟨_, w_cut B hr, ?_⟩)
  · obtain ⟨M, I, l, x, d, ks, _, _, rfl, _⟩ := h
    rfl
  · obtain ⟨M, I, l, x, d, ks, hw, hI, rfl, hx, hd, hkl, hl, hks, q⟩ := h
    unfold t_cut
    walk_at "sx"
    refine lc_srcM (as := ks) (enc := eI) (fun k => .str (T [l.getD k 46])) hw hI hx (by rcases hd with rfl | rfl <;> rfl) (szOk (by omega)) (fun _ => rfl) ?_ ?_
    · intro L acc k a v H hL ha rv wf hi ex Qe q
      cases rep_int rv
      have hk := hks a (List.mem_of_getElem? ha)
      walk_at "sx"
      refine ix_T (z := l.getD a 46) (by walk_at "sz") (by simp [List.getD_eq_getElem?_getD, hk]) ?_
      exact q _ _ (.str _) hi (Ex.refl _)
    · intro y H' rp ex hi
      walk_at "sx"
      exact join_1 _ rp (by omega) (q _ ex hi)
end


/-! ### an order by size, then by signs -/
theorem ltT (a b : List Nat) (g : List Nat → Int) : leP g a b = decide (g a < g b ∨ (g a = g b ∧ ¬ b < a)) := by
  show (!PySem.W.dataLt (PyData.tuple [.int (g b), .str (T b)]) (PyData.tuple [.int (g a), .str (T a)])) = _
  rw [PySem.W.dataLt_pair (by simp [PySem.W.alike]) (by simp [PySem.W.alike]), PySem.W.dataLt_int, PySem.W.dataLt_str]
  simp only [PyData.eqv, beq_iff_eq]
  have et : (T b = T a) ↔ b = a := ⟨fun e => T_inj e, fun e => by rw [e]⟩
  have ec : ∀ l : List Nat, (T l).cps.toList = l := fun l => by rw [T_cps]
  rw [ec, ec]
  by_cases h1 : g b = g a
  · rw [if_pos h1]
    by_cases h2 : T b = T a
    · rw [if_pos h2]
      have := et.mp h2
      subst this
      simp [h1]
    · rw [if_neg h2]
      by_cases h3 : b < a
      · rw [decide_eq_true h3, decide_eq_false (by rintro (z | ⟨_, z⟩); omega; exact z h3)]; rfl
      · rw [decide_eq_false h3, decide_eq_true (.inr ⟨h1.symm, h3⟩)]; rfl
  · rw [if_neg h1]
    rw [Bool.eq_iff_iff]
    simp
    omega
def LeT (g : List Nat → Int) (a b : List Nat) : Prop := g a < g b ∨ (g a = g b ∧ ¬ b < a)
instance (g : List Nat → Int) (a b : List Nat) : Decidable (LeT g a b) := by unfold LeT; infer_instance
theorem LeT.trans {g : List Nat → Int} {a b c : List Nat} (h1 : LeT g a b) (h2 : LeT g b c) : LeT g a c := by
  rcases h1 with h1 | ⟨h1, k1⟩ <;> rcases h2 with h2 | ⟨h2, k2⟩
  · exact .inl (by omega)
  · exact .inl (by omega)
  · exact .inl (by omega)
  · exact .inr ⟨by omega, List.not_lt.mpr (List.le_trans (List.not_lt.mp k1) (List.not_lt.mp k2))⟩
theorem LeT.total {g : List Nat → Int} (a b : List Nat) : LeT g a b ∨ LeT g b a := by
  by_cases h : g a < g b
  · exact .inl (.inl h)
  by_cases h2 : g b < g a
  · exact .inr (.inl h2)
  have e : g a = g b := by omega
  by_cases k : b < a
  · exact .inr (.inr ⟨e.symm, List.not_lt.mpr (List.le_of_lt k)⟩)
  · exact .inl (.inr ⟨e, k⟩)
theorem LeT.anti {g : List Nat → Int} {a b : List Nat} (h1 : LeT g a b) (h2 : LeT g b a) : a = b := by
  rcases h1 with h1 | ⟨h1, k1⟩ <;> rcases h2 with h2 | ⟨h2, k2⟩
  · omega
  · omega
  · omega
  · exact List.le_antisymm (List.not_lt.mp k1) (List.not_lt.mp k2)
theorem sort_two {g : List Nat → Int} : ∀ {A B : List (List Nat)}, A.Pairwise (LeT g) → B.Pairwise (LeT g) → A.Nodup → B.Nodup → (∀ r, r ∈ A ↔ r ∈ B) → A = B
  | [], [], _, _, _, _, _ => rfl
  | [], b :: B, _, _, _, _, h => by have := (h b).mpr List.mem_cons_self; cases this
  | a :: A, [], _, _, _, _, h => by have := (h a).mp List.mem_cons_self; cases this
  | a :: A, b :: B, h1, h2, n1, n2, h => by
    obtain ⟨r1, p1⟩ := List.pairwise_cons.mp h1
    obtain ⟨r2, p2⟩ := List.pairwise_cons.mp h2
    have e : a = b := by
      rcases List.mem_cons.mp ((h a).mp List.mem_cons_self) with e | ha
      · exact e
      rcases List.mem_cons.mp ((h b).mpr List.mem_cons_self) with e | hb
      · exact e.symm
      exact (r1 b hb).anti (r2 a ha)
    subst e
    obtain ⟨m1, n1⟩ := List.nodup_cons.mp n1
    obtain ⟨m2, n2⟩ := List.nodup_cons.mp n2
    have e2 : A = B := sort_two p1 p2 n1 n2 fun r => by
      constructor
      · intro hr
        rcases List.mem_cons.mp ((h r).mp (List.mem_cons_of_mem _ hr)) with rfl | z
        · exact absurd hr m1
        · exact z
      · intro hr
        rcases List.mem_cons.mp ((h r).mpr (List.mem_cons_of_mem _ hr)) with rfl | z
        · exact absurd hr m2
        · exact z
    rw [e2]
theorem two_sub {α : Type} {a b : α} : ∀ {r : List α}, r.Nodup → [a, b].Sublist r → [b, a].Sublist r → False
  | [], _, h, _ => by cases h
  | x :: r, hn, h1, h2 => by
    obtain ⟨m, hn⟩ := List.nodup_cons.mp hn
    cases h1 with
    | cons _ h1 => cases h2 with
      | cons _ h2 => exact two_sub hn h1 h2
      | cons_cons _ h2 => exact m (h1.subset (by simp))
    | cons_cons _ h1 => cases h2 with
      | cons _ h2 => exact m (h2.subset (by simp))
      | cons_cons _ h2 => exact m (h2.subset (by simp))
theorem sub_two {α : Type} {a b : α} : ∀ {r : List α}, a ∈ r → b ∈ r → a ≠ b → [a, b].Sublist r ∨ [b, a].Sublist r
  | [], h, _, _ => by cases h
  | x :: r, h1, h2, h3 => by
    rcases List.mem_cons.mp h1 with rfl | k1
    · rcases List.mem_cons.mp h2 with rfl | k2
      · exact absurd rfl h3
      · exact .inl (List.Sublist.cons_cons _ (List.singleton_sublist.mpr k2))
    · rcases List.mem_cons.mp h2 with rfl | k2
      · exact .inr (List.Sublist.cons_cons _ (List.singleton_sublist.mpr k1))
      · exact (sub_two k1 k2 h3).imp (List.Sublist.cons _) (List.Sublist.cons _)
theorem rise_pw : ∀ {l : List (List Nat)}, sortedS (l.map T) = true → l.Pairwise fun a b => ¬ b < a
  | [], _ => .nil
  | a :: l, h => by
    have key : ∀ {l : List (List Nat)} {p : List Nat}, risingS (T p) (l.map T) = true → ∀ x ∈ l, ¬ x < p := by
      intro l
      induction l with
      | nil => intro p _ x h; cases h
      | cons a l ih =>
        intro p hr x hx
        have h : (!ltCps (T a).cps.toList (T p).cps.toList && risingS (T a) (l.map T)) = true := hr
        obtain ⟨h1, h2⟩ := Bool.and_eq_true_iff.mp h
        have h3 : ¬ a < p := by
          have h5 : ltCps (T a).cps.toList (T p).cps.toList = false := by simpa using h1
          have : ltCps a p = false := h5
          rw [ltCps_eq] at this
          exact of_decide_eq_false this
        rcases List.mem_cons.mp hx with rfl | hx
        · exact h3
        · exact List.not_lt.mpr (List.le_trans (List.not_lt.mp h3) (List.not_lt.mp (ih h2 x hx)))
    refine List.pairwise_cons.mpr ⟨key h, rise_pw ?_⟩
    cases l with
    | nil => rfl
    | cons b l => exact (Bool.and_eq_true_iff.mp (show (!ltCps (T b).cps.toList (T a).cps.toList && risingS (T b) (l.map T)) = true from h)).2
/-- a stable sort by size of a sorted list -/
theorem size_sort {g : List Nat → Int} {ys : List (List Nat)} (hs : ys.Pairwise fun a b => ¬ b < a) (hn : ys.Nodup) : (ys.mergeSort fun a b => decide (g a ≤ g b)).Pairwise (LeT g) := by
  have hp := List.mergeSort_perm ys fun a b => decide (g a ≤ g b)
  have ht : ∀ a b c : List Nat, decide (g a ≤ g b) = true → decide (g b ≤ g c) = true → decide (g a ≤ g c) = true := fun a b c h1 h2 => by
    simp only [decide_eq_true_eq] at *; omega
  have ho : ∀ a b : List Nat, (decide (g a ≤ g b) || decide (g b ≤ g a)) = true := fun a b => by
    simp only [Bool.or_eq_true, decide_eq_true_eq]; omega
  have hw := List.pairwise_mergeSort ht ho ys
  have hr : (ys.mergeSort fun a b => decide (g a ≤ g b)).Nodup := hp.nodup_iff.mpr hn
  rw [List.pairwise_iff_forall_sublist]
  intro a b hab
  have h1 : g a ≤ g b := of_decide_eq_true (List.pairwise_iff_forall_sublist.mp hw hab)
  by_cases h2 : g a < g b
  · exact .inl h2
  have e : g a = g b := by omega
  have hne : a ≠ b := List.pairwise_iff_forall_sublist.mp hr hab
  have ma : a ∈ ys := hp.mem_iff.mp (hab.subset (by simp))
  have mb : b ∈ ys := hp.mem_iff.mp (hab.subset (by simp))
  rcases sub_two ma mb hne with h | h
  · exact .inr ⟨e, List.pairwise_iff_forall_sublist.mp hs h⟩
  · have h3 := List.pair_sublist_mergeSort ht ho (a := b) (b := a) (decide_eq_true (by omega)) h
    exact (two_sub hr hab h3).elim
theorem dedup_sub : ∀ {l acc : List (List Nat)}, ∃ z, dedup acc l = acc ++ z ∧ z.Sublist l
  | [], acc => ⟨[], by simp [dedup], .slnil⟩
  | a :: l, acc => by
    unfold dedup
    split
    · obtain ⟨z, h1, h2⟩ := dedup_sub (l := l) (acc := acc)
      exact ⟨z, h1, h2.cons a⟩
    · obtain ⟨z, h1, h2⟩ := dedup_sub (l := l) (acc := acc ++ [a])
      exact ⟨a :: z, by rw [h1]; simp, h2.cons_cons a⟩
theorem dedup_nd : ∀ {l acc : List (List Nat)}, acc.Nodup → (dedup acc l).Nodup
  | [], acc, h => by unfold dedup; exact h
  | a :: l, acc, h => by
    unfold dedup
    split
    · exact dedup_nd h
    · rename_i hm
      exact dedup_nd (List.nodup_append.mpr ⟨h, by simp, fun x hx y hy => by rw [List.mem_singleton.mp hy]; exact fun e => hm (e ▸ hx)⟩)
/-- the lots in order -/
def ordF (g : List Nat → Int) (L : List (List Nat)) : List (List Nat) := dedup [] (L.mergeSort (leP g))
theorem ordF_pw (g : List Nat → Int) (L : List (List Nat)) : (ordF g L).Pairwise (LeT g) := by
  obtain ⟨z, h1, h2⟩ := dedup_sub (l := L.mergeSort (leP g)) (acc := [])
  unfold ordF
  rw [h1, List.nil_append]
  have hf : leP g = fun a b => decide (LeT g a b) := by
    funext a b
    exact ltT a b g
  refine List.Pairwise.sublist h2 ?_
  have ht : ∀ a b c : List Nat, leP g a b = true → leP g b c = true → leP g a c = true := fun a b c h1 h2 => by
    rw [ltT] at *
    exact decide_eq_true (LeT.trans (of_decide_eq_true h1) (of_decide_eq_true h2))
  have ho : ∀ a b : List Nat, (leP g a b || leP g b a) = true := fun a b => by
    rw [ltT, ltT, Bool.or_eq_true, decide_eq_true_eq, decide_eq_true_eq]
    exact LeT.total a b
  exact (List.pairwise_mergeSort ht ho L).imp fun {a b} h => by rw [ltT] at h; exact of_decide_eq_true h
theorem ordF_nd (g : List Nat → Int) (L : List (List Nat)) : (ordF g L).Nodup := dedup_nd (by simp)
theorem ordF_mem {g : List Nat → Int} {L : List (List Nat)} {r : List Nat} : r ∈ ordF g L ↔ r ∈ L := by
  unfold ordF
  rw [dedup_mem, List.mem_mergeSort]
  simp
theorem ordF_len (g : List Nat → Int) (L : List (List Nat)) : (ordF g L).length ≤ L.length := by
  have := dedup_len (l := L.mergeSort (leP g)) (acc := [])
  rw [List.length_mergeSort] at this
  unfold ordF
  simpa using this
theorem ord_one {g : List Nat → Int} {L ys : List (List Nat)} (hs : sortedS (ys.map T) = true) (hn : ys.Nodup) (hm : ∀ r, r ∈ ys ↔ r ∈ L) : (ys.mergeSort fun a b => decide (g a ≤ g b)) = ordF g L :=
  sort_two (size_sort (rise_pw hs) hn) (ordF_pw g L) ((List.mergeSort_perm _ _).nodup_iff.mpr hn) (ordF_nd g L) fun r => by rw [List.mem_mergeSort, hm, ordF_mem]
theorem ordF_self (g : List Nat → Int) (L : List (List Nat)) : ordF g (ordF g L) = ordF g L :=
  sort_two (ordF_pw g _) (ordF_pw g L) (ordF_nd g _) (ordF_nd g L) fun r => by rw [ordF_mem]
theorem ms_map (g : List Nat → Int) (h : Str → Int) (e : ∀ l, h (T l) = g l) (ys : List (List Nat)) : (ys.map T).mergeSort (leK h) = (ys.mergeSort fun a b => decide (g a ≤ g b)).map T := by
  refine (List.map_mergeSort (f := T) (r := fun a b => decide (g a ≤ g b)) (s := leK h) (l := ys) ?_).symm
  intro a _ b _
  show _ = decide (h (T a) ≤ h (T b))
  rw [e, e]


def gC (l : List Nat) : Int := Txt.count (T l) (T [43])
section
variable {P : Program} {w : World} {K : PySem.W.Frag} {mg : Str → Option Value} {base : Heap}
/-- lots in order, handed back new -/
def spOrd (K : PySem.W.Frag) : Sp := fun vs H Q _ => ∃ (M : Addr → Prop) (I : Hp → Prop) (x : V) (d : D) (L : List (List Nat)), Wf M I ∧ I H ∧ vs = [x] ∧ Rep K M H x d ∧ (d = .lst (L.map eS) ∨ d = .tup (L.map eS)) ∧ L.length ≤ 1000 ∧ (∀ l ∈ L, LotS l) ∧ ∀ p H', H p = none → ¬ M p → H' p = some (.lst ((ordF gC L).map fun l => V.str (T l))) → Ex M H H' → I H' → Q (.ref p) H'
theorem ok_lots (B : Bl mg) (G : Df P w K mg base 1 "_law_once" ["_law_things"] [] (spOnce K)) (F : At K mg "_law_lots" s__law_lots ["_law_told"] []) : Df P w K mg base 2 "_law_lots" ["_law_told"] [] (spOrd K) := by
  refine F.df sc__law_lots (fun vs H Q E h => ?_) (fun f cdv A outer s H vs Q E hr h => ⟨_, w__law_lots B G hr, ?_⟩)
  · obtain ⟨M, I, x, d, L, _, _, rfl, _⟩ := h
    rfl
  · obtain ⟨M, I, x, d, L, hw, hI, rfl, hx, hd, hl, hs, q⟩ := h
    unfold t__law_lots
    walk_at "sx"
    refine lc_srcM (as := L) (enc := eS) (eG gC) hw hI hx (by rcases hd with rfl | rfl <;> rfl) (szOk (by omega)) (fun _ => rfl) ?_ ?_
    · intro L0 acc k a v H hL ha rv wf hi ex Qe q
      cases rep_str rv
      walk_at "sx"
      refine ⟨_, _, rfl, rfl, ?_⟩
      walk_at "sx"
      rename_i y H2 e2 i2 r2
      exact q _ _ r2 i2 e2
    · intro y H1 r1 e1 i1
      walk_at "sx"
      refine ⟨M, I, y, L, gC, hw, i1, rfl, r1, hl, fun l h => (hs l h).lt, fun y2 H2 e2 i2 r2 => ?_⟩
      walk_at "sx"
      refine lc_srcP (as := L.mergeSort (leP gC)) (enc := fun l => .int (gC l)) (enc2 := eS) hw i2 r2 rfl (szOk (by rw [List.length_mergeSort]; omega)) (fun _ _ => rfl) (fun _ => true) (fun a d => d = eS a) ?_ ?_ ?_
      · intro L0 acc k a v u H3 hL nL ha rv ru wf hi ex Qt qt
        walk_at "sx"
        exact qt _ hi (Ex.refl _)
      · intro L0 acc k a v u H3 hL nL ha _ rv ru wf hi ex Qe qe
        cases rep_str ru
        walk_at "sx"
        exact qe _ _ _ rfl (.str _) hi (Ex.refl _)
      · intro y3 ds H3 a3 r3 e3 i3
        rw [filter_tt] at a3
        have ed : ds = (L.mergeSort (leP gC)).map eS := a3.eq
        subst ed
        walk_at "sx"
        refine ⟨M, I, y3, L.mergeSort (leP gC), hw, i3, rfl, r3, by rw [List.length_mergeSort]; omega, fun p H4 hp np hq e4 i4 => ?_⟩
        have e03 := (e1.trans e2).trans e3
        exact q p H4 (e03.non hw i3 hp) np hq (e03.trans e4) i4
def t_ordered_lots (P : Program) (w : World) (K : PySem.W.Frag) : TS := tRet (tCKw (rSortKey K (He.ga K "lot_size") fun z => Txt.count z (T [43])) (tCons (tCB (rSortT P w) (tCons (tCB (rSetU K P w) (tCons (tVar 0) tNil)) tNil)) tNil) (tCons (tC (.ref (He.ga K "lot_size"))) tNil))
theorem w_ordered_lots (B : Bl mg) (L : At K mg "lot_size" s_lot_size ["lot"] []) {f : Addr} {cdv : Value} {A : Around} {outer : List Env} {s : Shared} {H : Hp} {E : XK} (hr : Room 3 (A.deeper (envOfC "ordered_lots" (defScope s_ordered_lots) s.heap.objs.size f cdv))) :
    PSs (cxOf (L2.CX P w) P w K mg base n_ordered_lots "ordered_lots" (defScope s_ordered_lots) f cdv A outer s H E).nox (defBody s_ordered_lots) (t_ordered_lots P w K) := by
  have nd := sc_ordered_lots.nd
  have hu := hr.units
  have hv := units5 hr
  have h1 := units1 hr
  obtain ⟨fd, F1, F2⟩ := L.ex
  have b := FunD.bindsA (ps := ["lot"]) F1 fun _ _ _ _ _ _ us hl => match us, hl with | [_], _ => rfl
  exact (pss_one (ps_ret (pe_callBK (cr_sortKey (x := "lot") (c := T [43]) (k0 := _) (p1 := _) (p2 := _) (p3 := _) (p4 := _) (p5 := _) F1 sc_lot_size rfl (by decide) rfl (hr.in1.in1) hv fun s v => b s [v] rfl) (by rfl) B.f_sorted (by decide +kernel)
    (pa_cons (pe_callB (cr_sortT rfl) (by rfl) B.f_sorted (by decide +kernel) (pa_cons (pe_callTy (cr_setU rfl) (by rfl) B.f_set (by decide +kernel) (pa_cons (pv 0) pa_nil)) pa_nil)) pa_nil) (pk_cons (pe_gref (by rfl) L.mgx) pk_nil))))
theorem sx_ckw {r : List V → List V → Hp → VK → Prop} {t tk : TA} {σ : L2.St} {H : Hp} {Q : VK} (h : t σ H fun vs H1 => tk σ H1 fun zs H2 => r vs zs H2 Q) : tCKw r t tk σ H Q := h
theorem ofT : ∀ {ys : List Str} {S : List (List Nat)}, (∀ z ∈ ys, z ∈ S.map T) → ∃ zs : List (List Nat), ys = zs.map T
  | [], _, _ => ⟨[], rfl⟩
  | y :: ys, S, h => by
    obtain ⟨zs, rfl⟩ := ofT (ys := ys) (S := S) fun z hz => h z (List.mem_cons_of_mem _ hz)
    obtain ⟨l, _, rfl⟩ := List.mem_map.mp (h y List.mem_cons_self)
    exact ⟨l :: zs, rfl⟩
theorem inT {zs : List (List Nat)} {r : List Nat} : T r ∈ zs.map T ↔ r ∈ zs := by
  rw [List.mem_map]
  exact ⟨fun ⟨a, h, e⟩ => by rw [← T_inj e]; exact h, fun h => ⟨r, h, rfl⟩⟩
theorem seq_T {M : Addr → Prop} {H : Hp} {x : V} {d : D} {S : List (List Nat)} (hx : Rep K M H x d) (hd : d = .lst (S.map eS) ∨ d = .tup (S.map eS)) : ∃ a, x = .ref a ∧ (SqL K H a ((S.map T).map V.str) ∨ SqT K H a ((S.map T).map V.str)) := by
  have key : ∀ {xs : List V} {S : List (List Nat)}, Reps K M H xs (S.map eS) → xs = (S.map T).map V.str := by
    intro xs S
    induction S generalizing xs with
    | nil => intro h; cases h; rfl
    | cons l S ih =>
      intro h
      cases h with
      | cons r1 r2 =>
        cases rep_str r1
        rw [ih r2]
        rfl
  rcases hd with rfl | rfl
  · cases hx with
    | lst h n r =>
      refine ⟨_, rfl, .inl ?_⟩
      rw [← key r]
      exact SqL.of h
  · cases hx with
    | tup h n r =>
      refine ⟨_, rfl, .inr ?_⟩
      rw [← key r]
      exact SqT.of h
theorem ok_ordered_lots (B : Bl mg) (L : At K mg "lot_size" s_lot_size ["lot"] []) (F : At K mg "ordered_lots" s_ordered_lots ["lots"] []) : Df P w K mg base 4 "ordered_lots" ["lots"] [] (spOrd K) := by
  refine F.df sc_ordered_lots (fun vs H Q E h => ?_) (fun f cdv A outer s H vs Q E hr h => ⟨_, w_ordered_lots B L hr, ?_⟩)
  · obtain ⟨M, I, x, d, L, _, _, rfl, _⟩ := h
    rfl
  · obtain ⟨M, I, x, d, S, hw, hI, rfl, hx, hd, hl, hs, q⟩ := h
    unfold t_ordered_lots
    walk_at "sx"
    obtain ⟨a, rfl, ha⟩ := seq_T hx hd
    refine sx_ckw ?_
    walk_at "sx"
    have hsb : 1001 < scanBound := by decide
    refine ⟨a, S.map T, rfl, ha, by rw [List.length_map]; omega, fun p hp => ?_⟩
    have s1 := same_upd (o := SetTO P w p (S.map T)) hp
    walk_at "sx"
    refine ⟨p, S.map T, rfl, upd_same, by rw [List.length_map]; exact hl, fun ys p2 hso hnd hme hp2 => ?_⟩
    have s2 := same_upd (o := .lst (ys.map V.str)) hp2
    have i1 := hw.same s1 hI
    have i2 := hw.same s2 i1
    obtain ⟨zs, rfl⟩ := ofT fun z hz => (hme z).mp hz
    have hm : ∀ r, r ∈ zs ↔ r ∈ S := fun r => by rw [← inT, hme, inT]
    have hn : zs.Nodup := by
      have h := hnd
      unfold List.Nodup at h ⊢
      rw [List.pairwise_map] at h
      exact h.imp fun {a b} n e => n (by rw [e])
    have hzl : zs.length ≤ 1000 := Nat.le_trans (nodup_len hn fun r h => (hm r).mp h) hl
    walk_at "sx"
    refine ⟨p2, zs.map T, rfl, rfl, SqL.of upd_same, by rw [List.length_map]; exact hzl, fun p3 hp3 => ?_⟩
    have s3 := same_upd (o := .lst (((zs.map T).mergeSort (leK fun z => Txt.count z (T [43]))).map V.str)) hp3
    have e02 : Ex M H _ := (Ex.of s1).trans (Ex.of s2)
    have i3 := hw.same s3 i2
    refine q p3 _ (e02.non hw i2 hp3) (hw.fresh i2 hp3) ?_ (e02.trans (Ex.of s3)) i3
    rw [upd_same, ms_map gC (fun z => Txt.count z (T [43])) (fun _ => rfl), ord_one hso hn hm, List.map_map]
    rfl
end


/-! ### rows laid over, plainly -/
theorem get_some {t : List Nat} {k : Nat} (h : k < t.length) : ∃ a, t[k]? = some a := ⟨t[k], by simp [h]⟩
theorem lay_get {t u : List Nat} {k a b : Nat} (h1 : t[k]? = some a) (h2 : u[k]? = some b) : (lay t u)[k]? = some (if a = 46 then b else a) := by
  unfold lay
  rw [List.getElem?_map, show (t.zip u)[k]? = some (a, b) from List.getElem?_zip_eq_some.mpr ⟨h1, h2⟩]
  rfl
theorem lay_len {l m : List Nat} (h : m.length = l.length) : (lay l m).length = l.length := by simp [lay, h]
theorem lay_row {fr : List (List Nat × Nat)} {s l : List Nat} (hs : isRow fr s = true) (hl : isRow fr l = true) : isRow fr (lay s l) = true := by
  obtain ⟨h1, h2⟩ := isRow_iff.mp hs
  obtain ⟨h3, h4⟩ := isRow_iff.mp hl
  have hlen : (lay s l).length = fr.length := by rw [lay_len (by omega)]; exact h1
  refine isRow_iff.mpr ⟨hlen, fun k c p hc hp => ?_⟩
  have hk := (List.getElem?_eq_some_iff.mp hp).1
  obtain ⟨a, ha⟩ := get_some (t := s) (k := k) (by omega)
  obtain ⟨b, hb⟩ := get_some (t := l) (k := k) (by omega)
  rw [lay_get ha hb] at hc
  by_cases e : a = 46
  · rw [if_pos e] at hc
    cases hc
    exact h4 k _ p hb hp
  · rw [if_neg e] at hc
    cases hc
    exact h2 k _ p ha hp
theorem blank_row {fr : List (List Nat × Nat)} : isRow fr (List.replicate fr.length 46) = true := by
  refine isRow_iff.mpr ⟨by simp, fun k c p hc hp => ?_⟩
  have := List.eq_of_mem_replicate (List.mem_of_getElem? hc)
  rw [this]
  exact sgs_dot _
theorem all_nil {α : Type} {P : α → Prop} : ∀ e ∈ ([] : List α), P e := fun e h => by cases h
theorem all_cons {α : Type} {P : α → Prop} {a : α} {l : List α} (h : P a) (h2 : ∀ e ∈ l, P e) : ∀ e ∈ a :: l, P e := fun e he => by
  rcases List.mem_cons.mp he with rfl | he
  · exact h
  · exact h2 e he
theorem seq_join {a b : TS} {E : Ends} {σ : L2.St} {H : Hp} (P : L2.St → Hp → Prop) (h1 : ∀ nx : L2.St → Hp → Prop, (∀ σ H, P σ H → nx σ H) → a { E with nx := nx } σ H) (h2 : ∀ σ H, P σ H → b E σ H) : tSeq a b E σ H := h1 (b E) h2
theorem fit_S (l : List (List Nat)) (h : l.length ≤ 100000) (n : Nat) : fit (n + 1) (.lst (l.map eS)) ∧ fit (n + 1) (.tup (l.map eS)) := by
  have hel : ∀ e ∈ l.map eS, fit n e := fun e he => by
    obtain ⟨s, _, rfl⟩ := List.mem_map.mp he
    exact fit_sc rfl _
  exact ⟨.inr (.inl ⟨_, .inl rfl, by simpa using h, hel⟩), .inr (.inl ⟨_, .inr rfl, by simpa using h, hel⟩)⟩
def unS : D → List Nat
  | .str z => z.cps.toList
  | _ => []
theorem un_map (l : List (List Nat)) : (l.map eS).map unS = l := by
  rw [List.map_map]
  conv => rhs; rw [← List.map_id l]
  rfl
theorem perm_map {es : List D} {S : List (List Nat)} (h : es.Perm (S.map eS)) : ∃ o : List (List Nat), es = o.map eS ∧ o.Perm S := by
  refine ⟨es.map unS, ?_, by have := h.map unS; rw [un_map] at this; exact this⟩
  have hm : ∀ d ∈ es, eS (unS d) = d := by
    intro d hd
    obtain ⟨s, _, rfl⟩ := List.mem_map.mp (h.mem_iff.mp hd)
    rfl
  rw [List.map_map]
  conv => lhs; rw [← List.map_id es]
  refine List.map_congr_left fun d hd => (hm d hd).symm
def spLaw (K : PySem.W.Frag) : Sp := fun vs H Q _ => ∃ (a : Addr) (ns : List Int), vs = [.ref a] ∧ SqL K H a (ns.map V.int) ∧ ns.length ≤ 63 ∧ ∀ H', Q (.bl true) H'
theorem isRow_len {fr : List (List Nat × Nat)} {l : List Nat} (h : isRow fr l = true) : l.length = fr.length := (isRow_iff.mp h).1
theorem ext_D {l m : List Nat} (h : l.length = m.length) (e : ∀ k, l.getD k 46 = m.getD k 46) : l = m := by
  refine List.ext_getElem h fun k h1 h2 => ?_
  have := e k
  rw [List.getD_eq_getElem?_getD, List.getD_eq_getElem?_getD, List.getElem?_eq_getElem h1, List.getElem?_eq_getElem h2] at this
  exact this
theorem get_out {l : List Nat} {k : Nat} (h : l.length ≤ k) : l.getD k 46 = 46 := by
  rw [List.getD_eq_getElem?_getD, List.getElem?_eq_none h]
  rfl
theorem zip_D {f : Nat × Nat → Nat} {t u : List Nat} {k : Nat} (h : u.length = t.length) (h0 : f (46, 46) = 46) : ((t.zip u).map f).getD k 46 = f (t.getD k 46, u.getD k 46) := by
  by_cases hk : k < t.length
  · have hk2 : k < u.length := by omega
    have e : (t.zip u)[k]? = some (t[k], u[k]) := List.getElem?_zip_eq_some.mpr ⟨by simp [hk], by simp [hk2]⟩
    simp [List.getD_eq_getElem?_getD, hk, hk2, e]
  · rw [get_out (l := t) (by omega), get_out (l := u) (by omega), get_out (by simp; omega), h0]
theorem lay_D {t u : List Nat} {k : Nat} (h : u.length = t.length) : (lay t u).getD k 46 = if t.getD k 46 = 46 then u.getD k 46 else t.getD k 46 := zip_D h rfl
theorem uni_D {t u : List Nat} {k : Nat} (h : u.length = t.length) : (uni t u).getD k 46 = if 43 = t.getD k 46 ∨ 43 = u.getD k 46 then 43 else 46 := zip_D (f := fun p => if 43 = p.1 ∨ 43 = p.2 then 43 else 46) h rfl
theorem lot_D {t : List Nat} {k : Nat} : (lot t).getD k 46 = if t.getD k 46 = 46 then 46 else 43 := by
  by_cases hk : k < t.length
  · unfold lot
    simp [List.getD_eq_getElem?_getD, hk]
  · rw [get_out (l := t) (by omega), get_out (by rw [lot_len]; omega)]
    rfl
theorem all_D {f : Nat × Nat → Bool} {x y : List Nat} (hl : x.length = y.length) (h : ∀ k, f (x.getD k 46, y.getD k 46) = true) : (x.zip y).all f = true := by
  rw [all_zip hl, List.isEmpty_iff, List.filter_eq_nil_iff]
  intro k _
  rw [h k]
  exact Bool.false_ne_true
section
variable {x y z : List Nat} {n : Nat}
theorem lay_self (x : List Nat) : lay x x = x := ext_D (by rw [lay_len rfl]) fun k => by
  rw [lay_D rfl]
  split <;> rfl
theorem lay_back (h : y.length = x.length) : lay (lay x y) x = lay x y := ext_D (by rw [lay_len (by rw [lay_len h])]) fun k => by
  rw [lay_D (by rw [lay_len h]), lay_D h]
  generalize x.getD k 46 = a
  generalize y.getD k 46 = b
  by_cases e : a = 46 <;> by_cases e2 : b = 46 <;> simp [e, e2]
theorem lot_lay (h : y.length = x.length) : lot (lay x y) = uni (lot x) (lot y) := ext_D (by rw [lot_len, lay_len h, uni_len (by rw [lot_len, lot_len, h]), lot_len]) fun k => by
  rw [lot_D, lay_D h, uni_D (by rw [lot_len, lot_len, h]), lot_D, lot_D]
  generalize x.getD k 46 = a
  generalize y.getD k 46 = b
  by_cases e : a = 46 <;> by_cases e2 : b = 46 <;> simp [e, e2]
theorem in_uni (h : y.length = x.length) : inB (lot x) (uni (lot y) (lot x)) = true := all_D (by rw [uni_len (by rw [lot_len, lot_len, h]), lot_len, lot_len, h]) fun k => by
  show (decide ((lot x).getD k 46 = 46) || decide ((uni (lot y) (lot x)).getD k 46 = 43)) = true
  rw [uni_D (by rw [lot_len, lot_len, h]), lot_D, lot_D]
  generalize x.getD k 46 = a
  generalize y.getD k 46 = b
  by_cases e : a = 46 <;> by_cases e2 : b = 46 <;> simp [e, e2]
theorem ag_lay (h : y.length = x.length) : agB x (lay x y) = true := all_D (by rw [lay_len h]) fun k => by
  show (decide (x.getD k 46 = 46) || decide ((lay x y).getD k 46 = 46) || decide (x.getD k 46 = (lay x y).getD k 46)) = true
  rw [lay_D h]
  generalize x.getD k 46 = a
  by_cases e : a = 46 <;> simp [e]
theorem lay_ass (h1 : y.length = x.length) (h2 : z.length = x.length) : lay (lay x y) z = lay x (lay y z) := by
  have l1 : (lay x y).length = x.length := lay_len h1
  have l2 : (lay y z).length = x.length := by rw [lay_len (by omega)]; exact h1
  refine ext_D (by rw [lay_len (by omega), l1, lay_len (by omega)]) fun k => ?_
  rw [lay_D (by omega), lay_D h1, lay_D (by omega), lay_D (by omega)]
  generalize x.getD k 46 = a
  by_cases e : a = 46 <;> simp [e]
theorem lay_five (h1 : y.length = x.length) (h2 : z.length = x.length) : lay z (lay x (lay y (lay z x))) = lay z (lay x y) := by
  have l1 : (lay z x).length = x.length := by rw [lay_len (by omega)]; exact h2
  have l2 : (lay y (lay z x)).length = x.length := by rw [lay_len (by omega)]; exact h1
  have l3 : (lay x (lay y (lay z x))).length = x.length := by rw [lay_len (by omega)]
  have l4 : (lay x y).length = x.length := lay_len h1
  refine ext_D (by rw [lay_len (by omega), lay_len (by omega)]) fun k => ?_
  rw [lay_D (by omega), lay_D (by omega), lay_D (by omega), lay_D (by omega), lay_D (by omega), lay_D (by omega)]
  generalize x.getD k 46 = a
  generalize y.getD k 46 = b
  generalize z.getD k 46 = c
  by_cases e : a = 46 <;> by_cases e2 : b = 46 <;> by_cases e3 : c = 46 <;> simp [e, e2, e3]
theorem cut_all (x : List Nat) : cutF x (List.range x.length) = x := by
  refine ext_D (by simp [cutF]) fun k => ?_
  by_cases hk : k < x.length
  · simp [cutF, List.getD_eq_getElem?_getD, hk]
  · rw [get_out (l := x) (by omega), get_out (by simp [cutF]; omega)]
theorem cut_lot {x ks : List Nat} : cutF (lot x) ks = lot (cutF x ks) := by
  unfold cutF lot
  rw [List.map_map]
  refine List.map_congr_left fun k _ => ?_
  exact lot_D (t := x) (k := k)
end
theorem sg_rep (n : Nat) (c : Nat) (h : c = 46 ∨ c = 43) : LotS (List.replicate n c) := fun d hd => by rw [List.eq_of_mem_replicate hd]; exact h
def unI : D → Nat
  | .int z => z.toNat
  | _ => 0
theorem unI_map (l : List Nat) : (l.map eI).map unI = l := by
  rw [List.map_map]
  conv => rhs; rw [← List.map_id l]
  rfl
theorem permI {es : List D} {S : List Nat} (h : es.Perm (S.map eI)) : ∃ o : List Nat, es = o.map eI ∧ o.Perm S := by
  refine ⟨es.map unI, ?_, by have := h.map unI; rw [unI_map] at this; exact this⟩
  have hm : ∀ d ∈ es, eI (unI d) = d := by
    intro d hd
    obtain ⟨s, _, rfl⟩ := List.mem_map.mp (h.mem_iff.mp hd)
    rfl
  rw [List.map_map]
  conv => lhs; rw [← List.map_id es]
  refine List.map_congr_left fun d hd => (hm d hd).symm



section
variable {P : Program} {w : World} {K : PySem.W.Frag} {mg : Str → Option Value} {base : Heap}
def spBent (K : PySem.W.Frag) : Sp := fun vs H Q _ => ∃ (M : Addr → Prop) (I : Hp → Prop) (b : Addr) (x : V) (fr : List (List Nat × Nat)) (r : List Nat), Wf M I ∧ I H ∧ HasBag M I b ∧ vs = [.ref b, x, .str (T r)] ∧ Rep K M H x (.lst (fr.map eC)) ∧ FrOk fr ∧ 1 ≤ fr.length ∧ fr.length ≤ 100 ∧ isRow fr r = true ∧ ∀ l H', isRow fr l = true → Ex M H H' → I H' → Q (.str (T l)) H'
theorem ok_bent (B : Bl mg) (G1 : Df P w K mg base 1 "_law_draw" ["_law_bag_here", "_law_sides"] [] (spDraw K)) (G2 : Df P w K mg base 2 "_law_of" ["_law_bag_here", "_law_things"] [] (spOf K)) (G3 : Df P w K mg base 2 "_law_row" ["_law_bag_here", "_law_frame_here", "_law_thin"] [.int 2] (spRow K))
    (F : At K mg "_law_bent" s__law_bent ["_law_bag_here", "_law_frame_here", "_law_r"] []) : Df P w K mg base 3 "_law_bent" ["_law_bag_here", "_law_frame_here", "_law_r"] [] (spBent K) := by
  refine F.df sc__law_bent (fun vs H Q E h => ?_) (fun f cdv A outer s H vs Q E hr h => ⟨_, w__law_bent B G1 G2 G3 hr, ?_⟩)
  · obtain ⟨M, I, b, x, fr, r, _, _, _, rfl, _⟩ := h
    rfl
  · obtain ⟨M, I, b, x, fr, r, hw, hI, hB, rfl, hx, hfr, hf1, hf2, hrr, q⟩ := h
    have hrl := isRow_len hrr
    unfold t__law_bent
    walk_at "sx"
    refine ⟨M, I, b, 2, hw, hI, hB, rfl, by decide, by decide, fun k H1 hk e1 i1 => ?_⟩
    walk_at "sx"
    refine ifB (fun h => ?_) (fun h => ?_)
    · walk_at "sx"
      refine ⟨M, I, b, x, fr, 2, hw, i1, hB, rfl, hx.ex e1, hfr, hf2, fun l H2 hl e2 i2 => ?_⟩
      exact q l H2 hl (e1.trans e2) i2
    · walk_at "sx"
      refine len_R (hx.ex e1) (.inl rfl) ?_
      rw [List.length_map]
      walk_at "sx"
      refine ⟨M, I, b, _, hw, i1, hB, rfl, by omega, by omega, fun k2 H2 hk2 e2 i2 => ?_⟩
      have hk3 : k2 < fr.length := by omega
      walk_at "sx"
      refine sl_Tto (by walk_at "sz") ?_
      walk_at "sx"
      refine ix_R (n := k2) (e := eC fr[k2]) ((hx.ex e1).ex e2) (.inl rfl) (by simp [hk3]) fun v3 r3 => ?_
      walk_at "sx"
      refine ix_R (n := 1) r3 (.inr rfl) rfl fun v4 r4 => ?_
      cases rep_int r4
      walk_at "sx"
      refine sl_Tto (by walk_at "sz") ?_
      walk_at "sx"
      refine ⟨M, I, b, _, .str (T (46 :: ([48, 49, 50, 51] : List Nat).take fr[k2].2)), (46 :: ([48, 49, 50, 51] : List Nat).take fr[k2].2).map H03.e1, hw, i2, hB, rfl, .str _, rfl, by simp, by simp; omega, fun v e H3 he rv e3 i3 => ?_⟩
      obtain ⟨c, hc, rfl⟩ := List.mem_map.mp he
      cases rep_str rv
      walk_at "sx"
      have ei : (k2 : Int) + 1 = ((k2 + 1 : Nat) : Int) := by omega
      rw [ei]
      refine sl_Tfrom (by walk_at "sz") ?_
      walk_at "sx"
      have hc2 : c ∈ sgs fr[k2].2 := hc
      exact q (setAt r k2 c) H3 (setAt_row hrr (by simp [hk3]) hc2) ((e1.trans e2).trans e3) i3
def spPair (K : PySem.W.Frag) : Sp := fun vs H Q _ => ∃ (M : Addr → Prop) (I : Hp → Prop) (x y : List Nat), Wf M I ∧ I H ∧ vs = [.str (T x), .str (T y)] ∧ y.length = x.length ∧ x.length ≤ 1000 ∧ ∀ H', Ex M H H' → I H' → Q (.bl true) H'
theorem ok_pair_so (B : Bl mg) (G1 : Df P w K mg base 1 "_law_inner" ["_law_x", "_law_y"] [] (spIn K)) (G2 : Df P w K mg base 1 "_law_join" ["_law_x", "_law_y"] [] (spUni K)) (G3 : Df P w K mg base 1 "_law_lay" ["_law_newer_row", "_law_older_row"] [] (spLay K)) (G4 : Df P w K mg base 1 "_law_lot" ["_law_r"] [] (spLot K)) (G5 : Df P w K mg base 1 "_law_meet" ["_law_x", "_law_y"] [] (spAg K)) (G6 : Df P w K mg base 5 "_law_same" ["_law_found", "_law_due"] [] (spSame K 4))
    (G7 : Df P w K mg base 1 "agree" ["one", "other"] [] (spAg K)) (G8 : Df P w K mg base 2 "laid" ["rows"] [] (spLaid K)) (G9 : Df P w K mg base 1 "lot_of" ["row"] [] (spLot K)) (G10 : Df P w K mg base 1 "over" ["newer", "older"] [] (spLay K)) (G11 : Df P w K mg base 1 "union" ["one", "other"] [] (spUni K)) (G12 : Df P w K mg base 1 "within" ["one", "other"] [] (spIn K))
    (F : At K mg "_law_pair_so" s__law_pair_so ["_law_x", "_law_y"] []) : Df P w K mg base 6 "_law_pair_so" ["_law_x", "_law_y"] [] (spPair K) := by
  refine F.df sc__law_pair_so (fun vs H Q E h => ?_) (fun f cdv A outer s H vs Q E hr h => ⟨_, w__law_pair_so B G1 G2 G3 G4 G5 G6 G7 G8 G9 G10 G11 G12 hr, ?_⟩)
  · obtain ⟨M, I, x, y, _, _, rfl, _⟩ := h
    rfl
  · obtain ⟨M, I, x, y, hw, hI, rfl, hxy, hl, q⟩ := h
    have lx : (lot x).length = x.length := lot_len x
    have ly : (lot y).length = x.length := by rw [lot_len, hxy]
    have lxy : (lay x y).length = x.length := lay_len hxy
    unfold t__law_pair_so
    walk_at "sx"
    refine ⟨M, I, x, hw, hI, rfl, hl, fun H1 e1 i1 => ?_⟩
    walk_at "sx"
    refine ⟨M, I, y, hw, i1, rfl, by omega, fun H2 e2 i2 => ?_⟩
    walk_at "sx"
    refine ⟨M, I, x, y, hw, i2, rfl, hl, fun H3 e3 i3 => ?_⟩
    walk_at "sx"
    refine ⟨M, I, lot x, lot y, hw, i3, rfl, by omega, lotS_lot x, lotS_lot y, by omega, fun H4 e4 i4 => ?_⟩
    walk_at "sx"
    refine ⟨M, I, lot x, lot y, hw, i4, rfl, by omega, fun H5 e5 i5 => ?_⟩
    walk_at "sx"
    refine ⟨M, I, x, y, hw, i5, rfl, by omega, by omega, fun H6 e6 i6 => ?_⟩
    walk_at "sx"
    refine ⟨M, I, x, y, hw, i6, rfl, by omega, fun H7 e7 i7 => ?_⟩
    walk_at "sx"
    rename_i v8 H8 e8 i8 r8
    refine ⟨M, I, x, y, hw, i8, rfl, by omega, fun H9 e9 i9 => ?_⟩
    walk_at "sx"
    refine ⟨M, I, x, hw, i9, rfl, by omega, fun H10 e10 i10 => ?_⟩
    walk_at "sx"
    refine ⟨M, I, lot x, lot y, hw, i10, rfl, by omega, lotS_lot x, lotS_lot y, by omega, fun H11 e11 i11 => ?_⟩
    walk_at "sx"
    refine ⟨M, I, lot x, lot y, hw, i11, rfl, by omega, fun H12 e12 i12 => ?_⟩
    walk_at "sx"
    refine ⟨M, I, x, y, hw, i12, rfl, by omega, by omega, fun H13 e13 i13 => ?_⟩
    walk_at "sx"
    rename_i v14 H14 e14 i14 r14
    refine ⟨M, I, v14, _, [y, x], hw, i14, rfl, r14, .inl rfl, by simp, by simp, all_cons (by omega) (all_cons (by omega) all_nil), fun H15 e15 i15 => ?_⟩
    walk_at "sx"
    refine ⟨M, I, x, x, hw, i15, rfl, by omega, fun H16 e16 i16 => ?_⟩
    walk_at "sx"
    rename_i v17 H17 e17 i17 r17
    refine ⟨M, I, v17, _, [y], hw, i17, rfl, r17, .inl rfl, by simp, by simp, all_cons (by omega) all_nil, fun H18 e18 i18 => ?_⟩
    walk_at "sx"
    rename_i v19 H19 e19 i19 r19
    rw [lay_self] at r19
    have e8J := e9.trans (e10.trans (e11.trans (e12.trans (e13.trans (e14.trans (e15.trans (e16.trans (e17.trans (e18.trans e19)))))))))
    refine ⟨M, I, v19, v8, _, hw, i19, rfl, r19, r8.ex e8J, .inr (.inl ⟨_, .inl rfl, by simp, all_cons (fit_sc rfl _) (all_cons (fit_sc rfl _) (all_cons (fit_sc rfl _) (all_cons (fit_sc rfl _) (all_cons (fit_sc rfl _) (all_cons (fit_sc rfl _) (all_cons (fit_sc rfl _) (all_cons (fit_sc rfl _) all_nil)))))))⟩), fun H20 e20 i20 => ?_⟩
    walk_at "sx"
    refine ⟨M, I, x, y, hw, i20, rfl, by omega, fun H21 e21 i21 => ?_⟩
    walk_at "sx"
    refine ⟨M, I, lay x y, x, hw, i21, rfl, by omega, fun H22 e22 i22 => ?_⟩
    walk_at "sx"
    refine ⟨M, I, x, y, hw, i22, rfl, by omega, fun H23 e23 i23 => ?_⟩
    rw [lay_back hxy]
    walk_at "sx"
    refine ⟨M, I, _, _, _, hw, i23, rfl, .str _, .str _, fit_sc rfl _, fun H24 e24 i24 => ?_⟩
    walk_at "sx"
    refine ⟨M, I, x, y, hw, i24, rfl, by omega, fun H25 e25 i25 => ?_⟩
    walk_at "sx"
    refine ⟨M, I, lay x y, hw, i25, rfl, by omega, fun H26 e26 i26 => ?_⟩
    walk_at "sx"
    refine ⟨M, I, lot y, lot x, hw, i26, rfl, by omega, fun H27 e27 i27 => ?_⟩
    walk_at "sx"
    refine ⟨M, I, lot x, uni (lot y) (lot x), hw, i27, rfl, by rw [uni_len (by omega)]; omega, lotS_lot x, lotS_uni _ _, by omega, fun H28 e28 i28 => ?_⟩
    rw [in_uni hxy]
    walk_at "sx"
    refine ⟨M, I, x, y, hw, i28, rfl, by omega, fun H29 e29 i29 => ?_⟩
    walk_at "sx"
    refine ⟨M, I, x, lay x y, hw, i29, rfl, by omega, by omega, fun H30 e30 i30 => ?_⟩
    rw [ag_lay hxy]
    walk_at "sx"
    rename_i v31 H31 e31 i31 r31
    rw [lot_lay hxy] at r31
    refine ⟨M, I, lot x, lot y, hw, i31, rfl, by omega, fun H32 e32 i32 => ?_⟩
    walk_at "sx"
    rename_i v33 H33 e33 i33 r33
    refine ⟨M, I, v31, v33, _, hw, i33, rfl, r31.ex (e32.trans e33), r33, .inr (.inl ⟨_, .inl rfl, by simp, all_cons (fit_sc rfl _) (all_cons (fit_sc rfl _) (all_cons (fit_sc rfl _) all_nil))⟩), fun H34 e34 i34 => ?_⟩
    refine q H34 ?_ i34
    exact e1.trans (e2.trans (e3.trans (e4.trans (e5.trans (e6.trans (e7.trans (e8.trans (e8J.trans (e20.trans (e21.trans (e22.trans (e23.trans (e24.trans (e25.trans (e26.trans (e27.trans (e28.trans (e29.trans (e30.trans (e31.trans (e32.trans (e33.trans e34))))))))))))))))))))))
end


section
variable {P : Program} {w : World} {K : PySem.W.Frag} {mg : Str → Option Value} {base : Heap}
theorem fit_I (l : List Nat) (h : l.length ≤ 100000) (n : Nat) : fit (n + 1) (.lst (l.map eI)) :=
  .inr (.inl ⟨_, .inl rfl, by simpa using h, fun e he => by obtain ⟨s, _, rfl⟩ := List.mem_map.mp he; exact fit_sc rfl _⟩)
theorem reps_rg {M : Addr → Prop} {H : Hp} (n : Nat) : Reps K M H (rgV 0 (n : Nat)) ((List.range n).map eI) := by
  have e : rgV 0 (n : Nat) = (List.range n).map fun i => V.int (i : Nat) := by
    unfold rgV
    have e0 : ((n : Int) - 0).toNat = n := by omega
    rw [e0]
    exact List.map_congr_left fun i _ => by rw [Int.zero_add]
  rw [e]
  generalize List.range n = l
  induction l with
  | nil => exact .nil
  | cons a l ih => exact .cons (.int _) ih
def spCuts (K : PySem.W.Frag) : Sp := fun vs H Q _ => ∃ (M : Addr → Prop) (I : Hp → Prop) (b : Addr) (c : V) (fr : List (List Nat × Nat)) (x : List Nat), Wf M I ∧ I H ∧ HasBag M I b ∧ vs = [.ref b, c, .str (T x)] ∧ Rep K M H c (.lst (fr.map eC)) ∧ fr.length ≤ 100 ∧ x.length = fr.length ∧ ∀ H', Ex M H H' → I H' → Q (.bl true) H'
theorem ok_cuts_so (B : Bl mg) (G1 : Df P w K mg base 1 "_law_draw" ["_law_bag_here", "_law_sides"] [] (spDraw K)) (G2 : Df P w K mg base 1 "_law_lot" ["_law_r"] [] (spLot K)) (G3 : Df P w K mg base 2 "_law_mixed" ["_law_bag_here", "_law_things"] [] (spMixed K)) (G4 : Df P w K mg base 5 "_law_same" ["_law_found", "_law_due"] [] (spSame K 4)) (G5 : Df P w K mg base 1 "cut" ["row", "places"] [] (spCut K))
    (F : At K mg "_law_cuts_so" s__law_cuts_so ["_law_bag_here", "_law_frame_here", "_law_x"] []) : Df P w K mg base 6 "_law_cuts_so" ["_law_bag_here", "_law_frame_here", "_law_x"] [] (spCuts K) := by
  refine F.df sc__law_cuts_so (fun vs H Q E h => ?_) (fun f cdv A outer s H vs Q E hr h => ⟨_, w__law_cuts_so B G1 G2 G3 G4 G5 hr, ?_⟩)
  · obtain ⟨M, I, b, c, fr, x, _, _, _, rfl, _⟩ := h
    rfl
  · obtain ⟨M, I, b, c, fr, x, hw, hI, hB, rfl, hc, hf, hx, q⟩ := h
    unfold t__law_cuts_so
    walk_at "sx"
    refine len_R hc (.inl rfl) ?_
    rw [List.length_map]
    walk_at "sx"
    refine ⟨_, rfl, by omega, by omega, ?_⟩
    rw [Int.toNat_natCast]
    refine lc_rngS (K := K) hw hI (szOk (by omega)) (fun _ => rfl) (fun k d => d = eI k) ?_ ?_ ?_
    · intro L acc k H1 hL nL hk wf hi ex Qt qt
      walk_at "sx"
      refine ⟨_, _, b, 3, wf, hi, hB.add nL, rfl, by decide, by decide, fun k2 H2 hk2 e2 i2 => ?_⟩
      walk_at "sx"
      exact qt _ H2 i2 e2
    · intro L acc k H1 hL nL hk wf hi ex Qe qe
      rw [Int.zero_add]
      walk_at "sx"
      exact qe _ _ _ rfl (.int _) hi (Ex.refl _)
    intro L bs ds H1 hL sb a2 r1 e1 i1
    have ed : ds = bs.map eI := a2.eq
    subst ed
    have hbl : bs.length ≤ fr.length := by have := sb.length_le; simpa using this
    walk_at "sx"
    refine ⟨M, I, b, _, _, _, hw, i1, hB, rfl, r1, .inl rfl, by simp; omega, fun v2 es H2 pm r2 e2 i2 => ?_⟩
    obtain ⟨o, rfl, po⟩ := permI pm
    have hol : o.length ≤ fr.length := by rw [po.length_eq]; exact hbl
    have hom : ∀ k ∈ o, k < x.length := fun k hk => by
      have := sb.subset (po.mem_iff.mp hk)
      rw [hx]
      exact List.mem_range.mp this
    walk_at "sx"
    refine list_R hw i2 r2 (.inl rfl) fun v3 H3 e3 i3 r3 => ?_
    have cutJ : ∀ {v : V} {H : Hp} {ks : List Nat} {Q : VK} {σ : L2.St} {vs : List Nat} (hwp : ∀ v, wipe ((wipe σ vs).set 8 (some v)) vs = wipe σ vs) (hv2 : ∀ v, ((wipe σ vs).set 8 (some v))[2]? = some (some (.str (T x)))) (hv8 : ∀ v, ((wipe σ vs).set 8 (some v))[8]? = some (some v)), I H → Rep K M H v (.lst (ks.map eI)) → ks.length ≤ 1000 → (∀ k ∈ ks, k < x.length) → (∀ H', Ex M H H' → I H' → Q (.str (T (cutF x ks))) H') →
        srcR K (LcR (gName 8) tYes (tOp (rIx K) (tVar 2) (tVar 8)) vs σ fun y H1 => rJoin K (.str (T [])) [y] H1 Q) v H := by
      intro v H ks Q σ vs hwp hv2 hv8 i r hl hks q
      refine lc_srcM (as := ks) (enc := eI) (fun k => .str (T [x.getD k 46])) hw i r rfl (szOk (by omega)) hwp ?_ ?_
      · intro L acc k a v H hL ha rv wf hi ex Qe q
        cases rep_int rv
        have hk := hks a (List.mem_of_getElem? ha)
        refine sx_op (sx_var (hv2 _) (sx_var (hv8 _) ?_))
        refine ix_T (z := x.getD a 46) (by walk_at "sz") (by simp [List.getD_eq_getElem?_getD, hk]) ?_
        exact q _ _ (.str _) hi (Ex.refl _)
      · intro y H' rp ex hi
        exact join_1 _ rp (by omega) (q _ ex hi)
    walk_at "sx"
    refine cutJ (fun _ => rfl) (fun _ => rfl) (fun _ => rfl) i3 r3 (by omega) hom fun H4 e4 i4 => ?_
    walk_at "sx"
    refine cutJ (fun _ => rfl) (fun _ => rfl) (fun _ => rfl) i4 (r3.ex e4) (by omega) hom fun H5 e5 i5 => ?_
    walk_at "sx"
    have hcl : ∀ ks : List Nat, (cutF x ks).length = ks.length := fun ks => by simp [cutF]
    refine ⟨M, I, cutF x o, hw, i5, rfl, by rw [hcl]; omega, fun H6 e6 i6 => ?_⟩
    walk_at "sx"
    rename_i v7 H7 e7 i7 r7
    have e27 := e3.trans (e4.trans (e5.trans (e6.trans e7)))
    refine ⟨M, I, x, v2, _, o, hw, i7, rfl, r2.ex e27, .inl rfl, by omega, by omega, hom, fun H8 e8 i8 => ?_⟩
    walk_at "sx"
    refine ⟨M, I, x, hw, i8, rfl, by omega, fun H9 e9 i9 => ?_⟩
    walk_at "sx"
    have e29 := e27.trans (e8.trans e9)
    refine tup_L hw i9 (r2.ex e29) fun v10 H10 e10 i10 r10 => ?_
    walk_at "sx"
    refine ⟨M, I, lot x, v10, _, o, hw, i10, rfl, r10, .inr rfl, by omega, by rw [lot_len]; omega, fun k hk => by rw [lot_len]; exact hom k hk, fun H11 e11 i11 => ?_⟩
    walk_at "sx"
    refine lst_end (K := K) (ds := ([] : List Nat).map eI) hw i11 .nil (by decide) fun v12 H12 e12 i12 r12 => ?_
    walk_at "sx"
    refine ⟨M, I, x, v12, _, [], hw, i12, rfl, r12, .inl rfl, by simp, by omega, all_nil, fun H13 e13 i13 => ?_⟩
    walk_at "sx"
    refine sx_lstRg (sx_rg1 ?_)
    walk_at "sx"
    have e2D := e29.trans (e10.trans (e11.trans (e12.trans e13)))
    refine len_R ((hc.ex (e1.trans e2)).ex e2D) (.inl rfl) ?_
    rw [List.length_map]
    walk_at "sx"
    refine ⟨RgOk.of_le (by omega) (by omega) (by omega) (by omega), fun q14 hq14 => ?_⟩
    have s14 := same_upd (o := .lst (rgV 0 ((fr.length : Nat) : Int))) hq14
    have r14 : Rep K M (upd H13 q14 (.lst (rgV 0 ((fr.length : Nat) : Int)))) (.ref q14) (.lst ((List.range fr.length).map eI)) := .lst upd_same (hw.fresh i13 hq14) (reps_rg fr.length)
    have i14 := hw.same s14 i13
    have e14 := Ex.of (M := M) s14
    walk_at "sx"
    refine ⟨M, I, x, _, _, List.range fr.length, hw, i14, rfl, r14, .inl rfl, by simp; omega, by omega, fun k hk => by rw [hx]; exact List.mem_range.mp hk, fun H15 e15 i15 => ?_⟩
    rw [cut_lot, ← hx, cut_all]
    walk_at "sx"
    rename_i v16 H16 e16 i16 r16
    have e7G := e8.trans (e9.trans (e10.trans (e11.trans (e12.trans (e13.trans (e14.trans (e15.trans e16)))))))
    have e3G := e4.trans (e5.trans (e6.trans (e7.trans e7G)))
    refine rev_R hw i16 (r3.ex e3G) fun v17 H17 e17 i17 r17 => ?_
    walk_at "sx"
    refine sl_Lto (n := 1) hw i17 ((r3.ex e3G).ex e17) fun v18 H18 e18 i18 r18 => ?_
    refine add_LL hw i18 (r17.ex e18) r18 (szOk (by simp; omega)) fun v19 H19 e19 i19 r19 => ?_
    walk_at "sx"
    have e3J := e3G.trans (e17.trans (e18.trans e19))
    refine add_LL hw i19 r19 (r3.ex e3J) (szOk (by simp; omega)) fun v20 H20 e20 i20 r20 => ?_
    have et : ((o.map eI).reverse ++ (o.map eI).take 1 ++ o.map eI : List D) = (o.reverse ++ o.take 1 ++ o).map eI := by simp [List.map_append, List.map_reverse, List.map_take]
    rw [et] at r20
    have htm : ∀ k ∈ o.reverse ++ o.take 1 ++ o, k < x.length := fun k hk => by
      rcases List.mem_append.mp hk with hk | hk
      · rcases List.mem_append.mp hk with hk | hk
        · exact hom k (List.mem_reverse.mp hk)
        · exact hom k (List.mem_of_mem_take hk)
      · exact hom k hk
    have htl : (o.reverse ++ o.take 1 ++ o).length ≤ 1000 := by simp; omega
    generalize o.reverse ++ o.take 1 ++ o = tw at r20 htm htl
    walk_at "sx"
    refine ⟨M, I, x, v20, _, tw, hw, i20, rfl, r20, .inl rfl, htl, by omega, htm, fun H21 e21 i21 => ?_⟩
    walk_at "sx"
    refine cutJ (fun _ => rfl) (fun _ => rfl) (fun _ => rfl) i21 (r20.ex e21) htl htm fun H22 e22 i22 => ?_
    walk_at "sx"
    refine ⟨M, I, _, _, _, hw, i22, rfl, .str _, .str _, fit_sc rfl _, fun H23 e23 i23 => ?_⟩
    walk_at "sx"
    have eGN := e17.trans (e18.trans (e19.trans (e20.trans (e21.trans (e22.trans e23)))))
    refine ⟨M, I, v16, v7, _, hw, i23, rfl, r16.ex eGN, r7.ex (e7G.trans eGN), .inr (.inl ⟨_, .inl rfl, by simp, all_cons (fit_sc rfl _) (all_cons (fit_sc rfl _) (all_cons (fit_sc rfl _) (all_cons (fit_sc rfl _) all_nil)))⟩), fun H24 e24 i24 => ?_⟩
    walk_at "sx"
    have e3O := e3G.trans (eGN.trans e24)
    refine ⟨M, I, v2, v3, _, hw, i24, rfl, r2.ex (e3.trans e3O), r3.ex e3O, fit_I o (by omega) 3, fun H25 e25 i25 => ?_⟩
    refine q H25 ?_ i25
    exact e1.trans (e2.trans (e3.trans (e3O.trans e25)))
end


section
variable {P : Program} {w : World} {K : PySem.W.Frag} {mg : Str → Option Value} {base : Heap}
theorem rep43 (n : Nat) : (List.replicate n [43]).flatten = List.replicate n 43 := by
  induction n with
  | zero => rfl
  | succ n ih => simp [List.replicate_succ]
def spOrder (K : PySem.W.Frag) : Sp := fun vs H Q _ => ∃ (M : Addr → Prop) (I : Hp → Prop) (b : Addr) (x : V) (R : List (List Nat)) (n : Nat), Wf M I ∧ I H ∧ HasBag M I b ∧ vs = [.ref b, x, .int (n : Nat)] ∧ Rep K M H x (.lst (R.map eS)) ∧ R.length ≤ 100 ∧ (∀ r ∈ R, r.length ≤ 1000) ∧ n ≤ 1000 ∧ ∀ H', Ex M H H' → I H' → Q (.bl true) H'
theorem ord_rep {M : Addr → Prop} {H : Hp} {p : Addr} {S : List (List Nat)} (np : ¬ M p) (h : H p = some (.lst (S.map fun l => V.str (T l)))) : Rep K M H (.ref p) (.lst (S.map eS)) := .lst h np (reps_S S)
theorem ok_order_so (B : Bl mg) (G1 : Df P w K mg base 1 "_law_draw" ["_law_bag_here", "_law_sides"] [] (spDraw K)) (G2 : Df P w K mg base 1 "_law_lot" ["_law_r"] [] (spLot K)) (G3 : Df P w K mg base 2 "_law_lots" ["_law_told"] [] (spOrd K)) (G4 : Df P w K mg base 2 "_law_mixed" ["_law_bag_here", "_law_things"] [] (spMixed K)) (G5 : Df P w K mg base 5 "_law_same" ["_law_found", "_law_due"] [] (spSame K 4)) (G6 : Df P w K mg base 4 "ordered_lots" ["lots"] [] (spOrd K))
    (F : At K mg "_law_order_so" s__law_order_so ["_law_bag_here", "_law_rows_here", "_law_wide"] []) : Df P w K mg base 6 "_law_order_so" ["_law_bag_here", "_law_rows_here", "_law_wide"] [] (spOrder K) := by
  refine F.df sc__law_order_so (fun vs H Q E h => ?_) (fun f cdv A outer s H vs Q E hr h => ⟨_, w__law_order_so B G1 G2 G3 G4 G5 G6 hr, ?_⟩)
  · obtain ⟨M, I, b, x, R, n, _, _, _, rfl, _⟩ := h
    rfl
  · obtain ⟨M, I, b, x, R, n, hw, hI, hB, rfl, hx, hRl, hR, hn, q⟩ := h
    unfold t__law_order_so
    walk_at "sx"
    refine lc_srcM (as := R) (enc := eS) (fun r => eS (lot r)) hw hI hx rfl (szOk (by omega)) (fun _ => rfl) ?_ ?_
    · intro L acc k a v H hL ha rv wf hi ex Qe qe
      cases rep_str rv
      walk_at "sx"
      refine ⟨_, _, a, wf, hi, rfl, hR a (List.mem_of_getElem? ha), fun H2 e2 i2 => ?_⟩
      exact qe _ _ (.str _) i2 e2
    intro y1 H1 r1 e1 i1
    walk_at "sx"
    refine mul_Ti (by omega) (by decide) ?_
    rw [rep46]
    walk_at "sx"
    refine mul_Ti (by omega) (by decide) ?_
    rw [rep43]
    walk_at "sx"
    rename_i y2 H2 e2 i2 r2
    refine ⟨M, I, b, 3, hw, i2, hB, rfl, by decide, by decide, fun k3 H3 hk3 e3 i3 => ?_⟩
    walk_at "sx"
    refine sl_Lto hw i3 (r2.ex e3) fun y4 H4 e4 i4 r4 => ?_
    have e14 := e2.trans (e3.trans e4)
    have h2 : ([D.str (T (List.replicate n 46)), D.str (T (List.replicate n 43))].take k3) = (([List.replicate n 46, List.replicate n 43] : List (List Nat)).take k3).map eS := by rw [List.map_take]; rfl
    rw [h2] at r4
    have h1 : (R.map fun r => eS (lot r)) = (R.map lot).map eS := by rw [List.map_map]; rfl
    rw [h1] at r1
    have hlt : (([List.replicate n 46, List.replicate n 43] : List (List Nat)).take k3).length ≤ 2 := by rw [List.length_take]; simp; omega
    have hst : ∀ l ∈ ([List.replicate n 46, List.replicate n 43] : List (List Nat)).take k3, LotS l := fun l hl => by
      have hl := List.mem_of_mem_take hl
      simp only [List.mem_cons, List.not_mem_nil, or_false] at hl
      rcases hl with rfl | rfl
      · exact sg_rep _ _ (.inl rfl)
      · exact sg_rep _ _ (.inr rfl)
    refine add_LL hw i4 (r1.ex e14) r4 (szOk (by simp only [List.length_map]; omega)) fun y5 H5 e5 i5 r5 => ?_
    rw [← List.map_append] at r5
    have hLl : (R.map lot ++ ([List.replicate n 46, List.replicate n 43] : List (List Nat)).take k3).length ≤ 102 := by rw [List.length_append, List.length_map]; omega
    have hLs : ∀ l ∈ R.map lot ++ ([List.replicate n 46, List.replicate n 43] : List (List Nat)).take k3, LotS l := fun l hl => by
      rcases List.mem_append.mp hl with hl | hl
      · obtain ⟨r, _, rfl⟩ := List.mem_map.mp hl
        exact lotS_lot r
      · exact hst l hl
    generalize R.map lot ++ ([List.replicate n 46, List.replicate n 43] : List (List Nat)).take k3 = L at r5 hLl hLs
    clear h2 r4 hlt hst r2
    walk_at "sx"
    refine ⟨M, I, b, _, _, _, hw, i5, hB, rfl, r5, .inl rfl, by simp; omega, fun y6 es H6 pm r6 e6 i6 => ?_⟩
    obtain ⟨o, rfl, po⟩ := perm_map pm
    have hol : o.length ≤ 102 := by rw [po.length_eq]; exact hLl
    have hos : ∀ l ∈ o, LotS l := fun l hl => hLs l (po.mem_iff.mp hl)
    have e06 := e1.trans (e14.trans (e5.trans e6))
    walk_at "sx"
    refine list_R hw i6 r6 (.inl rfl) fun y7 H7 e7 i7 r7 => ?_
    walk_at "sx"
    refine ⟨M, I, y6, _, o, hw, i7, rfl, r6.ex e7, .inl rfl, by omega, hos, fun p8 H8 _ np8 hp8 e8 i8 => ?_⟩
    have r8 : Rep K M H8 (.ref p8) (.lst ((ordF gC o).map eS)) := ord_rep np8 hp8
    have hOl : (ordF gC o).length ≤ 102 := Nat.le_trans (ordF_len gC o) hol
    have hOs : ∀ l ∈ ordF gC o, LotS l := fun l hl => hos l (ordF_mem.mp hl)
    walk_at "sx"
    have r6_8 := r6.ex (e7.trans e8)
    refine ⟨M, I, y6, _, o, hw, i8, rfl, r6_8, .inl rfl, by omega, hos, fun p9 H9 _ np9 hp9 e9 i9 => ?_⟩
    have r9 : Rep K M H9 (.ref p9) (.lst ((ordF gC o).map eS)) := ord_rep np9 hp9
    walk_at "sx"
    refine tup_L hw i9 (r6_8.ex e9) fun y10 H10 e10 i10 r10 => ?_
    walk_at "sx"
    refine ⟨M, I, y10, _, o, hw, i10, rfl, r10, .inr rfl, by omega, hos, fun p11 H11 _ np11 hp11 e11 i11 => ?_⟩
    have r11 : Rep K M H11 (.ref p11) (.lst ((ordF gC o).map eS)) := ord_rep np11 hp11
    walk_at "sx"
    refine lst_end (K := K) (ds := ([] : List (List Nat)).map eS) hw i11 .nil (by decide) fun y12 H12 e12 i12 r12 => ?_
    walk_at "sx"
    refine ⟨M, I, y12, _, [], hw, i12, rfl, r12, .inl rfl, by simp, all_nil, fun p13 H13 _ np13 hp13 e13 i13 => ?_⟩
    rw [show ordF gC [] = [] by simp [ordF, dedup]] at hp13
    have r13 : Rep K M H13 (.ref p13) (.lst (([] : List (List Nat)).map eS)) := ord_rep np13 hp13
    walk_at "sx"
    have e9D := e10.trans (e11.trans (e12.trans e13))
    refine lst_end (K := K) hw i13 (.cons (r9.ex e9D) (.cons (r11.ex (e12.trans e13)) (.cons r13 .nil))) (szOk (by simp)) fun y14 H14 e14' i14 r14 => ?_
    walk_at "sx"
    refine lst_end (K := K) (ds := ([] : List (List Nat)).map eS) hw i14 .nil (by decide) fun y15 H15 e15 i15 r15 => ?_
    walk_at "sx"
    have e8F := e9.trans (e9D.trans (e14'.trans e15))
    refine lst_end (K := K) hw i15 (.cons (r8.ex e8F) (.cons (r8.ex e8F) (.cons r15 .nil))) (szOk (by simp)) fun y16 H16 e16 i16 r16 => ?_
    walk_at "sx"
    have f3 : fit 4 (.lst [.lst ((ordF gC o).map eS), .lst ((ordF gC o).map eS), .lst (([] : List (List Nat)).map eS)]) := .inr (.inl ⟨_, .inl rfl, by simp, all_cons (fit_S _ (by omega) 2).1 (all_cons (fit_S _ (by omega) 2).1 (all_cons (fit_S _ (by simp) 2).1 all_nil))⟩)
    refine ⟨M, I, y14, y16, _, hw, i16, rfl, r14.ex (e15.trans e16), r16, f3, fun H17 e17 i17 => ?_⟩
    have e8H := e8F.trans (e16.trans e17)
    walk_at "sx"
    refine ⟨M, I, y6, _, o, hw, i17, rfl, r6_8.ex e8H, .inl rfl, by omega, hos, fun p18 H18 hf18 np18 hp18 e18 i18 => ?_⟩
    walk_at "sx"
    refine ⟨tyv_l hp18, ?_⟩
    walk_at "sx"
    have w18 := hw.add p18 (.lst ((ordF gC o).map fun l => V.str (T l)))
    have i18' : Iq I p18 (.lst ((ordF gC o).map fun l => V.str (T l))) H18 := ⟨i18, hp18⟩
    refine app_mut hw np18 i18' (by simp; omega) fun H19 e19 w19 i19 => ?_
    have e17T : Ex (Mq M p18) H17 H19 := (Ex.wide e18).trans e19
    have e8Q : Ex M H8 H17 := e8H
    have r6T : Rep K (Mq M p18) H19 y6 (.lst (o.map eS)) := ((r6_8.ex e8Q).off hf18).ex e17T
    have r7T : Rep K (Mq M p18) H19 y7 (.lst (o.map eS)) := ((r7.ex (e8.trans e8Q)).off hf18).ex e17T
    have r8T : Rep K (Mq M p18) H19 (.ref p8) (.lst ((ordF gC o).map eS)) := ((r8.ex e8Q).off hf18).ex e17T
    walk_at "sx"
    refine ⟨_, _, y6, y7, _, w19, i19, rfl, r6T, r7T, (fit_S o (by omega) 3).1, fun H20 e20 i20 => ?_⟩
    walk_at "sx"
    refine ⟨_, _, .ref p8, _, ordF gC o, w19, i20, rfl, r8T.ex e20, .inl rfl, by omega, hOs, fun p21 H21 hf21 np21 hp21 e21 i21 => ?_⟩
    rw [ordF_self] at hp21
    have r21 : Rep K (Mq M p18) H21 (.ref p21) (.lst ((ordF gC o).map eS)) := ord_rep np21 hp21
    walk_at "sx"
    refine ⟨_, _, .ref p21, .ref p8, _, w19, i21, rfl, r21, r8T.ex (e20.trans e21), (fit_S _ (by omega) 3).1, fun H22 e22 i22 => ?_⟩
    refine q H22 ?_ i22.1
    have e0H : Ex M H H17 := e06.trans (e7.trans (e8.trans e8H))
    exact e0H.trans ((e17T.trans (e20.trans (e21.trans e22))).shut hf18)
end


section
variable {P : Program} {w : World} {K : PySem.W.Frag} {mg : Str → Option Value} {base : Heap}
abbrev eP : List Nat × List Nat → D := fun p => .tup [eS p.1, eS p.2]
theorem ok_law (B : Bl mg) (G1 : Df P w K mg base 1 "_law_bag" ["_law_script"] [] (spBag K)) (G2 : Df P w K mg base 3 "_law_bent" ["_law_bag_here", "_law_frame_here", "_law_r"] [] (spBent K)) (G3 : Df P w K mg base 6 "_law_cuts_so" ["_law_bag_here", "_law_frame_here", "_law_x"] [] (spCuts K)) (G4 : Df P w K mg base 4 "_law_frame" ["_law_bag_here", "_law_size", "_law_widest"] [] (spFrame K)) (G5 : Df P w K mg base 1 "_law_lay" ["_law_newer_row", "_law_older_row"] [] (spLay K)) (G6 : Df P w K mg base 2 "_law_of" ["_law_bag_here", "_law_things"] [] (spOf K)) (G7 : Df P w K mg base 6 "_law_order_so" ["_law_bag_here", "_law_rows_here", "_law_wide"] [] (spOrder K)) (G8 : Df P w K mg base 6 "_law_pair_so" ["_law_x", "_law_y"] [] (spPair K)) (G9 : Df P w K mg base 2 "_law_row" ["_law_bag_here", "_law_frame_here", "_law_thin"] [.int 2] (spRow K)) (G10 : Df P w K mg base 5 "_law_same" ["_law_found", "_law_due"] [] (spSame K 4)) (G11 : Df P w K mg base 1 "blank" ["many"] [] (spBlank K)) (G12 : Df P w K mg base 2 "laid" ["rows"] [] (spLaid K)) (G13 : Df P w K mg base 1 "over" ["newer", "older"] [] (spLay K))
    {f : Addr} {fd : FuncData} (F : FunD K "law" "law" (defArgs s_law) (defBody s_law) (defScope s_law) [] [] f fd) : FnOk P w K mg base (L2.CX P w) 7 f fd ["_law_script"] (spLaw K) := by
  refine F.ok sc_law (fun vs H Q E h => ?_) (fun cdv A outer s H vs Q E hr h => ⟨_, (w_law B G1 G2 G3 G4 G5 G6 G7 G8 G9 G10 G11 G12 G13 hr).nox, ?_⟩)
  · obtain ⟨a, ns, rfl, _⟩ := h
    rfl
  · obtain ⟨a, ns, rfl, ha, hns, q⟩ := h
    unfold t_law
    walk_at "sx"
    refine ⟨a, ns, rfl, ha, hns, fun b l H1 hbl bok => ?_⟩
    have hw := wfB (b := b) (l := l)
    have hB := hasB hbl
    have i1 : IB b l H1 := bok
    walk_at "sx"
    refine lst_end (K := K) (ds := ([2, 3, 4, 5, 7, 12, 1, 11, 3, 6] : List Nat).map eI) hw i1 (.cons (.int _) (.cons (.int _) (.cons (.int _) (.cons (.int _) (.cons (.int _) (.cons (.int _) (.cons (.int _) (.cons (.int _) (.cons (.int _) (.cons (.int _) .nil)))))))))) (szOk (by simp)) fun v2 H2 e2 i2 r2 => ?_
    walk_at "sx"
    refine ⟨_, _, b, v2, _, _, hw, i2, hB, rfl, r2, rfl, by simp, by simp, fun v3 e H3 he r3 e3 i3 => ?_⟩
    obtain ⟨n, rfl, hn1, hn2⟩ : ∃ n : Nat, e = .int (n : Nat) ∧ 1 ≤ n ∧ n ≤ 12 := by
      obtain ⟨n, hn, rfl⟩ := List.mem_map.mp he
      exact ⟨n, rfl, by simp only [List.mem_cons, List.not_mem_nil, or_false] at hn; omega⟩
    cases rep_int r3
    walk_at "sx"
    refine ⟨_, _, b, n, 4, hw, i3, hB, rfl, by omega, by decide, by decide, fun c fr H4 hfl hfr rc e4 i4 => ?_⟩
    walk_at "sx"
    refine ⟨_, _, b, c, fr, 2, hw, i4, hB, rfl, rc, hfr, by omega, fun x H5 hx e5 i5 => ?_⟩
    walk_at "sx"
    refine ⟨_, _, b, c, fr, x, hw, i5, hB, rfl, rc.ex e5, hfr, by omega, by omega, hx, fun y H6 hy e6 i6 => ?_⟩
    walk_at "sx"
    refine ⟨_, _, b, c, fr, y, hw, i6, hB, rfl, (rc.ex e5).ex e6, hfr, by omega, by omega, hy, fun z H7 hz e7 i7 => ?_⟩
    have lx := isRow_len hx
    have ly := isRow_len hy
    have lz := isRow_len hz
    have e47 := e5.trans (e6.trans e7)
    have rc7 := rc.ex e47
    walk_at "sx"
    refine len_R rc7 (.inl rfl) ?_
    rw [List.length_map]
    walk_at "sx"
    refine ⟨fr.length, rfl, by omega, ?_⟩
    walk_at "sx"
    refine ⟨0, rfl, by omega, ?_⟩
    walk_at "sx"
    refine ⟨12, rfl, by omega, ?_⟩
    walk_at "sx"
    refine lst_end (K := K) hw i7 (.cons (.str _) (.cons (.str _) (.cons (.str _) .nil))) (szOk (by simp)) fun v8 H8 e8 i8 r8 => ?_
    walk_at "sx"
    refine len_R (rc7.ex e8) (.inl rfl) ?_
    rw [List.length_map]
    refine mul_Ti (by omega) (by decide) ?_
    rw [rep46]
    walk_at "sx"
    refine mul_Ti (n := 12) (by omega) (by decide) ?_
    rw [rep46]
    walk_at "sx"
    refine lst_end (K := K) hw i8 (.cons (.str _) (.cons (.str _) (.cons (.str _) .nil))) (szOk (by simp)) fun v9 H9 e9 i9 r9 => ?_
    walk_at "sx"
    refine ⟨_, _, v8, v9, _, hw, i9, rfl, r8.ex e9, r9, .inr (.inl ⟨_, .inl rfl, by simp, all_cons (fit_sc rfl _) (all_cons (fit_sc rfl _) (all_cons (fit_sc rfl _) all_nil))⟩), fun H10 e10 i10 => ?_⟩
    walk_at "sx"
    refine tup_end (K := K) hw i10 (.cons (.str _) (.cons (.str _) .nil)) (szOk (by simp)) fun u1 G1' f1 j1 t1 => ?_
    walk_at "sx"
    refine tup_end (K := K) hw j1 (.cons (.str _) (.cons (.str _) .nil)) (szOk (by simp)) fun u2 G2' f2 j2 t2 => ?_
    walk_at "sx"
    refine tup_end (K := K) hw j2 (.cons (.str _) (.cons (.str _) .nil)) (szOk (by simp)) fun u3 G3' f3 j3 t3 => ?_
    walk_at "sx"
    refine tup_end (K := K) hw j3 (.cons (.str _) (.cons (.str _) .nil)) (szOk (by simp)) fun u4 G4' f4 j4 t4 => ?_
    walk_at "sx"
    refine lst_end (K := K) (ds := [(x, y), (y, x), (y, z), (z, x)].map eP) hw j4 (.cons (t1.ex (f2.trans (f3.trans f4))) (.cons (t2.ex (f3.trans f4)) (.cons (t3.ex f4) (.cons t4 .nil)))) (szOk (by simp)) fun v11 H11 e11 i11 r11 => ?_
    have e7B := e8.trans (e9.trans (e10.trans (f1.trans (f2.trans (f3.trans (f4.trans e11))))))
    have hps : ∀ p ∈ [(x, y), (y, x), (y, z), (z, x)], p.1.length = fr.length ∧ p.2.length = fr.length := all_cons ⟨lx, ly⟩ (all_cons ⟨ly, lx⟩ (all_cons ⟨ly, lz⟩ (all_cons ⟨lz, lx⟩ all_nil)))
    generalize [(x, y), (y, x), (y, z), (z, x)] = ps at r11 hps
    walk_at "sx"
    refine for_src (as := ps) (enc := eP) r11 rfl (fun k σ H2 => ∃ u, σ = [some (.ref a), some (.ref b), some c, some (.str (T x)), some (.str (T y)), some (.str (T z)), u, none, none, none] ∧ Ex (MB b l) H11 H2 ∧ IB b l H2)
      ⟨_, rfl, Ex.refl _, i11⟩ (fun k σ H h => by obtain ⟨_, _, h, _⟩ := h; exact h) ?_ ?_
    · rintro k p v σ H12 hp ⟨u, rfl, e12, i12⟩ rv
      obtain ⟨h1, h2⟩ := hps p (List.mem_of_getElem? hp)
      walk_at "sx"
      refine ix_R (n := 0) rv (.inr rfl) rfl fun v1 r1 => ?_
      cases rep_str r1
      walk_at "sx"
      refine ix_R (n := 1) rv (.inr rfl) rfl fun v2 r2 => ?_
      cases rep_str r2
      walk_at "sx"
      refine ⟨_, _, p.1, p.2, hw, i12, rfl, by omega, by omega, fun H13 e13 i13 => ?_⟩
      walk_at "sx"
      exact ⟨_, rfl, e12.trans e13, i13⟩
    rintro σ H12 ⟨u, rfl, e12, i12⟩
    have lyz : (lay y z).length = fr.length := by rw [lay_len (by omega)]; exact ly
    have lxy : (lay x y).length = fr.length := by rw [lay_len (by omega)]; exact lx
    walk_at "sx"
    refine ⟨_, _, y, z, hw, i12, rfl, by omega, fun H13 e13 i13 => ?_⟩
    walk_at "sx"
    refine ⟨_, _, x, lay y z, hw, i13, rfl, by omega, fun H14 e14 i14 => ?_⟩
    walk_at "sx"
    refine lst_end (K := K) (ds := [z, y, x].map eS) hw i14 (.cons (.str _) (.cons (.str _) (.cons (.str _) .nil))) (szOk (by simp)) fun v15 H15 e15 i15 r15 => ?_
    walk_at "sx"
    refine ⟨_, _, x, y, hw, i15, rfl, by omega, fun H16 e16 i16 => ?_⟩
    walk_at "sx"
    refine ⟨_, _, lay x y, z, hw, i16, rfl, by omega, fun H17 e17 i17 => ?_⟩
    walk_at "sx"
    refine ⟨_, _, y, z, hw, i17, rfl, by omega, fun H18 e18 i18 => ?_⟩
    walk_at "sx"
    refine ⟨_, _, x, lay y z, hw, i18, rfl, by omega, fun H19 e19 i19 => ?_⟩
    walk_at "sx"
    have e15J := e16.trans (e17.trans (e18.trans e19))
    have hzyx : ∀ s ∈ [z, y, x], s.length ≤ 1000 := all_cons (by omega) (all_cons (by omega) (all_cons (by omega) all_nil))
    refine ⟨_, _, v15, _, [z, y, x], hw, i19, rfl, r15.ex e15J, .inl rfl, by simp, by simp, hzyx, fun H20 e20 i20 => ?_⟩
    walk_at "sx"
    refine tup_end (K := K) (ds := [z, y, x].map eS) hw i20 (.cons (.str _) (.cons (.str _) (.cons (.str _) .nil))) (szOk (by simp)) fun v21 H21 e21 i21 r21 => ?_
    walk_at "sx"
    refine ⟨_, _, v21, _, [z, y, x], hw, i21, rfl, r21, .inr rfl, by simp, by simp, hzyx, fun H22 e22 i22 => ?_⟩
    walk_at "sx"
    refine lst_end (K := K) hw i22 (.cons (.str _) (.cons (.str _) (.cons (.str _) (.cons (.str _) .nil)))) (szOk (by simp)) fun v23 H23 e23 i23 r23 => ?_
    walk_at "sx"
    refine lst_end (K := K) hw i23 (.cons (.str _) (.cons (.str _) (.cons (.str _) (.cons (.str _) .nil)))) (szOk (by simp)) fun v24 H24 e24 i24 r24 => ?_
    rw [lay_ass (by omega) (by omega), show laidF [z, y, x] = lay x (lay y z) from rfl] at r23
    walk_at "sx"
    refine ⟨_, _, v23, v24, _, hw, i24, rfl, r23.ex e24, r24, .inr (.inl ⟨_, .inl rfl, by simp, all_cons (fit_sc rfl _) (all_cons (fit_sc rfl _) (all_cons (fit_sc rfl _) (all_cons (fit_sc rfl _) all_nil)))⟩), fun H25 e25 i25 => ?_⟩
    walk_at "sx"
    refine lst_end (K := K) (ds := [z, y, x].map eS) hw i25 (.cons (.str _) (.cons (.str _) (.cons (.str _) .nil))) (szOk (by simp)) fun v26 H26 e26 i26 r26 => ?_
    walk_at "sx"
    have e15Q := e15J.trans (e20.trans (e21.trans (e22.trans (e23.trans (e24.trans (e25.trans e26))))))
    refine ⟨_, _, v15, v26, _, hw, i26, rfl, r15.ex e15Q, r26, (fit_S [z, y, x] (by simp) 3).1, fun H27 e27 i27 => ?_⟩
    walk_at "sx"
    refine lst_end (K := K) (ds := [x, z, y, x, z].map eS) hw i27 (.cons (.str _) (.cons (.str _) (.cons (.str _) (.cons (.str _) (.cons (.str _) .nil))))) (szOk (by simp)) fun v28 H28 e28 i28 r28 => ?_
    walk_at "sx"
    refine ⟨_, _, v28, _, [x, z, y, x, z], hw, i28, rfl, r28, .inl rfl, by simp, by simp, all_cons (by omega) (all_cons (by omega) (all_cons (by omega) (all_cons (by omega) (all_cons (by omega) all_nil)))), fun H29 e29 i29 => ?_⟩
    rw [show laidF [x, z, y, x, z] = lay z (lay x (lay y (lay z x))) from rfl, lay_five (by omega) (by omega)]
    walk_at "sx"
    refine ⟨_, _, x, y, hw, i29, rfl, by omega, fun H30 e30 i30 => ?_⟩
    walk_at "sx"
    refine ⟨_, _, z, lay x y, hw, i30, rfl, by omega, fun H31 e31 i31 => ?_⟩
    walk_at "sx"
    refine ⟨_, _, _, _, _, hw, i31, rfl, .str _, .str _, fit_sc rfl _, fun H32 e32 i32 => ?_⟩
    walk_at "sx"
    refine ⟨_, rfl, by decide, by decide, ?_⟩
    have e7W := e7B.trans (e12.trans (e13.trans (e14.trans (e15.trans (e15Q.trans (e27.trans (e28.trans (e29.trans (e30.trans (e31.trans e32))))))))))
    have rcW := rc7.ex e7W
    have ldue : (lay x (lay y z)).length = fr.length := by rw [lay_len (by omega)]; exact lx
    refine for_rng (fun k σ H33 => ∃ u6 u9, σ = [some (.ref a), some (.ref b), some c, some (.str (T x)), some (.str (T y)), some (.str (T z)), u6, some (.str (T (lay x (lay y z)))), some v15, u9] ∧ IB b l H33 ∧ Ex (MB b l) H32 H33)
      ⟨_, _, rfl, i32, Ex.refl _⟩ ?_ ?_
    · rintro k σ H33 hk ⟨u6, u9, rfl, i33, e33⟩
      walk_at "sx"
      refine lst_end (K := K) (ds := [x, lay x (lay y z)].map eS) hw i33 (.cons (.str _) (.cons (.str _) .nil)) (szOk (by simp)) fun v34 H34 e34 i34 r34 => ?_
      walk_at "sx"
      rw [Int.zero_add]
      obtain ⟨t, ht, hxt⟩ : ∃ t, ([x, lay x (lay y z)].map eS)[k]? = some (eS t) ∧ t.length = fr.length := by
        have hk : k < 2 := hk
        rcases (by omega : k = 0 ∨ k = 1) with rfl | rfl
        · exact ⟨x, rfl, lx⟩
        · exact ⟨_, rfl, ldue⟩
      refine ix_R (n := k) r34 (.inl rfl) ht fun v35 r35 => ?_
      cases rep_str r35
      walk_at "sx"
      refine ⟨_, _, b, c, fr, t, hw, i34, hB, rfl, (rcW.ex e33).ex e34, by omega, hxt, fun H36 e36 i36 => ?_⟩
      walk_at "sx"
      exact ⟨_, _, rfl, i36, e33.trans (e34.trans e36)⟩
    · rintro σ H33 ⟨u6, u9, rfl, i33, e33⟩
      walk_at "sx"
      refine ⟨_, _, b, c, fr, 2, hw, i33, hB, rfl, rcW.ex e33, hfr, by omega, fun r H34 hr2 e34 i34 => ?_⟩
      walk_at "sx"
      refine ⟨_, _, z, x, hw, i34, rfl, by omega, fun H35 e35 i35 => ?_⟩
      walk_at "sx"
      have lr := isRow_len hr2
      have lzx : (lay z x).length = fr.length := by rw [lay_len (by omega)]; exact lz
      refine lst_end (K := K) (ds := [x, y, z, lay x (lay y z), r, lay z x, x].map eS) hw i35 (.cons (.str _) (.cons (.str _) (.cons (.str _) (.cons (.str _) (.cons (.str _) (.cons (.str _) (.cons (.str _) .nil))))))) (szOk (by simp)) fun v36 H36 e36 i36 r36 => ?_
      walk_at "sx"
      refine len_R (((rcW.ex e33).ex e34).ex (e35.trans e36)) (.inl rfl) ?_
      rw [List.length_map]
      walk_at "sx"
      refine ⟨_, _, b, v36, [x, y, z, lay x (lay y z), r, lay z x, x], fr.length, hw, i36, hB, rfl, r36, by simp, all_cons (by omega) (all_cons (by omega) (all_cons (by omega) (all_cons (by omega) (all_cons (by omega) (all_cons (by omega) (all_cons (by omega) all_nil)))))), by omega, fun H37 e37 i37 => ?_⟩
      exact q H37
end


end H03
set_option maxHeartbeats 0
namespace Hd03
open PySem PySem.Spec PyProof.Rows Nt G03
open L2 hiding rLen
def d_over : He.DefD := ⟨("over", none), "over", "over", defArgs G03.s_over, defBody G03.s_over, defScope G03.s_over, [], []⟩
def d_laid : He.DefD := ⟨("laid", none), "laid", "laid", defArgs G03.s_laid, defBody G03.s_laid, defScope G03.s_laid, [], []⟩
def d_lot_of : He.DefD := ⟨("lot_of", none), "lot_of", "lot_of", defArgs G03.s_lot_of, defBody G03.s_lot_of, defScope G03.s_lot_of, [], []⟩
def d_blank : He.DefD := ⟨("blank", none), "blank", "blank", defArgs G03.s_blank, defBody G03.s_blank, defScope G03.s_blank, [], []⟩
def d_within : He.DefD := ⟨("within", none), "within", "within", defArgs G03.s_within, defBody G03.s_within, defScope G03.s_within, [], []⟩
def d_union : He.DefD := ⟨("union", none), "union", "union", defArgs G03.s_union, defBody G03.s_union, defScope G03.s_union, [], []⟩
def d_agree : He.DefD := ⟨("agree", none), "agree", "agree", defArgs G03.s_agree, defBody G03.s_agree, defScope G03.s_agree, [], []⟩
def d_cut : He.DefD := ⟨("cut", none), "cut", "cut", defArgs G03.s_cut, defBody G03.s_cut, defScope G03.s_cut, [], []⟩
def d_lot_size : He.DefD := ⟨("lot_size", none), "lot_size", "lot_size", defArgs G03.s_lot_size, defBody G03.s_lot_size, defScope G03.s_lot_size, [], []⟩
def d_ordered_lots : He.DefD := ⟨("ordered_lots", none), "ordered_lots", "ordered_lots", defArgs G03.s_ordered_lots, defBody G03.s_ordered_lots, defScope G03.s_ordered_lots, [], []⟩
def d__law_bag : He.DefD := ⟨("_law_bag", none), "_law_bag", "_law_bag", defArgs G03.s__law_bag, defBody G03.s__law_bag, defScope G03.s__law_bag, [], []⟩
def d__law_draw : He.DefD := ⟨("_law_draw", none), "_law_draw", "_law_draw", defArgs G03.s__law_draw, defBody G03.s__law_draw, defScope G03.s__law_draw, [], []⟩
def d__law_of : He.DefD := ⟨("_law_of", none), "_law_of", "_law_of", defArgs G03.s__law_of, defBody G03.s__law_of, defScope G03.s__law_of, [], []⟩
def d__law_mixed : He.DefD := ⟨("_law_mixed", none), "_law_mixed", "_law_mixed", defArgs G03.s__law_mixed, defBody G03.s__law_mixed, defScope G03.s__law_mixed, [], []⟩
def d__law_same : He.DefD := ⟨("_law_same", none), "_law_same", "_law_same", defArgs G03.s__law_same, defBody G03.s__law_same, defScope G03.s__law_same, [], []⟩
def d__law_title : He.DefD := ⟨("_law_title", none), "_law_title", "_law_title", defArgs G03.s__law_title, defBody G03.s__law_title, defScope G03.s__law_title, [], []⟩
def d__law_frame : He.DefD := ⟨("_law_frame", none), "_law_frame", "_law_frame", defArgs G03.s__law_frame, defBody G03.s__law_frame, defScope G03.s__law_frame, [], []⟩
def d__law_row : He.DefD := ⟨("_law_row", none), "_law_row", "_law_row", defArgs G03.s__law_row, defBody G03.s__law_row, defScope G03.s__law_row, [.int 2], []⟩
def d__law_once : He.DefD := ⟨("_law_once", none), "_law_once", "_law_once", defArgs G03.s__law_once, defBody G03.s__law_once, defScope G03.s__law_once, [], []⟩
def d__law_lay : He.DefD := ⟨("_law_lay", none), "_law_lay", "_law_lay", defArgs G03.s__law_lay, defBody G03.s__law_lay, defScope G03.s__law_lay, [], []⟩
def d__law_lot : He.DefD := ⟨("_law_lot", none), "_law_lot", "_law_lot", defArgs G03.s__law_lot, defBody G03.s__law_lot, defScope G03.s__law_lot, [], []⟩
def d__law_join : He.DefD := ⟨("_law_join", none), "_law_join", "_law_join", defArgs G03.s__law_join, defBody G03.s__law_join, defScope G03.s__law_join, [], []⟩
def d__law_inner : He.DefD := ⟨("_law_inner", none), "_law_inner", "_law_inner", defArgs G03.s__law_inner, defBody G03.s__law_inner, defScope G03.s__law_inner, [], []⟩
def d__law_lots : He.DefD := ⟨("_law_lots", none), "_law_lots", "_law_lots", defArgs G03.s__law_lots, defBody G03.s__law_lots, defScope G03.s__law_lots, [], []⟩
def d__law_meet : He.DefD := ⟨("_law_meet", none), "_law_meet", "_law_meet", defArgs G03.s__law_meet, defBody G03.s__law_meet, defScope G03.s__law_meet, [], []⟩
def d__law_bent : He.DefD := ⟨("_law_bent", none), "_law_bent", "_law_bent", defArgs G03.s__law_bent, defBody G03.s__law_bent, defScope G03.s__law_bent, [], []⟩
def d__law_pair_so : He.DefD := ⟨("_law_pair_so", none), "_law_pair_so", "_law_pair_so", defArgs G03.s__law_pair_so, defBody G03.s__law_pair_so, defScope G03.s__law_pair_so, [], []⟩
def d__law_cuts_so : He.DefD := ⟨("_law_cuts_so", none), "_law_cuts_so", "_law_cuts_so", defArgs G03.s__law_cuts_so, defBody G03.s__law_cuts_so, defScope G03.s__law_cuts_so, [], []⟩
def d__law_order_so : He.DefD := ⟨("_law_order_so", none), "_law_order_so", "_law_order_so", defArgs G03.s__law_order_so, defBody G03.s__law_order_so, defScope G03.s__law_order_so, [], []⟩
def d_law : He.DefD := ⟨("law", none), "law", "law", defArgs G03.s_law, defBody G03.s_law, defScope G03.s_law, [], []⟩
def fn : List He.DefD := [d_over, d_laid, d_lot_of, d_blank, d_within, d_union, d_agree, d_cut, d_lot_size, d_ordered_lots, d__law_bag, d__law_draw, d__law_of, d__law_mixed, d__law_same, d__law_title, d__law_frame, d__law_row, d__law_once, d__law_lay, d__law_lot, d__law_join, d__law_inner, d__law_lots, d__law_meet, d__law_bent, d__law_pair_so, d__law_cuts_so, d__law_order_so, d_law]
def fa0 : List He.Fa := [.glo "over", .glo "laid", .glo "lot_of", .glo "blank", .glo "within", .glo "union", .glo "agree", .glo "cut", .glo "lot_size", .glo "ordered_lots", .glo "_law_bag", .glo "_law_draw", .glo "_law_of", .glo "_law_mixed", .glo "_law_same", .glo "_law_title", .glo "_law_frame", .glo "_law_row", .glo "_law_once", .glo "_law_lay", .glo "_law_lot", .glo "_law_join", .glo "_law_inner", .glo "_law_lots", .glo "_law_meet", .glo "_law_bent", .glo "_law_pair_so", .glo "_law_cuts_so", .glo "_law_order_so", .glo "law"]
def fa1 : List He.Fa := [.free "abs", .free "all", .free "bool", .free "dict", .free "int", .free "isinstance", .free "len", .free "list", .free "range", .free "set", .free "sorted", .free "str", .free "tuple", .free "zip"]
def fa : List He.Fa := fa0 ++ fa1
def loose0 : List Str := ["over", "laid", "lot_of", "blank", "within", "union", "agree", "cut", "lot_size", "ordered_lots", "_law_bag", "_law_draw", "_law_of", "_law_mixed", "_law_same", "_law_title", "_law_frame", "_law_row", "_law_once", "_law_lay", "_law_lot", "_law_join", "_law_inner", "_law_lots", "_law_meet", "_law_bent", "_law_pair_so", "_law_cuts_so", "_law_order_so"]
def loose : List Str := loose0
abbrev R : PySem.W.OpenRow := PySem.W.OpenLaw.row PySem.Challenge.rw_newesttells_k03_whole_rows_laid_over
abbrev hk : PySem.W.Hook := He.hookD 4 fa fn
def ob (s : PySem.W.SharedT) : He.AlD := He.obsDG 4 fa fn (HandSHeadRun.getT s)
theorem ob_eq (s : PySem.W.SharedT) : ob s = hk.obs s.abs := He.obsDG_eq (HandSHeadRun.getT_eq s)
theorem run (w : World) : HandSHeadRun.RunEq R (PySem.W.view R.prog [31]) hk ob 2000 loose w := by
  intro os
  kernel_rfl
section
variable {K : PySem.W.Frag} {h : Heap} {mg : Str → Option Value}
theorem at_over (X : K.In h) (G : h.Ns mainGlobals mg) (c : He.SaysD fa fn K) : At K mg "over" G03.s_over ["newer", "older"] [] := by
  obtain ⟨fd, F⟩ := c.def_ 0 (d := d_over) rfl
  refine ⟨He.glo_ok X G (c.fact 0 (f := .glo "over") rfl), fd, F, fun j hj => ?_⟩
  exact ⟨[], by cases j <;> exact .nil, F.bindsN fun _ _ _ _ _ _ us hl => match us, hl with | [_,_], _ => rfl⟩
theorem at_laid (X : K.In h) (G : h.Ns mainGlobals mg) (c : He.SaysD fa fn K) : At K mg "laid" G03.s_laid ["rows"] [] := by
  obtain ⟨fd, F⟩ := c.def_ 1 (d := d_laid) rfl
  refine ⟨He.glo_ok X G (c.fact 1 (f := .glo "laid") rfl), fd, F, fun j hj => ?_⟩
  exact ⟨[], by cases j <;> exact .nil, F.bindsN fun _ _ _ _ _ _ us hl => match us, hl with | [_], _ => rfl⟩
theorem at_lot_of (X : K.In h) (G : h.Ns mainGlobals mg) (c : He.SaysD fa fn K) : At K mg "lot_of" G03.s_lot_of ["row"] [] := by
  obtain ⟨fd, F⟩ := c.def_ 2 (d := d_lot_of) rfl
  refine ⟨He.glo_ok X G (c.fact 2 (f := .glo "lot_of") rfl), fd, F, fun j hj => ?_⟩
  exact ⟨[], by cases j <;> exact .nil, F.bindsN fun _ _ _ _ _ _ us hl => match us, hl with | [_], _ => rfl⟩
theorem at_blank (X : K.In h) (G : h.Ns mainGlobals mg) (c : He.SaysD fa fn K) : At K mg "blank" G03.s_blank ["many"] [] := by
  obtain ⟨fd, F⟩ := c.def_ 3 (d := d_blank) rfl
  refine ⟨He.glo_ok X G (c.fact 3 (f := .glo "blank") rfl), fd, F, fun j hj => ?_⟩
  exact ⟨[], by cases j <;> exact .nil, F.bindsN fun _ _ _ _ _ _ us hl => match us, hl with | [_], _ => rfl⟩
theorem at_within (X : K.In h) (G : h.Ns mainGlobals mg) (c : He.SaysD fa fn K) : At K mg "within" G03.s_within ["one", "other"] [] := by
  obtain ⟨fd, F⟩ := c.def_ 4 (d := d_within) rfl
  refine ⟨He.glo_ok X G (c.fact 4 (f := .glo "within") rfl), fd, F, fun j hj => ?_⟩
  exact ⟨[], by cases j <;> exact .nil, F.bindsN fun _ _ _ _ _ _ us hl => match us, hl with | [_,_], _ => rfl⟩
theorem at_union (X : K.In h) (G : h.Ns mainGlobals mg) (c : He.SaysD fa fn K) : At K mg "union" G03.s_union ["one", "other"] [] := by
  obtain ⟨fd, F⟩ := c.def_ 5 (d := d_union) rfl
  refine ⟨He.glo_ok X G (c.fact 5 (f := .glo "union") rfl), fd, F, fun j hj => ?_⟩
  exact ⟨[], by cases j <;> exact .nil, F.bindsN fun _ _ _ _ _ _ us hl => match us, hl with | [_,_], _ => rfl⟩
theorem at_agree (X : K.In h) (G : h.Ns mainGlobals mg) (c : He.SaysD fa fn K) : At K mg "agree" G03.s_agree ["one", "other"] [] := by
  obtain ⟨fd, F⟩ := c.def_ 6 (d := d_agree) rfl
  refine ⟨He.glo_ok X G (c.fact 6 (f := .glo "agree") rfl), fd, F, fun j hj => ?_⟩
  exact ⟨[], by cases j <;> exact .nil, F.bindsN fun _ _ _ _ _ _ us hl => match us, hl with | [_,_], _ => rfl⟩
theorem at_cut (X : K.In h) (G : h.Ns mainGlobals mg) (c : He.SaysD fa fn K) : At K mg "cut" G03.s_cut ["row", "places"] [] := by
  obtain ⟨fd, F⟩ := c.def_ 7 (d := d_cut) rfl
  refine ⟨He.glo_ok X G (c.fact 7 (f := .glo "cut") rfl), fd, F, fun j hj => ?_⟩
  exact ⟨[], by cases j <;> exact .nil, F.bindsN fun _ _ _ _ _ _ us hl => match us, hl with | [_,_], _ => rfl⟩
theorem at_lot_size (X : K.In h) (G : h.Ns mainGlobals mg) (c : He.SaysD fa fn K) : At K mg "lot_size" G03.s_lot_size ["lot"] [] := by
  obtain ⟨fd, F⟩ := c.def_ 8 (d := d_lot_size) rfl
  refine ⟨He.glo_ok X G (c.fact 8 (f := .glo "lot_size") rfl), fd, F, fun j hj => ?_⟩
  exact ⟨[], by cases j <;> exact .nil, F.bindsN fun _ _ _ _ _ _ us hl => match us, hl with | [_], _ => rfl⟩
theorem at_ordered_lots (X : K.In h) (G : h.Ns mainGlobals mg) (c : He.SaysD fa fn K) : At K mg "ordered_lots" G03.s_ordered_lots ["lots"] [] := by
  obtain ⟨fd, F⟩ := c.def_ 9 (d := d_ordered_lots) rfl
  refine ⟨He.glo_ok X G (c.fact 9 (f := .glo "ordered_lots") rfl), fd, F, fun j hj => ?_⟩
  exact ⟨[], by cases j <;> exact .nil, F.bindsN fun _ _ _ _ _ _ us hl => match us, hl with | [_], _ => rfl⟩
theorem at__law_bag (X : K.In h) (G : h.Ns mainGlobals mg) (c : He.SaysD fa fn K) : At K mg "_law_bag" G03.s__law_bag ["_law_script"] [] := by
  obtain ⟨fd, F⟩ := c.def_ 10 (d := d__law_bag) rfl
  refine ⟨He.glo_ok X G (c.fact 10 (f := .glo "_law_bag") rfl), fd, F, fun j hj => ?_⟩
  exact ⟨[], by cases j <;> exact .nil, F.bindsN fun _ _ _ _ _ _ us hl => match us, hl with | [_], _ => rfl⟩
theorem at__law_draw (X : K.In h) (G : h.Ns mainGlobals mg) (c : He.SaysD fa fn K) : At K mg "_law_draw" G03.s__law_draw ["_law_bag_here", "_law_sides"] [] := by
  obtain ⟨fd, F⟩ := c.def_ 11 (d := d__law_draw) rfl
  refine ⟨He.glo_ok X G (c.fact 11 (f := .glo "_law_draw") rfl), fd, F, fun j hj => ?_⟩
  exact ⟨[], by cases j <;> exact .nil, F.bindsN fun _ _ _ _ _ _ us hl => match us, hl with | [_,_], _ => rfl⟩
theorem at__law_of (X : K.In h) (G : h.Ns mainGlobals mg) (c : He.SaysD fa fn K) : At K mg "_law_of" G03.s__law_of ["_law_bag_here", "_law_things"] [] := by
  obtain ⟨fd, F⟩ := c.def_ 12 (d := d__law_of) rfl
  refine ⟨He.glo_ok X G (c.fact 12 (f := .glo "_law_of") rfl), fd, F, fun j hj => ?_⟩
  exact ⟨[], by cases j <;> exact .nil, F.bindsN fun _ _ _ _ _ _ us hl => match us, hl with | [_,_], _ => rfl⟩
theorem at__law_mixed (X : K.In h) (G : h.Ns mainGlobals mg) (c : He.SaysD fa fn K) : At K mg "_law_mixed" G03.s__law_mixed ["_law_bag_here", "_law_things"] [] := by
  obtain ⟨fd, F⟩ := c.def_ 13 (d := d__law_mixed) rfl
  refine ⟨He.glo_ok X G (c.fact 13 (f := .glo "_law_mixed") rfl), fd, F, fun j hj => ?_⟩
  exact ⟨[], by cases j <;> exact .nil, F.bindsN fun _ _ _ _ _ _ us hl => match us, hl with | [_,_], _ => rfl⟩
theorem at__law_same (X : K.In h) (G : h.Ns mainGlobals mg) (c : He.SaysD fa fn K) : At K mg "_law_same" G03.s__law_same ["_law_found", "_law_due"] [] := by
  obtain ⟨fd, F⟩ := c.def_ 14 (d := d__law_same) rfl
  refine ⟨He.glo_ok X G (c.fact 14 (f := .glo "_law_same") rfl), fd, F, fun j hj => ?_⟩
  exact ⟨[], by cases j <;> exact .nil, F.bindsN fun _ _ _ _ _ _ us hl => match us, hl with | [_,_], _ => rfl⟩
theorem at__law_title (X : K.In h) (G : h.Ns mainGlobals mg) (c : He.SaysD fa fn K) : At K mg "_law_title" G03.s__law_title ["_law_bag_here", "_law_taken"] [] := by
  obtain ⟨fd, F⟩ := c.def_ 15 (d := d__law_title) rfl
  refine ⟨He.glo_ok X G (c.fact 15 (f := .glo "_law_title") rfl), fd, F, fun j hj => ?_⟩
  exact ⟨[], by cases j <;> exact .nil, F.bindsN fun _ _ _ _ _ _ us hl => match us, hl with | [_,_], _ => rfl⟩
theorem at__law_frame (X : K.In h) (G : h.Ns mainGlobals mg) (c : He.SaysD fa fn K) : At K mg "_law_frame" G03.s__law_frame ["_law_bag_here", "_law_size", "_law_widest"] [] := by
  obtain ⟨fd, F⟩ := c.def_ 16 (d := d__law_frame) rfl
  refine ⟨He.glo_ok X G (c.fact 16 (f := .glo "_law_frame") rfl), fd, F, fun j hj => ?_⟩
  exact ⟨[], by cases j <;> exact .nil, F.bindsN fun _ _ _ _ _ _ us hl => match us, hl with | [_,_,_], _ => rfl⟩
theorem at__law_row (X : K.In h) (G : h.Ns mainGlobals mg) (c : He.SaysD fa fn K) : At K mg "_law_row" G03.s__law_row ["_law_bag_here", "_law_frame_here", "_law_thin"] [.int 2] := by
  obtain ⟨fd, F⟩ := c.def_ 17 (d := d__law_row) rfl
  refine ⟨He.glo_ok X G (c.fact 17 (f := .glo "_law_row") rfl), fd, F, fun j hj => ?_⟩
  match j, hj with
  | 0, _ => exact FunD.binds1 F 2 0 nofun rfl fun _ _ _ _ _ _ _ us its h1 h2 => match us, its, h1, h2 with | [_,_], [_], _, _ => ⟨_, rfl, rfl⟩
  | 1, _ => exact FunD.binds1 F 3 1 nofun rfl fun _ _ _ _ _ _ _ us its h1 h2 => match us, its, h1, h2 with | [_,_,_], [_], _, _ => ⟨_, rfl, rfl⟩
  | j + 2, hj => exact absurd hj (by simp)
theorem at__law_once (X : K.In h) (G : h.Ns mainGlobals mg) (c : He.SaysD fa fn K) : At K mg "_law_once" G03.s__law_once ["_law_things"] [] := by
  obtain ⟨fd, F⟩ := c.def_ 18 (d := d__law_once) rfl
  refine ⟨He.glo_ok X G (c.fact 18 (f := .glo "_law_once") rfl), fd, F, fun j hj => ?_⟩
  exact ⟨[], by cases j <;> exact .nil, F.bindsN fun _ _ _ _ _ _ us hl => match us, hl with | [_], _ => rfl⟩
theorem at__law_lay (X : K.In h) (G : h.Ns mainGlobals mg) (c : He.SaysD fa fn K) : At K mg "_law_lay" G03.s__law_lay ["_law_newer_row", "_law_older_row"] [] := by
  obtain ⟨fd, F⟩ := c.def_ 19 (d := d__law_lay) rfl
  refine ⟨He.glo_ok X G (c.fact 19 (f := .glo "_law_lay") rfl), fd, F, fun j hj => ?_⟩
  exact ⟨[], by cases j <;> exact .nil, F.bindsN fun _ _ _ _ _ _ us hl => match us, hl with | [_,_], _ => rfl⟩
theorem at__law_lot (X : K.In h) (G : h.Ns mainGlobals mg) (c : He.SaysD fa fn K) : At K mg "_law_lot" G03.s__law_lot ["_law_r"] [] := by
  obtain ⟨fd, F⟩ := c.def_ 20 (d := d__law_lot) rfl
  refine ⟨He.glo_ok X G (c.fact 20 (f := .glo "_law_lot") rfl), fd, F, fun j hj => ?_⟩
  exact ⟨[], by cases j <;> exact .nil, F.bindsN fun _ _ _ _ _ _ us hl => match us, hl with | [_], _ => rfl⟩
theorem at__law_join (X : K.In h) (G : h.Ns mainGlobals mg) (c : He.SaysD fa fn K) : At K mg "_law_join" G03.s__law_join ["_law_x", "_law_y"] [] := by
  obtain ⟨fd, F⟩ := c.def_ 21 (d := d__law_join) rfl
  refine ⟨He.glo_ok X G (c.fact 21 (f := .glo "_law_join") rfl), fd, F, fun j hj => ?_⟩
  exact ⟨[], by cases j <;> exact .nil, F.bindsN fun _ _ _ _ _ _ us hl => match us, hl with | [_,_], _ => rfl⟩
theorem at__law_inner (X : K.In h) (G : h.Ns mainGlobals mg) (c : He.SaysD fa fn K) : At K mg "_law_inner" G03.s__law_inner ["_law_x", "_law_y"] [] := by
  obtain ⟨fd, F⟩ := c.def_ 22 (d := d__law_inner) rfl
  refine ⟨He.glo_ok X G (c.fact 22 (f := .glo "_law_inner") rfl), fd, F, fun j hj => ?_⟩
  exact ⟨[], by cases j <;> exact .nil, F.bindsN fun _ _ _ _ _ _ us hl => match us, hl with | [_,_], _ => rfl⟩
theorem at__law_lots (X : K.In h) (G : h.Ns mainGlobals mg) (c : He.SaysD fa fn K) : At K mg "_law_lots" G03.s__law_lots ["_law_told"] [] := by
  obtain ⟨fd, F⟩ := c.def_ 23 (d := d__law_lots) rfl
  refine ⟨He.glo_ok X G (c.fact 23 (f := .glo "_law_lots") rfl), fd, F, fun j hj => ?_⟩
  exact ⟨[], by cases j <;> exact .nil, F.bindsN fun _ _ _ _ _ _ us hl => match us, hl with | [_], _ => rfl⟩
theorem at__law_meet (X : K.In h) (G : h.Ns mainGlobals mg) (c : He.SaysD fa fn K) : At K mg "_law_meet" G03.s__law_meet ["_law_x", "_law_y"] [] := by
  obtain ⟨fd, F⟩ := c.def_ 24 (d := d__law_meet) rfl
  refine ⟨He.glo_ok X G (c.fact 24 (f := .glo "_law_meet") rfl), fd, F, fun j hj => ?_⟩
  exact ⟨[], by cases j <;> exact .nil, F.bindsN fun _ _ _ _ _ _ us hl => match us, hl with | [_,_], _ => rfl⟩
theorem at__law_bent (X : K.In h) (G : h.Ns mainGlobals mg) (c : He.SaysD fa fn K) : At K mg "_law_bent" G03.s__law_bent ["_law_bag_here", "_law_frame_here", "_law_r"] [] := by
  obtain ⟨fd, F⟩ := c.def_ 25 (d := d__law_bent) rfl
  refine ⟨He.glo_ok X G (c.fact 25 (f := .glo "_law_bent") rfl), fd, F, fun j hj => ?_⟩
  exact ⟨[], by cases j <;> exact .nil, F.bindsN fun _ _ _ _ _ _ us hl => match us, hl with | [_,_,_], _ => rfl⟩
theorem at__law_pair_so (X : K.In h) (G : h.Ns mainGlobals mg) (c : He.SaysD fa fn K) : At K mg "_law_pair_so" G03.s__law_pair_so ["_law_x", "_law_y"] [] := by
  obtain ⟨fd, F⟩ := c.def_ 26 (d := d__law_pair_so) rfl
  refine ⟨He.glo_ok X G (c.fact 26 (f := .glo "_law_pair_so") rfl), fd, F, fun j hj => ?_⟩
  exact ⟨[], by cases j <;> exact .nil, F.bindsN fun _ _ _ _ _ _ us hl => match us, hl with | [_,_], _ => rfl⟩
theorem at__law_cuts_so (X : K.In h) (G : h.Ns mainGlobals mg) (c : He.SaysD fa fn K) : At K mg "_law_cuts_so" G03.s__law_cuts_so ["_law_bag_here", "_law_frame_here", "_law_x"] [] := by
  obtain ⟨fd, F⟩ := c.def_ 27 (d := d__law_cuts_so) rfl
  refine ⟨He.glo_ok X G (c.fact 27 (f := .glo "_law_cuts_so") rfl), fd, F, fun j hj => ?_⟩
  exact ⟨[], by cases j <;> exact .nil, F.bindsN fun _ _ _ _ _ _ us hl => match us, hl with | [_,_,_], _ => rfl⟩
theorem at__law_order_so (X : K.In h) (G : h.Ns mainGlobals mg) (c : He.SaysD fa fn K) : At K mg "_law_order_so" G03.s__law_order_so ["_law_bag_here", "_law_rows_here", "_law_wide"] [] := by
  obtain ⟨fd, F⟩ := c.def_ 28 (d := d__law_order_so) rfl
  refine ⟨He.glo_ok X G (c.fact 28 (f := .glo "_law_order_so") rfl), fd, F, fun j hj => ?_⟩
  exact ⟨[], by cases j <;> exact .nil, F.bindsN fun _ _ _ _ _ _ us hl => match us, hl with | [_,_,_], _ => rfl⟩
theorem at_law (X : K.In h) (G : h.Ns mainGlobals mg) (c : He.SaysD fa fn K) : At K mg "law" G03.s_law ["_law_script"] [] := by
  obtain ⟨fd, F⟩ := c.def_ 29 (d := d_law) rfl
  refine ⟨He.glo_ok X G (c.fact 29 (f := .glo "law") rfl), fd, F, fun j hj => ?_⟩
  exact ⟨[], by cases j <;> exact .nil, F.bindsN fun _ _ _ _ _ _ us hl => match us, hl with | [_], _ => rfl⟩
theorem bl (X : K.In h) (G : h.Ns mainGlobals mg) (c : He.SaysD fa fn K) : G03.Bl mg := ⟨He.free_ok X G (c.fact 30 (f := .free "abs") rfl), He.free_ok X G (c.fact 31 (f := .free "all") rfl), He.free_ok X G (c.fact 32 (f := .free "bool") rfl), He.free_ok X G (c.fact 33 (f := .free "dict") rfl), He.free_ok X G (c.fact 34 (f := .free "int") rfl), He.free_ok X G (c.fact 35 (f := .free "isinstance") rfl), He.free_ok X G (c.fact 36 (f := .free "len") rfl), He.free_ok X G (c.fact 37 (f := .free "list") rfl), He.free_ok X G (c.fact 38 (f := .free "range") rfl), He.free_ok X G (c.fact 39 (f := .free "set") rfl), He.free_ok X G (c.fact 40 (f := .free "sorted") rfl), He.free_ok X G (c.fact 41 (f := .free "str") rfl), He.free_ok X G (c.fact 42 (f := .free "tuple") rfl), He.free_ok X G (c.fact 43 (f := .free "zip") rfl)⟩
end
end Hd03

namespace Hd03
open PySem PySem.Spec PyProof.Rows Nt G03
open L2 hiding rLen
theorem all_ok {P : Program} {w : World} {K : PySem.W.Frag} {h base : Heap} {mg : Str → Option Value} {f : Addr} {fd : FuncData} (X : K.In h) (G : h.Ns mainGlobals mg) (c : He.SaysD fa fn K) (F : FunD K "law" "law" (defArgs s_law) (defBody s_law) (defScope s_law) [] [] f fd) :
    FnOk P w K mg base (L2.CX P w) 7 f fd ["_law_script"] (H03.spLaw K) := by
  have B := bl X G c
  have h__law_bag := H03.ok_bag (P := P) (w := w) (base := base) B   (at__law_bag X G c)
  have h__law_draw := H03.ok_draw (P := P) (w := w) (base := base) B   (at__law_draw X G c)
  have h__law_of := H03.ok_of (P := P) (w := w) (base := base) B  h__law_draw (at__law_of X G c)
  have h__law_row := H03.ok_row (P := P) (w := w) (base := base) B  h__law_draw (at__law_row X G c)
  have h__law_bent := H03.ok_bent (P := P) (w := w) (base := base) B  h__law_draw h__law_of h__law_row (at__law_bent X G c)
  have h__law_lot := H03.ok_lot (P := P) (w := w) (base := base) B   (at__law_lot X G c)
  have h__law_mixed := H03.ok_mixed (P := P) (w := w) (base := base) B  h__law_draw (at__law_mixed X G c)
  have h__law_same := H03.ok_same (P := P) (w := w) (base := base) B  (at__law_same X G c) 4
  have h_cut := H03.ok_cut (P := P) (w := w) (base := base) B   (at_cut X G c)
  have h__law_cuts_so := H03.ok_cuts_so (P := P) (w := w) (base := base) B  h__law_draw h__law_lot h__law_mixed h__law_same h_cut (at__law_cuts_so X G c)
  have h__law_title := H03.ok_title (P := P) (w := w) (base := base) B  h__law_draw h__law_of (at__law_title X G c)
  have h__law_frame := H03.ok_frame (P := P) (w := w) (base := base) B  h__law_draw h__law_title (at__law_frame X G c)
  have h__law_lay := H03.ok_lay (P := P) (w := w) (base := base) B   (at__law_lay X G c)
  have h__law_once := H03.ok_once (P := P) (w := w) (base := base) B   (at__law_once X G c)
  have h__law_lots := H03.ok_lots (P := P) (w := w) (base := base) B  h__law_once (at__law_lots X G c)
  have h_ordered_lots := H03.ok_ordered_lots (P := P) (w := w) (base := base) B (at_lot_size X G c)  (at_ordered_lots X G c)
  have h__law_order_so := H03.ok_order_so (P := P) (w := w) (base := base) B  h__law_draw h__law_lot h__law_lots h__law_mixed h__law_same h_ordered_lots (at__law_order_so X G c)
  have h__law_inner := H03.ok_inner (P := P) (w := w) (base := base) B   (at__law_inner X G c)
  have h__law_join := H03.ok_join (P := P) (w := w) (base := base) B   (at__law_join X G c)
  have h__law_meet := H03.ok_meet (P := P) (w := w) (base := base) B   (at__law_meet X G c)
  have h_agree := H03.ok_agree (P := P) (w := w) (base := base) B   (at_agree X G c)
  have h_over := H03.ok_over (P := P) (w := w) (base := base) B   (at_over X G c)
  have h_laid := H03.ok_laid (P := P) (w := w) (base := base) B  h_over (at_laid X G c)
  have h_lot_of := H03.ok_lot_of (P := P) (w := w) (base := base) B   (at_lot_of X G c)
  have h_union := H03.ok_union (P := P) (w := w) (base := base) B   (at_union X G c)
  have h_within := H03.ok_within (P := P) (w := w) (base := base) B   (at_within X G c)
  have h__law_pair_so := H03.ok_pair_so (P := P) (w := w) (base := base) B  h__law_inner h__law_join h__law_lay h__law_lot h__law_meet h__law_same h_agree h_laid h_lot_of h_over h_union h_within (at__law_pair_so X G c)
  have h_blank := H03.ok_blank (P := P) (w := w) (base := base) B   (at_blank X G c)
  exact H03.ok_law (P := P) (w := w) (base := base) B  h__law_bag h__law_bent h__law_cuts_so h__law_frame h__law_lay h__law_of h__law_order_so h__law_pair_so h__law_row h__law_same h_blank h_laid h_over F
theorem facts {P : Program} {w : World} {K : PySem.W.Frag} {h : Heap} {mg : Str → Option Value} {f : Addr} (X : K.In h) (G : h.Ns mainGlobals mg) (hfa : mg ("law" : Str) = some (.ref f)) (c : He.SaysD fa fn K) :
    ∃ fd : FuncData, (∀ (s : Shared) (v : Value), BindsTo s fd ⟨[v], []⟩ [("_law_script", v)]) ∧ ∀ base : Heap, K.In base → base.Ns mainGlobals mg → FnOk P w K mg base (L2.CX P w) 7 f fd ["_law_script"] (H03.spLaw K) := by
  obtain ⟨fd, F⟩ := c.def_ 29 (d := d_law) rfl
  have e := hfa.symm.trans (He.glo_ok X G (c.fact 29 (f := .glo "law") rfl))
  cases e
  have b := FunD.bindsA (ps := ["_law_script"]) F fun _ _ _ _ _ _ us hl => match us, hl with | [_], _ => rfl
  exact ⟨fd, fun s v => b s [v] rfl, fun base _ _ => all_ok X G c F⟩
end Hd03
open PySem PySem.W PySem.Calls PyProof.Rows
theorem PySem.Challenge.cw_newesttells_k03_whole_rows_laid_over_holds : PySem.Challenge.rw_newesttells_k03_whole_rows_laid_over.Holds := by
  w_on; o_law
  refine HandSHeadRun.head_any (r := OpenLaw.row PySem.Challenge.rw_newesttells_k03_whole_rows_laid_over) (q := view (OpenLaw.row PySem.Challenge.rw_newesttells_k03_whole_rows_laid_over).prog [31]) (H := Hd03.hk) (ob := Hd03.ob) (M := 2000) (loose := Hd03.loose) (d := HandSHeadRun.topDef (OpenLaw.row PySem.Challenge.rw_newesttells_k03_whole_rows_laid_over).prog 31) (kwd := []) Hd03.ob_eq
    (by kernel_rfl) (fun s => by kernel_rfl) Hd03.run (by kernel_rfl) (by kernel_rfl) (by kernel_rfl) (by rfl) (by first | assumption | decide +kernel) (by decide +kernel) ⟨rfl, rfl, rfl, rfl, rfl, by decide +kernel⟩ ?hw ?hc
  case hw => w_witness2
  case hc =>
    refine Nt.law_walk (l := PySem.Challenge.rw_newesttells_k03_whole_rows_laid_over) (n := 63) (k := 7) (x := "_law_script") rfl (by decide) (by kernel_rfl) ⟨rfl, by decide, by decide⟩ ?F
    intro w mg fa h Y G hmg0
    obtain ⟨K, KX, c⟩ := Y
    have hmg : mg ("law" : PySem.Str) = some (.ref fa) := by
      have e : (HandSHeadRun.topDef (OpenLaw.row PySem.Challenge.rw_newesttells_k03_whole_rows_laid_over).prog 31).name = ("law" : PySem.Str) := by kernel_rfl
      rw [← e]
      exact hmg0
    obtain ⟨fd, hb, hF⟩ := Hd03.facts (P := (PySem.Challenge.rw_newesttells_k03_whole_rows_laid_over).prog) (w := w) KX G hmg c
    exact ⟨K, fd, H03.spLaw K, KX, hb, fun H a ns hl hS => ⟨a, ns, rfl, hS, hl, fun _ => rfl⟩, hF⟩

