import PyProof.Rows.All
import Wide.All
import OpenK.AllK
import Wide.FinOn
import KE.GoesEnum
import HandS.ForMost
import HandS.Walk
import HandS.Wide
import HandS.TupAny
import HandS.Defaults
import HandS.IsInst
import HandS.Words
import HandS.WordsList
import HandS.HeadEnd
import HandS.HeadHook1
import HandS.HeadHook2
import HandS.Exc
import HandS.TryOnly
import HandS.WordsExc
import HandS.Steps
import HandS.Style
import HandS.Flow
import HandS.Strs
import HandS.Deep
import HandS.Conv
import HandS.Dict
import HandS.Text
import HandS.Ends
import HandS.Set
import HandS.SetFor
import PyProof.Rows.SortShellAny
import PyProof.Rows.SetFrom
import KE.SortKeyHeap
import HandS.SortKw
import HandS.NamedTup0
import HandS.NamedTupGet
import PyProof.ListStr
import HandS.DictComp
import HandS.Property
import HandS.Star
import HandS.More
import PySem.Challenge.RW_newesttells_k08_whole_rows_by_closure
import KE.KStateDown
import Lean
import HandS.Head0
import HandS.Head1
import HandS.Head2
set_option Elab.async false
set_option linter.all false
set_option maxRecDepth 100000
set_option maxHeartbeats 8000000
namespace Nt
open PySem PySem.Spec PyProof.Rows L2
/-! ### what may be walked beside another one -/
inductive Src where
  | lst (a : Addr)
  | tup (a : Addr)
  | txt (z : Str)
def Src.v : Src → V
  | .lst a => .ref a
  | .tup a => .ref a
  | .txt z => .str z
def signs (z : Str) : List V := z.cps.toList.map fun c => .str ⟨#[c]⟩
def Src.has (K : PySem.W.Frag) (H : Hp) : Src → List V → Prop
  | .lst a, xs => SqL K H a xs
  | .tup a, xs => SqT K H a xs
  | .txt z, xs => xs = signs z
def Src.far (c : Addr) : Src → Prop
  | .lst a => a ≠ c
  | .tup a => a ≠ c
  | .txt _ => True
def Src.at_ (it : Addr) (i : Nat) (h : Heap) : Src → Prop
  | .lst a => h.IsListIter it a i
  | .tup a => h.IsTupleIter it a i
  | .txt z => ∃ t, h.IsStrIter it (strIterType z) z t i
def Src.fp (it : Addr) : Src → List Addr
  | .lst a => [it, a]
  | .tup a => [it, a]
  | .txt _ => [it]
theorem Src.mem_fp {it : Addr} : ∀ s : Src, it ∈ s.fp it
  | .lst _ => by simp [Src.fp]
  | .tup _ => by simp [Src.fp]
  | .txt _ => by simp [Src.fp]
theorem Src.not_fp {it c : Addr} (hi : c ≠ it) : ∀ s : Src, s.far c → c ∉ s.fp it
  | .lst _, h => by simp [Src.fp]; exact ⟨hi, fun e => h e.symm⟩
  | .tup _, h => by simp [Src.fp]; exact ⟨hi, fun e => h e.symm⟩
  | .txt _, _ => by simp [Src.fp]; exact hi
theorem Src.at_obj {it : Addr} {i : Nat} {h : Heap} : ∀ s : Src, s.at_ it i h → ∃ o, h.get? it = some o ∧ ∀ v, o.data ≠ .cell v
  | .lst _, ⟨o, e, _, d⟩ => ⟨o, e, fun v q => by rw [d] at q; cases q⟩
  | .tup _, ⟨o, e, _, d⟩ => ⟨o, e, fun v q => by rw [d] at q; cases q⟩
  | .txt _, ⟨_, o, e, _, d⟩ => ⟨o, e, fun v q => by rw [d] at q; cases q⟩
theorem Src.at_keep {it : Addr} {i : Nat} {h h' : Heap} (k : ∀ o, h.get? it = some o → h'.get? it = some o) : ∀ s : Src, s.at_ it i h → s.at_ it i h'
  | .lst _, x => Heap.IsListIter.at x k
  | .tup _, x => Heap.IsTupleIter.at x k
  | .txt _, ⟨t, o, e, r⟩ => ⟨t, o, k o e, r⟩
variable {X : Cx} {pins : List (Addr × Obj)} {σ : L2.St} {H : Hp} {s : Shared}
/-- what such a thing draws at a turn -/
structure Drawn (X : Cx) (s : Shared) (S : Src) (it : Addr) (i : Nat) (xs : List V) (P : Nat → Value → Prop) (T : Nat → Heap → Prop) : Prop where
  dr : ∀ A : Around, A.handled = none → Draws X.prog X.w A it (S.fp it) xs.length P T
  here : T i s.heap
  rel : ∀ j u, P j u → ∃ x, xs[j]? = some x ∧ RelV x u
  to : ∀ j h, T j h → S.at_ it j h
theorem drawn (I : Inv X pins σ H s) {S : Src} {it : Addr} {i : Nat} {xs : List V} (hs : S.has X.K H xs) (hf : S.far it) (ha : S.at_ it i s.heap) :
    ∃ P T, Drawn X s S it i xs P T := by
  cases S with
  | lst a =>
    obtain ⟨its, rv, p, hz⟩ := I.list hs
    have el : its.toArray.size = xs.length := by rw [List.size_toArray]; exact rv.length.symm
    refine ⟨fun i v => its.toArray[i]? = some v, fun i h => h.IsListIter it a i ∧ h.IsList a its.toArray, ⟨fun A hA => ?_, ⟨ha, p.isList⟩, fun j u e => ?_, fun j h z => z.1⟩⟩
    · rw [← el]
      exact Draws.list hA it a hf its.toArray
    · have e2 : its[j]? = some u := by simpa using e
      have hj : j < xs.length := by
        have := (List.getElem?_eq_some_iff.mp e2).1
        have := rv.length
        omega
      obtain ⟨u', e3, r⟩ := rv.get (i := j) (x := xs[j]) (by simp [hj])
      rw [e2] at e3
      cases e3
      exact ⟨xs[j], by simp [hj], r⟩
  | tup a =>
    obtain ⟨its, rv, p, hz⟩ := I.tuple hs
    have el : its.toArray.size = xs.length := by rw [List.size_toArray]; exact rv.length.symm
    refine ⟨fun i v => its.toArray[i]? = some v, fun i h => h.IsTupleIter it a i ∧ h.IsTuple a its.toArray, ⟨fun A hA => ?_, ⟨ha, p⟩, fun j u e => ?_, fun j h z => z.1⟩⟩
    · rw [← el]
      exact Draws.tuple hA it a hf its.toArray
    · have e2 : its[j]? = some u := by simpa using e
      have hj : j < xs.length := by
        have := (List.getElem?_eq_some_iff.mp e2).1
        have := rv.length
        omega
      obtain ⟨u', e3, r⟩ := rv.get (i := j) (x := xs[j]) (by simp [hj])
      rw [e2] at e3
      cases e3
      exact ⟨xs[j], by simp [hj], r⟩
  | txt z =>
    obtain ⟨t, ha⟩ := ha
    have hs : xs = signs z := hs
    subst hs
    have el : z.cps.size = (signs z).length := by simp [signs]
    refine ⟨fun i v => ∃ c u, z.cps[i]? = some c ∧ v = .str ⟨#[c]⟩ u, fun i h => h.IsStrIter it (strIterType z) z t i, ⟨fun A hA => ?_, ha, fun j u e => ?_, fun j h y => ⟨t, y⟩⟩⟩
    · rw [← el]
      exact Draws.text hA it z t
    · obtain ⟨c, q, e1, e2⟩ := e
      subst e2
      refine ⟨.str ⟨#[c]⟩, ?_, ⟨_, rfl⟩⟩
      simp [signs, e1]

/-! ### zip of two -/
def ItZ (K : PySem.W.Frag) (S1 S2 : Src) : It where
  go := fun i H => ∃ xs ys : List V, S1.has K H xs ∧ S2.has K H ys ∧ i < xs.length ∧ i < ys.length
  yld := fun i H v H' => ∃ T x y, v = .ref T ∧ H T = none ∧ H' = upd H T (.tup [x, y]) ∧ (∀ xs, S1.has K H xs → xs[i]? = some x) ∧ ∀ ys, S2.has K H ys → ys[i]? = some y
  stop := fun i H => ∃ xs ys : List V, S1.has K H xs ∧ S2.has K H ys ∧ i = min xs.length ys.length
theorem has_inj (I : Inv X pins σ H s) {S : Src} {xs ys : List V} (h : S.has X.K H xs) (h' : S.has X.K H ys) : xs = ys := by
  cases S with
  | lst a => exact I.list_inj h h'
  | tup a => exact I.tuple_inj h h'
  | txt z => exact Eq.trans h (Eq.symm h')
structure ZS (z TI TO i1 i2 : Addr) (S1 S2 : Src) : Prop where
  n1 : TI ≠ z
  n2 : TO ≠ z
  n3 : TI ≠ TO
  n4 : TI ≠ i1
  n5 : TI ≠ i2
  n6 : z ≠ i1
  n7 : z ≠ i2
  n8 : TO ≠ i1
  n9 : TO ≠ i2
  n0 : i1 ≠ i2
  a1 : S1.far z
  a2 : S1.far TO
  a3 : S1.far i1
  a4 : S1.far i2
  b1 : S2.far z
  b2 : S2.far TO
  b3 : S2.far i1
  b4 : S2.far i2
theorem ZS.sep {z TI TO i1 i2 : Addr} {S1 S2 : Src} (D : ZS z TI TO i1 i2 S1 S2) : ZipSep2 z TI TO i1 i2 (S1.fp i1) (S2.fp i2) where
  TIz := D.n1
  TOz := D.n2
  TITO := D.n3
  TIi1 := D.n4
  mem1 := S1.mem_fp
  zf1 := S1.not_fp D.n6 D.a1
  Tf1 := S1.not_fp D.n8 D.a2
  TIi2 := D.n5
  mem2 := S2.mem_fp
  zf2 := S2.not_fp D.n7 D.b1
  Tf2 := S2.not_fp D.n9 D.b2
  sep1_2 := S2.not_fp D.n0 D.b3
  sep2_1 := S1.not_fp (fun e => D.n0 e.symm) D.a4
theorem five {α : Type} {c a1 a2 a3 a4 a5 : α} : c ∈ [a1, a2, a3, a4, a5] ↔ c = a1 ∨ c = a2 ∨ c = a3 ∨ c = a4 ∨ c = a5 := by simp
def ZSt (S1 S2 : Src) (z TI TO i1 i2 : Addr) (i : Nat) (h : Heap) : Prop :=
  IsZip h z TI TO .none ∧ IsTupOf2 h TI (.ref i1) (.ref i2) ∧ (∃ x y, IsTupOf2 h TO x y) ∧ S1.at_ i1 i h ∧ S2.at_ i2 i h
theorem turn_zipS {P : Program} {w : World} {K : PySem.W.Frag} {elts : List Expr} {kk : Nat} {tpos : Pos} {S1 S2 : Src} {z TI TO i1 i2 : Addr} (D : ZS z TI TO i1 i2 S1 S2) :
    Turn P w K (.Tuple elts kk tpos) (ItZ K S1 S2) [z, TI, TO, i1, i2] z (ZSt S1 S2 z TI TO i1 i2) where
  mem := by simp
  obj := fun i h st c hc => by
    obtain ⟨q1, q2, ⟨x, y, q3⟩, q4, q5⟩ := st
    rcases five.mp hc with rfl | rfl | rfl | rfl | rfl
    · exact ⟨_, q1, nofun⟩
    · exact ⟨_, q2, nofun⟩
    · exact ⟨_, q3, nofun⟩
    · exact S1.at_obj q4
    · exact S2.at_obj q5
  keep := fun i h h' st k => by
    obtain ⟨q1, q2, ⟨x, y, q3⟩, q4, q5⟩ := st
    exact ⟨k z (by simp) _ q1, k TI (by simp) _ q2, ⟨x, y, k TO (by simp) _ q3⟩, S1.at_keep (k i1 (by simp)) q4, S2.at_keep (k i2 (by simp)) q5⟩
  item := by
    intro X hP hw hK hc i pins s σ H E I hf st hg
    subst hP hw hK
    obtain ⟨q1, q2, ⟨x0, y0, q3⟩, q4, q5⟩ := st
    obtain ⟨xs, ys, g1, g2, l1, l2⟩ := hg
    obtain ⟨P1, T1, D1⟩ := drawn I g1 D.a3 q4
    obtain ⟨P2, T2, D2⟩ := drawn I g2 D.b4 q5
    have hh : X.A.in1.handled = none := I.ok.hd hc
    have hzl : z < s.heap.objs.size := Heap.lt_size q1
    refine wpAny_pyNext_zipD2_item D.sep (D1.dr _ hh) (D2.dr _ hh) q1 q2 q3 D1.here D2.here l1 l2 fun u1 u2 h' tk p1 p2 z' TO' t1 t2 hT hsz hk => ?_
    obtain ⟨x, hx, r1⟩ := D1.rel _ _ p1
    obtain ⟨y, hy, r2⟩ := D2.rel _ _ p2
    refine ⟨_, rfl, wpAny_letOwnedTupleGo_zip (s := { s with heap := h', toks := tk }) z' fun h'' z'' sb => ?_⟩
    have hT2 : IsTupOf2 h'' s.heap.objs.size u1 u2 := (sb.2 _ (Nat.ne_of_gt hzl)).trans hT
    have new : ObjOk X.prog X.w (upd H s.heap.objs.size (.tup [x, y])) h'' s.heap.objs.size (.tup [x, y]) := by
      refine ⟨(by show 2 ≤ sizeLine; decide), [u1, u2], .cons r1 (.cons r2 .nil), ?_⟩
      exact ⟨_, hT2, rfl, _, rfl⟩
    have lt : ∀ c ∈ [z, TI, TO, i1, i2], c < s.heap.objs.size := fun c hcm => by
      rcases five.mp hcm with rfl | rfl | rfl | rfl | rfl
      · exact hzl
      · exact Heap.lt_size q2
      · exact Heap.lt_size q3
      · obtain ⟨_, e, _⟩ := S1.at_obj q4; exact Heap.lt_size e
      · obtain ⟨_, e, _⟩ := S2.at_obj q5; exact Heap.lt_size e
    have I1 : Inv X pins σ (upd H s.heap.objs.size (.tup [x, y])) { s with heap := h'', toks := tk } :=
      I.turnedNew (t' := tk) (ch := [z, TI, TO, i1, i2]) (fun c o hb q => by
        have hb' := fun e => hb (five.mpr e)
        exact (sb.2 c fun e => hb' (.inl e)).trans (hk c o (fun e => hb' (.inl e)) (fun e => hb' (.inr (.inr (.inl e)))) (fun e => hb' (.inr (.inr (.inr (.inl e))))) (fun e => hb' (.inr (.inr (.inr (.inr e))))) q)) hf (Nat.le_refl _) new
    refine ⟨.ref s.heap.objs.size, _, I1, rfl, ⟨_, x, y, rfl, I.hok.fresh (Nat.le_refl _), rfl, fun l hl => ?_, fun l hl => ?_⟩, ⟨z'', ?_, ⟨u1, u2, ?_⟩, ?_, ?_⟩, fun c hcm => ?_⟩
    · rw [has_inj I hl g1]; exact hx
    · rw [has_inj I hl g2]; exact hy
    · exact (sb.2 _ D.n1).trans (hk _ _ D.n1 D.n3 D.n4 D.n5 q2)
    · exact (sb.2 _ D.n2).trans TO'
    · exact S1.at_keep (fun o q => (sb.2 _ fun e => D.n6 e.symm).trans q) (D1.to _ _ t1)
    · exact S2.at_keep (fun o q => (sb.2 _ fun e => D.n7 e.symm).trans q) (D2.to _ _ t2)
    · rw [upd_ne (Nat.ne_of_lt (lt c hcm))]
      exact (hf c hcm).1
  done := by
    intro X hP hw hK hc i pins s σ H E I hf st hg
    subst hP hw hK
    obtain ⟨q1, q2, ⟨x0, y0, q3⟩, q4, q5⟩ := st
    obtain ⟨xs, ys, g1, g2, he⟩ := hg
    obtain ⟨P1, T1, D1⟩ := drawn I g1 D.a3 q4
    obtain ⟨P2, T2, D2⟩ := drawn I g2 D.b4 q5
    have hh : X.A.in1.handled = none := I.ok.hd hc
    refine wpAny_pyNext_zipD2_end D.sep (D1.dr _ hh) (D2.dr _ hh) q1 q2 q3 D1.here D2.here (by omega) (by omega) (by omega) fun h' tk hk => ⟨rfl, ?_⟩
    refine I.turnedL (t' := tk) (ch := [z, TI, TO, i1, i2]) (fun c o hb q => ?_) hf
    have hb' := fun e => hb (five.mpr e)
    exact hk c o (fun e => hb' (.inl e)) (fun e => hb' (.inr (.inr (.inl e)))) (fun e => hb' (.inr (.inr (.inr (.inl e))))) (fun e => hb' (.inr (.inr (.inr (.inr e))))) q
  self := fun A i s Q E st h => wpAny_pyIter_zip st.1 h
/-- how such a thing begins -/
theorem src_begins (I : Inv X pins σ H s) {S : Src} {xs : List V} {u : Value} (hs : S.has X.K H xs) (r : RelV S.v u) :
    ∃ o G, Begins u o G ∧ G s.heap ∧ (∀ h it, h.get? it = some o → S.at_ it 0 h) ∧ ∀ c, s.heap.objs.size ≤ c → S.far c := by
  cases S with
  | lst a =>
    obtain ⟨its, rv, p, hz⟩ := I.list hs
    have e : u = .ref a := r
    subst e
    exact ⟨_, _, begins_list a its.toArray, p.isList, fun h it e => ⟨_, e, rfl, rfl⟩, fun c hc => Nat.ne_of_lt (Nat.lt_of_lt_of_le p.lt hc)⟩
  | tup a =>
    obtain ⟨its, rv, p, hz⟩ := I.tuple hs
    have e : u = .ref a := r
    subst e
    obtain ⟨o1, ho1, _⟩ := id p
    exact ⟨_, _, begins_tuple a its.toArray, p, fun h it e => ⟨_, e, rfl, rfl⟩, fun c hc => Nat.ne_of_lt (Nat.lt_of_lt_of_le (Heap.lt_size ho1) hc)⟩
  | txt z =>
    obtain ⟨t, rfl⟩ := r
    exact ⟨_, _, begins_text z t, trivial, fun h it e => ⟨t, _, e, rfl, rfl⟩, fun c hc => trivial⟩
def zipR (K : PySem.W.Frag) (R : It → Hp → Prop) : List V → Hp → Prop := fun vs H1 => ∃ S1 S2 xs ys, vs = [Src.v S1, Src.v S2] ∧ S1.has K H1 xs ∧ S2.has K H1 ys ∧ R (ItZ K S1 S2) H1
def iZipS (K : PySem.W.Frag) (ta : TA) : TI := fun σ H R => ta σ H (zipR K R)
theorem pi_zipS {X : Cx} {e e2 : Expr} {ta : TA} {p pos tpos : Pos} {elts : List Expr} {kk : Nat} (hg : Gl X "zip") (hm : X.mg "zip" = none) (ha : PA X [e, e2] ta)
    (hs : starEach [e, e2] X.env = (false, eval e X.env) :: starEach [e2] X.env := by rfl) (hpl : (backTo pos (starEach [e2] X.env)).any (·.1) = false := by rfl) :
    PI X (.Tuple elts kk tpos) (.Call (.Name "zip" p) [e, e2] [] pos) (iZipS X.K ta) := by
  refine ⟨fun pins s σ H R I h => ?_⟩
  refine Call_ (ld_blt I hg hm PyProof.Rows.boot_zip (PyProof.Rows.callWith_type1 (thn (ha.run pos pins s σ H _ I h) fun us s1 ⟨vs, H1, I1, r1, q1⟩ => ?_) hs hpl))
  obtain ⟨S1, S2, xs, ys, rfl, h1, h2, q⟩ := q1
  obtain ⟨u1, u2, rfl, r1, r2⟩ := vals2 r1
  obtain ⟨o1, G1, B1, b1, t1, f1⟩ := src_begins I1 h1 r1
  obtain ⟨o2, G2, B2, b2, t2, f2⟩ := src_begins I1 h2 r2
  refine zip_begins2 B1 B2 b1 b2 fun h' hz hTI hTO e1 e2 hsz hk => wpAny_pyIter_zip hz ?_
  generalize hN : s1.heap.objs.size = N at *
  have I2 : Inv X pins σ H1 { s1 with heap := h' } := I1.kept (t' := s1.toks) hk
  have D : ZS (N + 4) (N + 2) (N + 3) N (N + 1) S1 S2 :=
    { n1 := Nat.ne_of_lt (Nat.lt_add_of_pos_right (n := N + 2) (k := 2) (by decide)), n2 := Nat.ne_of_lt (Nat.lt_add_of_pos_right (n := N + 3) (k := 1) (by decide)),
      n3 := Nat.ne_of_lt (Nat.lt_add_of_pos_right (n := N + 2) (k := 1) (by decide)), n4 := Nat.ne_of_gt (Nat.lt_add_of_pos_right (n := N) (k := 2) (by decide)),
      n5 := Nat.ne_of_gt (Nat.lt_add_of_pos_right (n := N + 1) (k := 1) (by decide)), n6 := Nat.ne_of_gt (Nat.lt_add_of_pos_right (n := N) (k := 4) (by decide)),
      n7 := Nat.ne_of_gt (Nat.lt_add_of_pos_right (n := N + 1) (k := 3) (by decide)), n8 := Nat.ne_of_gt (Nat.lt_add_of_pos_right (n := N) (k := 3) (by decide)),
      n9 := Nat.ne_of_gt (Nat.lt_add_of_pos_right (n := N + 1) (k := 2) (by decide)), n0 := Nat.ne_of_lt (Nat.lt_add_of_pos_right (n := N) (k := 1) (by decide)),
      a1 := f1 _ (Nat.le_add_right _ _), a2 := f1 _ (Nat.le_add_right _ _), a3 := f1 _ (Nat.le_refl _), a4 := f1 _ (Nat.le_add_right _ _),
      b1 := f2 _ (Nat.le_add_right _ _), b2 := f2 _ (Nat.le_add_right _ _), b3 := f2 _ (Nat.le_refl _), b4 := f2 _ (Nat.le_add_right _ _) }
  refine ⟨N + 4, [N + 4, N + 2, N + 3, N, N + 1], _, _, H1, rfl, I2, turn_zipS D, ⟨hz, hTI, ⟨_, _, hTO⟩, t1 _ _ e1, t2 _ _ e2⟩, fun c hcm => ?_, q⟩
  have hle : s1.heap.objs.size ≤ c := by
    rw [hN]
    rcases five.mp hcm with rfl | rfl | rfl | rfl | rfl
    · exact Nat.le_add_right _ _
    · exact Nat.le_add_right _ _
    · exact Nat.le_add_right _ _
    · exact Nat.le_refl _
    · exact Nat.le_add_right _ _
  exact I1.fpOk hle (I1.hok.fresh hle)
theorem walk_zipS {K : PySem.W.Frag} {S1 S2 : Src} {xs ys : List V} {n : Nat} (hn : n = min xs.length ys.length) :
    L2.Walk (ItZ K S1 S2) n (fun H => S1.has K H xs ∧ S2.has K H ys) (YPair (fun i => xs[i]?) (fun i => ys[i]?)) := by
  subst hn
  refine ⟨fun i H hi q => ⟨xs, ys, q.1, q.2, by omega, by omega⟩, fun H q => ⟨xs, ys, q.1, q.2, rfl⟩, fun i H v H' _ q y => ?_⟩
  obtain ⟨T, x, u, h1, h2, h3, h4, h5⟩ := y
  exact ⟨T, x, u, h1, h2, h3, h4 xs q.1, h5 ys q.2⟩

/-! ### enumerate of one -/
def ItE (K : PySem.W.Frag) (S : Src) : It where
  go := fun i H => ∃ xs : List V, S.has K H xs ∧ i < xs.length
  yld := fun i H v H' => ∃ T x, v = .ref T ∧ H T = none ∧ H' = upd H T (.tup [.int (i : Nat), x]) ∧ ∀ xs, S.has K H xs → xs[i]? = some x
  stop := fun i H => ∃ xs : List V, S.has K H xs ∧ i = xs.length
def ESt (S : Src) (e it : Addr) (i : Nat) (h : Heap) : Prop := (∃ old, IsEnum h e it ((i : Nat) : Int) old) ∧ S.at_ it i h
theorem turn_enumS {P : Program} {w : World} {K : PySem.W.Frag} {elts : List Expr} {kk : Nat} {tpos : Pos} {S : Src} {e it : Addr} (hne : e ≠ it) (fe : S.far e) (fi : S.far it) :
    Turn P w K (.Tuple elts kk tpos) (ItE K S) [e, it] e (ESt S e it) where
  mem := by simp
  obj := fun i h st c hc => by
    obtain ⟨⟨old, q1⟩, q2⟩ := st
    rcases (by simpa using hc : c = e ∨ c = it) with rfl | rfl
    · exact ⟨_, q1, nofun⟩
    · exact S.at_obj q2
  keep := fun i h h' st k => by
    obtain ⟨⟨old, q1⟩, q2⟩ := st
    exact ⟨⟨old, k e (by simp) _ q1⟩, S.at_keep (k it (by simp)) q2⟩
  item := by
    intro X hP hw hK hc i pins s σ H E I hf st hg
    subst hP hw hK
    obtain ⟨⟨old, q1⟩, q2⟩ := st
    obtain ⟨xs, g1, l1⟩ := hg
    obtain ⟨P1, T1, D1⟩ := drawn I g1 fi q2
    have hh : X.A.in1.handled = none := I.ok.hd hc
    have hel : e < s.heap.objs.size := Heap.lt_size q1
    refine wpAny_pyNext_enum_itemC (D1.dr _ hh) q1 D1.here l1 hne (S.not_fp hne fe) fun u h' tk p1 ho t1 hT hsz hk => ?_
    obtain ⟨x, hx, r1⟩ := D1.rel _ _ p1
    refine ⟨_, rfl, wpAny_letOwnedTupleGo_enum (s := { s with heap := h', toks := tk + 1 }) ho fun h'' he' sb => ?_⟩
    have hT2 : h''.get? s.heap.objs.size = some { cls := .type "tuple", data := .seq #[.int i tk, u] } := (sb.2 _ (Nat.ne_of_gt hel)).trans hT
    have new : ObjOk X.prog X.w (upd H s.heap.objs.size (.tup [.int (i : Nat), x])) h'' s.heap.objs.size (.tup [.int (i : Nat), x]) := by
      refine ⟨(by show 2 ≤ sizeLine; decide), [.int i tk, u], .cons ⟨_, rfl⟩ (.cons r1 .nil), ?_⟩
      exact ⟨_, hT2, rfl, _, rfl⟩
    have lt : ∀ c ∈ [e, it], c < s.heap.objs.size := fun c hcm => by
      rcases (by simpa using hcm : c = e ∨ c = it) with rfl | rfl
      · exact hel
      · obtain ⟨_, e, _⟩ := S.at_obj q2; exact Heap.lt_size e
    have I1 : Inv X pins σ (upd H s.heap.objs.size (.tup [.int (i : Nat), x])) { s with heap := h'', toks := tk + 1 } :=
      I.turnedNew (t' := tk + 1) (ch := [e, it]) (fun c o hb q => by
        have hb' : ¬ (c = e ∨ c = it) := fun z => hb (by simpa using z)
        exact (sb.2 c fun z => hb' (.inl z)).trans (hk c o (fun z => hb' (.inl z)) (fun z => hb' (.inr z)) q)) hf (Nat.le_refl _) new
    refine ⟨.ref s.heap.objs.size, _, I1, rfl, ⟨_, x, rfl, I.hok.fresh (Nat.le_refl _), rfl, fun l hl => ?_⟩, ⟨⟨u, ?_⟩, ?_⟩, fun c hcm => ?_⟩
    · rw [has_inj I hl g1]; exact hx
    · have e1 : (((i + 1 : Nat) : Nat) : Int) = (i : Int) + 1 := by omega
      rw [e1]
      exact he'
    · exact S.at_keep (fun o q => (sb.2 _ fun z => hne z.symm).trans q) (D1.to _ _ t1)
    · rw [upd_ne (Nat.ne_of_lt (lt c hcm))]
      exact (hf c hcm).1
  done := by
    intro X hP hw hK hc i pins s σ H E I hf st hg
    subst hP hw hK
    obtain ⟨⟨old, q1⟩, q2⟩ := st
    obtain ⟨xs, g1, he⟩ := hg
    obtain ⟨P1, T1, D1⟩ := drawn I g1 fi q2
    have hh : X.A.in1.handled = none := I.ok.hd hc
    subst he
    refine wpAny_pyNext_enum_endD (D1.dr _ hh) q1 D1.here fun h' hk => ⟨rfl, ?_⟩
    refine I.turnedL (t' := s.toks) (ch := [e, it]) (fun c o hb q => ?_) hf
    have hb' : ¬ (c = e ∨ c = it) := fun z => hb (by simpa using z)
    exact hk c o (fun z => hb' (.inr z)) q
  self := fun A i s Q E st h => by
    obtain ⟨⟨old, q1⟩, _⟩ := st
    exact wpAny_pyIter_enum q1 h
theorem meets_enum1 {v : Value} {o : Obj} {G : Heap → Prop} (B : Begins v o G) :
    Meets (Builtin.«enumerate.__new__» ⟨[.type "enumerate", v], []⟩) (fun _ R s => G s.heap ∧
      R (.ok (.ret (.ref (s.heap.push o).objs.size))) { s with heap := (s.heap.push o).push { cls := .type "enumerate", data := .fields #[.none, .bool false, .ref s.heap.objs.size, rawInt 0, .none, .none] } }) :=
  .of_wp fun prog w A R s h => by
    obtain ⟨hp, g, d, tk, os⟩ := s
    obtain ⟨h1, h⟩ := h
    have hsub := sub_enumerate
    have q1 : ∀ {A' : Around} {E : Value → Shared → Prop} {Q : Value → Shared → Prop}, Q (.ref hp.objs.size) ⟨hp.push o, g, d, tk, os⟩ → wpAny (model prog w) A' (pyIter v) Q E ⟨hp, g, d, tk, os⟩ :=
      fun q => B.iter prog w _ _ ⟨hp, g, d, tk, os⟩ _ h1 q
    wp_walk using q1
    refine wpAny_stack_any fun st => wpAny_pure ?_
    split
    · rename_i c _ _ _ _ _
      cases (c == Value.type "enumerate") <;> (wp_walk using q1; exact ⟨_, rfl, h⟩)
    · wp_walk using q1
      exact ⟨_, rfl, h⟩
theorem call_enumS {prog : Program} {w : World} {A : Around} {E : Value → Shared → Prop} {s : Shared} {v : Value} {o : Obj} {G : Heap → Prop} {Q : Value → Shared → Prop} (B : Begins v o G) (h1 : G s.heap)
    (h : ∀ h', IsEnum h' (s.heap.objs.size + 1) s.heap.objs.size 0 .none → h'.get? s.heap.objs.size = some o → (∀ b o, s.heap.get? b = some o → h'.get? b = some o) → Q (.ref (s.heap.objs.size + 1)) { s with heap := h' }) :
    wpAny (model prog w) A (call (.type "enumerate") [v]) Q E s := by
  refine callType_new F.called_enumerate (by decide) (F.typeCall_enumerate_1 _) (F.newCall_enumerate_1 _) (fun obj => F.args_object_init_2 obj _) F.entry_enumerate_new (meets_enum1 B) ⟨h1, ?_⟩
  have hz : (s.heap.push o).objs.size = s.heap.objs.size + 1 := Heap.size_push ..
  show _ ∧ _
  rw [hz]
  generalize he : (s.heap.push o).push { cls := .type "enumerate", data := .fields #[.none, .bool false, .ref s.heap.objs.size, rawInt 0, .none, .none] } = h2
  have g1 : IsEnum h2 (s.heap.objs.size + 1) s.heap.objs.size 0 .none := by
    rw [← he, ← hz]
    exact Heap.get?_push_size _ rfl
  refine ⟨⟨_, g1, rfl⟩, h _ g1 ?_ fun b u x => ?_⟩
  · rw [← he]
    exact Heap.get?_push_of_some _ (Heap.get?_push_size _ B.free)
  · rw [← he]
    exact Heap.get?_push_of_some _ (Heap.get?_push_of_some _ x)
def enumR (K : PySem.W.Frag) (R : It → Hp → Prop) : List V → Hp → Prop := fun vs H1 => ∃ S xs, vs = [Src.v S] ∧ S.has K H1 xs ∧ R (ItE K S) H1
def iEnumS (K : PySem.W.Frag) (ta : TA) : TI := fun σ H R => ta σ H (enumR K R)
theorem pi_enumS {X : Cx} {e : Expr} {ta : TA} {p pos tpos : Pos} {elts : List Expr} {kk : Nat} (hg : Gl X "enumerate") (hm : X.mg "enumerate" = none) (ha : PA X [e] ta)
    (hs : starEach [e] X.env = [(false, eval e X.env)] := by rfl) : PI X (.Tuple elts kk tpos) (.Call (.Name "enumerate" p) [e] [] pos) (iEnumS X.K ta) := by
  refine ⟨fun pins s σ H R I h => ?_⟩
  refine Call_ (ld_blt I hg hm boot_enumerate (PyProof.Rows.callWith_type1 (thn (ha.run pos pins s σ H _ I h) fun us s1 ⟨vs, H1, I1, r1, q1⟩ => ?_) hs rfl))
  obtain ⟨S, xs, rfl, h1, q⟩ := q1
  obtain ⟨u1, rfl, r2⟩ := vals1 r1
  obtain ⟨o, G, B, b, t, f⟩ := src_begins I1 h1 r2
  refine call_enumS B b fun h' he e1 hk => wpAny_pyIter_enum he ?_
  have I2 : Inv X pins σ H1 { s1 with heap := h' } := I1.kept (t' := s1.toks) hk
  refine ⟨s1.heap.objs.size + 1, [s1.heap.objs.size + 1, s1.heap.objs.size], _, _, H1, rfl, I2, turn_enumS (Nat.succ_ne_self _) (f _ (Nat.le_add_right _ _)) (f _ (Nat.le_refl _)), ⟨⟨.none, he⟩, t _ _ e1⟩, fun c hcm => ?_, q⟩
  have hle : s1.heap.objs.size ≤ c := by
    rcases (by simpa using hcm : c = s1.heap.objs.size + 1 ∨ c = s1.heap.objs.size) with rfl | rfl
    · exact Nat.le_add_right _ _
    · exact Nat.le_refl _
  exact I1.fpOk hle (I1.hok.fresh hle)
theorem walk_enumS {K : PySem.W.Frag} {S : Src} {xs : List V} : L2.Walk (ItE K S) xs.length (fun H => S.has K H xs) (YPair (fun i => some (.int (i : Nat))) (fun i => xs[i]?)) := by
  refine ⟨fun i H hi q => ⟨xs, q, hi⟩, fun H q => ⟨xs, q, rfl⟩, fun i H v H' _ q y => ?_⟩
  obtain ⟨T, x, h1, h2, h3, h4⟩ := y
  exact ⟨T, .int (i : Nat), x, h1, h2, h3, rfl, h4 xs q⟩

/-! ### one of them alone -/
def srcR (K : PySem.W.Frag) (R : It → Hp → Prop) : VK := fun x H1 => (∃ a, x = .ref a ∧ (∃ xs, SqL K H1 a xs) ∧ R (Itl K a) H1) ∨ (∃ a, x = .ref a ∧ (∃ xs, SqT K H1 a xs) ∧ R (Itt K a) H1) ∨ ∃ z, x = .str z ∧ R (Its z) H1
def iSrc (K : PySem.W.Frag) (tl : TE) : TI := fun σ H R => tl σ H (srcR K R)
theorem pi_src {X : Cx} {tg l : Expr} {tl : TE} (hl : PE X l tl) : PI X tg l (iSrc X.K tl) := by
  refine ⟨fun pins s σ H R I h => ?_⟩
  refine thn (hl.run pins s σ H _ I h) fun v s1 ⟨x, H1, I1, r1, q1⟩ => ?_
  rcases q1 with ⟨a, rfl, ⟨xs, hq⟩, q⟩ | ⟨a, rfl, ⟨xs, hq⟩, q⟩ | ⟨z, rfl, q⟩
  · obtain ⟨its, rv, p, hz⟩ := I1.list hq
    cases (show v = Value.ref a from r1)
    refine wpAny_pyIter_list p.isList ?_
    exact pi_one (tk := s1.toks) I1 _ (turn_list a _) ⟨_, Heap.get?_push_size _ rfl, rfl, rfl⟩ q
  · obtain ⟨its, rv, p, hz⟩ := I1.tuple hq
    cases (show v = Value.ref a from r1)
    refine wpAny_pyIter_tuple (show s1.heap.IsTuple a its.toArray from p) ?_
    exact pi_one (tk := s1.toks) I1 _ (turn_tuple a _) ⟨_, Heap.get?_push_size _ rfl, rfl, rfl⟩ q
  · obtain ⟨t, rfl⟩ := r1
    cases ha : z.cps.all (· < 128)
    · refine wpAny_pyIter_wide ha ?_
      exact pi_one (tk := s1.toks) I1 _ (turn_str _ z t _ (.inr rfl)) ⟨_, Heap.get?_push_size _ rfl, rfl, rfl⟩ q
    · refine wpAny_pyIter_ascii ha ?_
      exact pi_one (tk := s1.toks) I1 _ (turn_str _ z t _ (.inl rfl)) ⟨_, Heap.get?_push_size _ rfl, rfl, rfl⟩ q
end Nt

namespace Nt
open PySem PySem.Spec PyProof.Rows L2
/-! ### worlds: M the addresses that may change, I what is kept of them -/
structure Wf (M : Addr → Prop) (I : Hp → Prop) : Prop where
  live : ∀ H, I H → ∀ p, M p → H p ≠ none
  stable : ∀ H H', I H → (∀ p, M p → H' p = H p) → I H'
def Ex (M : Addr → Prop) (H H' : Hp) : Prop := ∀ p o, ¬ M p → H p = some o → H' p = some o
theorem Ex.refl {M : Addr → Prop} (H : Hp) : Ex M H H := fun _ _ _ h => h
theorem Ex.trans {M : Addr → Prop} {H H1 H2 : Hp} (a : Ex M H H1) (b : Ex M H1 H2) : Ex M H H2 := fun p o n h => b p o n (a p o n h)
theorem Ex.of {M : Addr → Prop} {H H' : Hp} (a : L2.Same H H') : Ex M H H' := fun p o _ h => a p o h
theorem Wf.same {M : Addr → Prop} {I : Hp → Prop} (w : Wf M I) {H H' : Hp} (e : L2.Same H H') (h : I H) : I H' := by
  refine w.stable H H' h fun p hp => ?_
  cases q : H p with
  | none => exact absurd q (w.live H h p hp)
  | some o => exact e p o q
theorem same_upd {H : Hp} {p : Addr} {o : HO} (h : H p = none) : L2.Same H (upd H p o) := fun a u e => by
  rw [upd_ne (ne_of_none e h)]
  exact e
theorem Wf.fresh {M : Addr → Prop} {I : Hp → Prop} (w : Wf M I) {H : Hp} {p : Addr} (h : I H) (hp : H p = none) : ¬ M p := fun m => w.live H h p m hp
/-- nothing changes -/
def M0 : Addr → Prop := fun _ => False
def I0 : Hp → Prop := fun _ => True
theorem wf0 : Wf M0 I0 := ⟨fun _ _ _ h => h.elim, fun _ _ _ _ => trivial⟩
/-- one object more that may change: its content told -/
def Mq (M : Addr → Prop) (q : Addr) : Addr → Prop := fun p => M p ∨ p = q
def Iq (I : Hp → Prop) (q : Addr) (o : HO) : Hp → Prop := fun H => I H ∧ H q = some o
theorem Wf.add {M : Addr → Prop} {I : Hp → Prop} (w : Wf M I) (q : Addr) (o : HO) : Wf (Mq M q) (Iq I q o) where
  live := fun H h p hp => by
    rcases hp with hp | rfl
    · exact w.live H h.1 p hp
    · rw [h.2]; exact nofun
  stable := fun H H' h e => ⟨w.stable H H' h.1 fun p hp => e p (.inl hp), (e q (.inr rfl)).trans h.2⟩
/-- the object changes -/
theorem Wf.put {M : Addr → Prop} {I : Hp → Prop} (w : Wf M I) {q : Addr} {o o' : HO} {H : Hp} (hq : ¬ M q) (h : Iq I q o H) : Iq I q o' (upd H q o') ∧ Ex (Mq M q) H (upd H q o') := by
  refine ⟨⟨w.stable _ _ h.1 fun p hp => upd_ne fun e => hq (e ▸ hp), upd_same⟩, fun p u n e => ?_⟩
  rw [upd_ne fun z => n (.inr z)]
  exact e

/-! ### data -/
inductive D where
  | non
  | bl (b : Bool)
  | int (i : Int)
  | str (z : Str)
  | lst (l : List D)
  | tup (l : List D)
  | dct (l : List (Key × D))
  | oth (n : Nat)
mutual
inductive Rep (K : PySem.W.Frag) (M : Addr → Prop) (H : Hp) : V → D → Prop
  | non : Rep K M H .non .non
  | bl (b : Bool) : Rep K M H (.bl b) (.bl b)
  | int (i : Int) : Rep K M H (.int i) (.int i)
  | str (z : Str) : Rep K M H (.str z) (.str z)
  | lst {a : Addr} {xs : List V} {ds : List D} : H a = some (.lst xs) → ¬ M a → Reps K M H xs ds → Rep K M H (.ref a) (.lst ds)
  | tup {a : Addr} {xs : List V} {ds : List D} : H a = some (.tup xs) → ¬ M a → Reps K M H xs ds → Rep K M H (.ref a) (.tup ds)
  | dct {a : Addr} {kvs : List (Key × V)} {ds : List (Key × D)} : H a = some (.dK kvs) → ¬ M a → kvs.map (·.1) = ds.map (·.1) → Reps K M H (kvs.map (·.2)) (ds.map (·.2)) → Rep K M H (.ref a) (.dct ds)
  | oth {a : Addr} {φ : Heap → Prop} {n : Nat} : H a = some (.ext φ) → ¬ M a → Rep K M H (.ref a) (.oth n)
inductive Reps (K : PySem.W.Frag) (M : Addr → Prop) (H : Hp) : List V → List D → Prop
  | nil : Reps K M H [] []
  | cons {v : V} {vs : List V} {d : D} {ds : List D} : Rep K M H v d → Reps K M H vs ds → Reps K M H (v :: vs) (d :: ds)
end
section
variable {K : PySem.W.Frag} {M M' : Addr → Prop} {H H' : Hp}
theorem sq_l {a : Addr} {xs : List V} (e : Ex M H H') (hm : ¬ M a) (h : SqL K H a xs) : SqL K H' a xs := by
  rcases h with (h | ⟨o, h⟩) | h
  · exact .inl (.inl (e _ _ hm h))
  · exact .inl (.inr ⟨o, e _ _ hm h⟩)
  · exact .inr h
theorem sq_t {a : Addr} {xs : List V} (e : Ex M H H') (hm : ¬ M a) (h : SqT K H a xs) : SqT K H' a xs := by
  rcases h with (h | ⟨o, h⟩) | h
  · exact .inl (.inl (e _ _ hm h))
  · exact .inl (.inr ⟨o, e _ _ hm h⟩)
  · exact .inr h
mutual
theorem Rep.ex (e : Ex M H H') : ∀ {v : V} {d : D}, Rep K M H v d → Rep K M H' v d
  | _, _, .non => .non
  | _, _, .bl b => .bl b
  | _, _, .int i => .int i
  | _, _, .str z => .str z
  | _, _, .lst h n r => .lst (e _ _ n h) n (Reps.ex e r)
  | _, _, .tup h n r => .tup (e _ _ n h) n (Reps.ex e r)
  | _, _, .dct h n k r => .dct (e _ _ n h) n k (Reps.ex e r)
  | _, _, .oth h n => .oth (e _ _ n h) n
theorem Reps.ex (e : Ex M H H') : ∀ {v : List V} {d : List D}, Reps K M H v d → Reps K M H' v d
  | _, _, .nil => .nil
  | _, _, .cons h r => .cons (Rep.ex e h) (Reps.ex e r)
end
theorem Rep.same (e : L2.Same H H') {v : V} {d : D} (h : Rep K M H v d) : Rep K M H' v d := h.ex (.of e)
theorem Reps.same (e : L2.Same H H') {v : List V} {d : List D} (h : Reps K M H v d) : Reps K M H' v d := h.ex (.of e)
mutual
theorem Rep.le (hm : ∀ p, M p → M' p) : ∀ {v : V} {d : D}, Rep K M' H v d → Rep K M H v d
  | _, _, .non => .non
  | _, _, .bl b => .bl b
  | _, _, .int i => .int i
  | _, _, .str z => .str z
  | _, _, .lst h n r => .lst h (fun m => n (hm _ m)) (Reps.le hm r)
  | _, _, .tup h n r => .tup h (fun m => n (hm _ m)) (Reps.le hm r)
  | _, _, .dct h n k r => .dct h (fun m => n (hm _ m)) k (Reps.le hm r)
  | _, _, .oth h n => .oth h fun m => n (hm _ m)
theorem Reps.le (hm : ∀ p, M p → M' p) : ∀ {v : List V} {d : List D}, Reps K M' H v d → Reps K M H v d
  | _, _, .nil => .nil
  | _, _, .cons h r => .cons (Rep.le hm h) (Reps.le hm r)
end
mutual
/-- the addresses of data lie in H: one that H has not may be let change -/
theorem Rep.off {q : Addr} (hq : H q = none) : ∀ {v : V} {d : D}, Rep K M H v d → Rep K (Mq M q) H v d
  | _, _, .non => .non
  | _, _, .bl b => .bl b
  | _, _, .int i => .int i
  | _, _, .str z => .str z
  | _, _, .lst h n r => .lst h (fun m => m.elim n fun e => by rw [e, hq] at h; cases h) (Reps.off hq r)
  | _, _, .tup h n r => .tup h (fun m => m.elim n fun e => by rw [e, hq] at h; cases h) (Reps.off hq r)
  | _, _, .dct h n k r => .dct h (fun m => m.elim n fun e => by rw [e, hq] at h; cases h) k (Reps.off hq r)
  | _, _, .oth h n => .oth h fun m => m.elim n fun e => by rw [e, hq] at h; cases h
theorem Reps.off {q : Addr} (hq : H q = none) : ∀ {v : List V} {d : List D}, Reps K M H v d → Reps K (Mq M q) H v d
  | _, _, .nil => .nil
  | _, _, .cons h r => .cons (Rep.off hq h) (Reps.off hq r)
end
/-- what may change no longer does -/
theorem Rep.on {q : Addr} : ∀ {v : V} {d : D}, Rep K (Mq M q) H v d → Rep K M H v d := fun {v d} h => h.le fun p m => .inl m
end
end Nt

namespace Nt
open PySem PySem.Spec PyProof.Rows L2
/-! ### signs by their numbers -/
def T (l : List Nat) : Str := ⟨l.toArray⟩
theorem T_cps (l : List Nat) : (T l).cps.toList = l := rfl
theorem T_len (l : List Nat) : (T l).length = l.length := by simp [T, Str.length]
theorem T_app (l m : List Nat) : (T l) ++ (T m) = T (l ++ m) := by
  show (⟨(T l).cps ++ (T m).cps⟩ : Str) = _
  simp [T]
theorem T_inj {l m : List Nat} (h : T l = T m) : l = m := by
  have := congrArg (fun z : Str => z.cps.toList) h
  simpa [T] using this
theorem T_one (c : Nat) : (⟨#[c]⟩ : Str) = T [c] := rfl
theorem signs_T (l : List Nat) : signs (T l) = l.map fun c => .str (T [c]) := by simp [signs, T]
/-! ### universal operators: what is done shows by the values -/
def rAddU (K : PySem.W.Frag) : R2 := fun x y H Q =>
  rI0 (fun i j => .int (i + j)) x y H Q ∨ (∃ i j, x = .str i ∧ y = .str j ∧ i.length + j.length ≤ sizeLine ∧ Q (.str (i ++ j)) H) ∨ rCat x y H Q ∨ rCatA K x y H Q
theorem op_addU {X : Cx} : OpR X (binaryOp .Add) (rAddU X.K) := op_add.or (op_add_str.or (op_cat.or op_catA))
def rRepS : R2 := fun x y H Q => ∃ z k, x = .str z ∧ y = .int k ∧ 0 ≤ k ∧ k ≤ 100000 ∧ z.length ≤ 100 ∧ Q (.str (T (List.replicate k.toNat z.cps.toList).flatten)) H
theorem rep_cps (z : Str) (n : Nat) : (⟨(List.replicate n z.cps).foldl (· ++ ·) #[]⟩ : Str) = T (List.replicate n z.cps.toList).flatten := by
  have h : ∀ (m : Nat) (a : Array Nat), ((List.replicate m z.cps).foldl (· ++ ·) a).toList = a.toList ++ (List.replicate m z.cps.toList).flatten := by
    intro m
    induction m with
    | zero => intro a; simp
    | succ m ih => intro a; simp [List.replicate_succ, ih]
  have e := h n #[]
  simp only [List.nil_append] at e
  unfold T
  congr 1
  exact Array.toList_inj.mp (by simpa using e)
theorem op_repS {X : Cx} : OpR X (binaryOp .Mult) rRepS := by
  intro pins s σ H x y v u Q I rx ry h
  obtain ⟨z, k, rfl, rfl, h0, h1, h2, q⟩ := h
  obtain ⟨t, rfl⟩ := rx
  obtain ⟨t2, rfl⟩ := ry
  have e := rep_cps z k.toNat
  have hz : z.length * k.toNat ≤ 100 * 100000 := Nat.mul_le_mul h2 (by omega)
  have el : z.length = z.cps.size := rfl
  have hs : sizeLine = 16777216 := sizeLine_eq
  have hz2 : k.toNat * z.cps.size ≤ 10000000 := by rw [Nat.mul_comm]; exact hz
  refine PySem.P.mul_str (by
      have a1 : ¬ k < -(2 ^ 63 : Int) := by omega
      have a2 : ¬ k ≥ 2 ^ 63 := by omega
      rw [decide_eq_false a1, decide_eq_false a2]; rfl) (fun a _ hh => ?_) (fun _ _ => ?_) ?_
  · have : (2 ^ 63 - 1 : Int) / k ≥ 1000 := by
      apply Int.le_ediv_of_mul_le (by omega)
      omega
    omega
  · show Builtin.Str.tooLong (z.length * k.toNat) = false
    unfold Builtin.Str.tooLong
    first
      | (simp only [decide_eq_false_iff_not]; omega)
      | (rw [decide_eq_false]; omega)
      | (simp; omega)
  · by_cases c1 : k < 1
    · rw [if_pos c1]
      have k0 : k.toNat = 0 := by omega
      rw [k0] at q
      exact ⟨by decide, ⟨.str _, H, I.tok _, ⟨_, rfl⟩, q⟩⟩
    · rw [if_neg c1]
      by_cases c2 : (k == 1 || z.length == 0) = true
      · rw [if_pos c2]
        have ez : T (List.replicate k.toNat z.cps.toList).flatten = z := by
          rcases Bool.or_eq_true_iff.mp c2 with c | c
          · have : k = 1 := by simpa using c
            subst this
            simp [T]
          · have c' : z.cps.size = 0 := by simpa [el] using c
            have : z.cps = #[] := Array.size_eq_zero_iff.mp c'
            obtain ⟨cp⟩ := z
            simp only at this
            subst this
            simp [T]
        rw [ez] at q
        exact ⟨.str _, H, I, ⟨_, rfl⟩, q⟩
      · rw [if_neg c2]
        rw [← e] at q
        refine ⟨?_, ⟨.str _, H, I.tok _, ⟨_, rfl⟩, q⟩⟩
        rw [e]
        first
          | (simp [T, Str.length] at *; omega)
          | (show (T _).length ≤ _; rw [T_len]; simp; omega)
end Nt

namespace Nt
open PySem PySem.Spec PyProof.Rows L2
/-! ### lists, place by place -/
inductive A2 {α β : Type} (P : α → β → Prop) : List α → List β → Prop
  | nil : A2 P [] []
  | cons {a b as bs} : P a b → A2 P as bs → A2 P (a :: as) (b :: bs)
theorem A2.append {α β : Type} {P : α → β → Prop} : ∀ {as cs : List α} {bs ds : List β}, A2 P as bs → A2 P cs ds → A2 P (as ++ cs) (bs ++ ds)
  | _, _, _, _, .nil, h => h
  | _, _, _, _, .cons x y, h => .cons x (y.append h)
theorem A2.length {α β : Type} {P : α → β → Prop} : ∀ {as : List α} {bs : List β}, A2 P as bs → bs.length = as.length
  | _, _, .nil => rfl
  | _, _, .cons _ y => congrArg (· + 1) y.length
theorem A2.eq {α β : Type} {f : α → β} : ∀ {as : List α} {bs : List β}, A2 (fun a b => b = f a) as bs → bs = as.map f
  | _, _, .nil => rfl
  | _, _, .cons x y => by rw [x, y.eq]; rfl
theorem A2.imp {α β : Type} {P Q : α → β → Prop} (h : ∀ a b, P a b → Q a b) : ∀ {as : List α} {bs : List β}, A2 P as bs → A2 Q as bs
  | _, _, .nil => .nil
  | _, _, .cons x y => .cons (h _ _ x) (y.imp h)
theorem A2.map {α β : Type} {f : α → β} : ∀ as : List α, A2 (fun a b => b = f a) as (as.map f)
  | [] => .nil
  | _ :: as => .cons rfl (A2.map as)
/-- the second parts are of a form -/
theorem A2.ex {α β γ : Type} {P : α → β → Prop} {Q : α → γ → Prop} {g : γ → β} (h : ∀ a b, P a b → ∃ c, b = g c ∧ Q a c) : ∀ {as : List α} {bs : List β}, A2 P as bs → ∃ cs, bs = cs.map g ∧ A2 Q as cs
  | _, _, .nil => ⟨[], rfl, .nil⟩
  | _, _, .cons x y => by
    obtain ⟨c, e, q⟩ := h _ _ x
    obtain ⟨cs, e2, q2⟩ := y.ex h
    exact ⟨c :: cs, by rw [e, e2]; rfl, .cons q q2⟩
theorem A2.all {α β : Type} {P : α → β → Prop} {Q : β → Prop} (h : ∀ a b, P a b → Q b) : ∀ {as : List α} {bs : List β}, A2 P as bs → ∀ b ∈ bs, Q b
  | _, _, .nil, _, hb => by cases hb
  | _, _, .cons x y, b, hb => by
    rcases List.mem_cons.mp hb with rfl | hb
    · exact h _ _ x
    · exact y.all h b hb
section
variable {K : PySem.W.Frag} {M : Addr → Prop} {H : Hp}
theorem Reps.append : ∀ {xs ys : List V} {ds es : List D}, Reps K M H xs ds → Reps K M H ys es → Reps K M H (xs ++ ys) (ds ++ es)
  | _, _, _, _, .nil, h => h
  | _, _, _, _, .cons x y, h => .cons x (y.append h)
theorem Reps.length : ∀ {xs : List V} {ds : List D}, Reps K M H xs ds → xs.length = ds.length
  | _, _, .nil => rfl
  | _, _, .cons _ y => congrArg (· + 1) y.length
theorem Reps.get : ∀ {xs : List V} {ds : List D} {k : Nat} {d : D}, Reps K M H xs ds → ds[k]? = some d → ∃ x, xs[k]? = some x ∧ Rep K M H x d
  | _, _, 0, _, .cons x _, h => ⟨_, rfl, by cases h; exact x⟩
  | _, _, k + 1, _, .cons _ y, h => y.get (k := k) h
theorem Reps.take : ∀ {xs : List V} {ds : List D} (k : Nat), Reps K M H xs ds → Reps K M H (xs.take k) (ds.take k)
  | _, _, 0, _ => by simp; exact .nil
  | _, _, k + 1, .nil => .nil
  | _, _, k + 1, .cons x y => .cons x (y.take k)
theorem Reps.drop : ∀ {xs : List V} {ds : List D} (k : Nat), Reps K M H xs ds → Reps K M H (xs.drop k) (ds.drop k)
  | _, _, 0, h => h
  | _, _, k + 1, .nil => .nil
  | _, _, k + 1, .cons x y => y.drop k
theorem Reps.reverse : ∀ {xs : List V} {ds : List D}, Reps K M H xs ds → Reps K M H xs.reverse ds.reverse
  | _, _, .nil => .nil
  | _, _, .cons x y => by simp only [List.reverse_cons]; exact y.reverse.append (.cons x .nil)
/-- scalars stand for themselves -/
theorem Reps.scal {α : Type} {f : α → V} {g : α → D} (hfg : ∀ a, Rep K M H (f a) (g a)) : ∀ l : List α, Reps K M H (l.map f) (l.map g)
  | [] => .nil
  | a :: l => .cons (hfg a) (Reps.scal hfg l)
theorem Reps.scal_inv {α : Type} {f : α → V} {g : α → D} (hfg : ∀ a v, Rep K M H v (g a) → v = f a) : ∀ {l : List α} {xs : List V}, Reps K M H xs (l.map g) → xs = l.map f
  | [], _, .nil => rfl
  | a :: l, _, .cons x y => by rw [hfg a _ x, Reps.scal_inv hfg y]; rfl
theorem rep_int {v : V} {i : Int} (h : Rep K M H v (.int i)) : v = .int i := by cases h; rfl
theorem rep_str {v : V} {i : Str} (h : Rep K M H v (.str i)) : v = .str i := by cases h; rfl
theorem rep_bl {v : V} {i : Bool} (h : Rep K M H v (.bl i)) : v = .bl i := by cases h; rfl
theorem rep_non {v : V} (h : Rep K M H v .non) : v = .non := by cases h; rfl
end
/-! ### what may be walked -/
def D.elems : D → Option (List D)
  | .lst l => some l
  | .tup l => some l
  | .str z => some (z.cps.toList.map fun c => .str (T [c]))
  | _ => none
theorem src_of {K : PySem.W.Frag} {M : Addr → Prop} {H : Hp} {v : V} {d : D} {ds : List D} (h : Rep K M H v d) (e : d.elems = some ds) :
    ∃ S xs, v = Src.v S ∧ Reps K M H xs ds ∧ ∀ H', Ex M H H' → S.has K H' xs := by
  cases h with
  | lst h n r => cases e; exact ⟨.lst _, _, rfl, r, fun H' x => SqL.of (x _ _ n h)⟩
  | tup h n r => cases e; exact ⟨.tup _, _, rfl, r, fun H' x => SqT.of (x _ _ n h)⟩
  | str z =>
    cases e
    refine ⟨.txt z, signs z, rfl, ?_, fun _ _ => rfl⟩
    unfold signs
    exact Reps.scal (fun c => .str (T [c])) _
  | _ => cases e
/-! ### comprehensions -/
def Bd (g : TG) (Y : Hp → V → Hp → Prop) (σ σ2 : L2.St) : Prop := ∀ H x H' (Qc : L2.St → Hp → Prop), Y H x H' → (∀ H2, L2.Same H H2 → Qc σ2 H2) → g x σ H' Qc
theorem bd_name {i : Nat} {σ : L2.St} {v : V} {Y : Hp → V → Hp → Prop} (hY : ∀ H x H', Y H x H' → H' = H ∧ x = v) : Bd (gName i) Y σ (σ.set i (some v)) := fun H x H' Qc y q => by
  obtain ⟨rfl, rfl⟩ := hY _ _ _ y
  exact q _ (L2.Same.refl _)
theorem bd_pair {K : PySem.W.Frag} {i j : Nat} {σ : L2.St} {v w : V} {Y : Hp → V → Hp → Prop} (hY : ∀ H x H', Y H x H' → ∃ p, x = .ref p ∧ H p = none ∧ H' = upd H p (.tup [v, w])) :
    Bd (gTup K 2 (gCons (gName i) (gCons (gName j) gNil))) Y σ ((σ.set i (some v)).set j (some w)) := fun H x H' Qc y q => by
  obtain ⟨p, rfl, hp, rfl⟩ := hY _ _ _ y
  exact ⟨p, [v, w], rfl, SqT.of upd_same, rfl, v, [w], rfl, w, [], rfl, rfl, q _ (same_upd hp)⟩
section
variable {K : PySem.W.Frag} {M : Addr → Prop} {I : Hp → Prop} {J : It} {G : Hp → Prop} {Y : Nat → Hp → V → Hp → Prop} {α : Type} {as : List α} {g : TG} {tt : TT} {te : TE} {vs : List Nat} {σ : L2.St} {H1 : Hp}
theorem iq_of {q : Addr} {o : HO} {H : Hp} (h : Iq I q o H) : I H := h.1
theorem take_snoc {k : Nat} {a : α} (h : as[k]? = some a) : as.take (k + 1) = as.take k ++ [a] := by
  have hk := (List.getElem?_eq_some_iff.mp h)
  obtain ⟨hk, e⟩ := hk
  rw [List.take_succ_eq_append_getElem hk, e]
theorem lc_any {Q : VK} (w : L2.Walk J as.length G Y) (hw : Wf M I) (hI : I H1) (p : α → Bool) (P : α → D → Prop) (asg : Nat → α → L2.St) (hG : ∀ H', Ex M H1 H' → G H') (hlen : as.length ≤ sizeLine)
    (hb : ∀ k a, as[k]? = some a → Bd g (Y k) (wipe σ vs) (asg k a)) (hwp : ∀ k a, wipe (asg k a) vs = wipe σ vs)
    (ht : ∀ L acc k a H, H1 L = none → ¬ M L → as[k]? = some a → Wf (Mq M L) (Iq I L (.lst acc)) → Iq I L (.lst acc) H → Ex (Mq M L) H1 H →
      ∀ Qt : Bool → Hp → Prop, (∀ H3, Iq I L (.lst acc) H3 → Ex (Mq M L) H H3 → Qt (p a) H3) → tt (asg k a) H Qt)
    (he : ∀ L acc k a H, H1 L = none → ¬ M L → as[k]? = some a → p a = true → Wf (Mq M L) (Iq I L (.lst acc)) → Iq I L (.lst acc) H → Ex (Mq M L) H1 H →
      ∀ Qe : VK, (∀ y d H4, P a d → Rep K (Mq M L) H4 y d → Iq I L (.lst acc) H4 → Ex (Mq M L) H H4 → Qe y H4) → te (asg k a) H Qe)
    (hd : ∀ L ds H', H1 L = none → A2 P (as.filter p) ds → Rep K M H' (.ref L) (.lst ds) → Ex M H1 H' → I H' → Q (.ref L) H') :
    ∀ L, H1 L = none → ∃ W : Nat → Nat → Hp → Prop, (∃ m, W 0 m (upd H1 L (.lst []))) ∧ ∀ i m H, W i m H →
      (J.stop i H ∧ Q (.ref L) H) ∨ (J.go i H ∧ ∃ Nx : Hp → Prop, (∀ H', Nx H' → ∃ m', m' < m ∧ W (i + 1) m' H') ∧ ∀ x H', J.yld i H x H' → g x (wipe σ vs) H' fun σ2 H2 => wipe σ2 vs = wipe σ vs ∧ tt σ2 H2 fun b H3 =>
        if b = true then te σ2 H3 fun y H4 => ∃ acc, H4 L = some (.lst acc) ∧ acc.length < sizeLine ∧ Nx (upd H4 L (.lst (acc ++ [y]))) else Nx H3) := by
  intro L hL
  have nM : ¬ M L := hw.fresh hI hL
  have exL : ∀ {H' : Hp}, Ex (Mq M L) H1 H' → Ex M H1 H' := fun e p o n h => e p o (fun m => m.elim n fun z => by rw [z, hL] at h; cases h) h
  refine lc_it w (fun k H => ∃ acc ds, Iq I L (.lst acc) H ∧ A2 P ((as.take k).filter p) ds ∧ Reps K (Mq M L) H acc ds ∧ Ex (Mq M L) H1 H) ?_ (fun k H _ h => ?_) ?_ ?_
  · refine ⟨[], [], ⟨hw.same (same_upd hL) hI, upd_same⟩, .nil, .nil, Ex.of (same_upd hL)⟩
  · obtain ⟨acc, ds, _, _, _, e⟩ := h
    exact hG H (exL e)
  · rintro k x H H' hk ⟨acc, ds, i1, a2, rs, e⟩ y
    have ha : as[k]? = some as[k] := by simp [hk]
    have wf' := hw.add L (.lst acc)
    have hlen2 : acc.length < sizeLine := by
      have l1 := rs.length
      have l2 := a2.length
      have l3 : ((as.take k).filter p).length ≤ (as.take k).length := List.length_filter_le _ _
      have l4 : (as.take k).length ≤ k := by simp; omega
      omega
    refine hb k _ ha H x H' _ y fun H2 sm => ⟨hwp k _, ?_⟩
    have i2 := wf'.same sm i1
    have e2 : Ex (Mq M L) H1 H2 := e.trans (Ex.of sm)
    have rs2 := rs.same sm
    refine ht L acc k _ H2 hL nM ha wf' i2 e2 _ fun H3 i3 e3 => ?_
    cases hp : p as[k] with
    | false =>
      simp only [Bool.false_eq_true, if_false]
      refine ⟨acc, ds, i3, ?_, rs2.ex e3, e2.trans e3⟩
      rw [take_snoc ha, List.filter_append]
      simpa [hp] using a2
    | true =>
      simp only [if_true]
      refine he L acc k _ H3 hL nM ha hp wf' i3 (e2.trans e3) _ fun y d H4 py ry i4 e4 => ⟨acc, i4.2, hlen2, ?_⟩
      obtain ⟨i5, e5⟩ := hw.put (o' := .lst (acc ++ [y])) nM i4
      refine ⟨acc ++ [y], ds ++ [d], i5, ?_, ?_, ((e2.trans e3).trans e4).trans e5⟩
      · rw [take_snoc ha, List.filter_append]
        refine a2.append ?_
        simp [hp]
        exact .cons py .nil
      · exact (((rs2.ex e3).ex e4).append (.cons ry .nil)).ex e5
  · rintro H ⟨acc, ds, i1, a2, rs, e⟩
    refine hd L ds H hL ?_ (.lst i1.2 nM (rs.le fun p m => .inl m)) (exL e) i1.1
    simpa using a2
end
end Nt

namespace Nt
open PySem PySem.Spec PyProof.Rows L2
/-! ### comprehensions and loops by what is walked -/
def LcR (g : TG) (tt : TT) (te : TE) (vs : List Nat) (σ : L2.St) (Q : VK) : It → Hp → Prop := fun J H1 => ∀ L, H1 L = none → ∃ W : Nat → Nat → Hp → Prop, (∃ m, W 0 m (upd H1 L (.lst []))) ∧ ∀ i m H, W i m H →
  (J.stop i H ∧ Q (.ref L) H) ∨ (J.go i H ∧ ∃ Nx : Hp → Prop, (∀ H', Nx H' → ∃ m', m' < m ∧ W (i + 1) m' H') ∧ ∀ x H', J.yld i H x H' → g x (wipe σ vs) H' fun σ2 H2 => wipe σ2 vs = wipe σ vs ∧ tt σ2 H2 fun b H3 =>
    if b = true then te σ2 H3 fun y H4 => ∃ acc, H4 L = some (.lst acc) ∧ acc.length < sizeLine ∧ Nx (upd H4 L (.lst (acc ++ [y]))) else Nx H3)
theorem sx_lc {wi : TI} {g : TG} {tt : TT} {te : TE} {vs : List Nat} {σ : L2.St} {H : Hp} {Q : VK} (h : wi σ H (LcR g tt te vs σ Q)) : tLc wi g tt te vs σ H Q := h
def ForR (g : TG) (tb : TS) (D : Ends) (σ : L2.St) : It → Hp → Prop := fun J H1 => ∃ W : Nat → Nat → L2.St → Hp → Prop, (∃ m, W 0 m σ H1) ∧ ∀ i m σ H, W i m σ H →
  (J.stop i H ∧ D.nx σ H) ∨ (J.go i H ∧ ∃ N : L2.St → Hp → Prop, (∀ σ' H', N σ' H' → ∃ m', m' < m ∧ W (i + 1) m' σ' H') ∧ ∀ x H', J.yld i H x H' → g x σ H' fun σ2 H2 => tb { D with nx := N, ct := N, bk := D.nx } σ2 H2)
theorem sx_for {wi : TI} {g : TG} {tb : TS} {D : Ends} {σ : L2.St} {H : Hp} (h : wi σ H (ForR g tb D σ)) : tFor wi g tb D σ H := h
theorem sx_isrc {K : PySem.W.Frag} {tl : TE} {σ : L2.St} {H : Hp} {R : It → Hp → Prop} (h : tl σ H (srcR K R)) : iSrc K tl σ H R := h
theorem sx_izip {K : PySem.W.Frag} {ta : TA} {σ : L2.St} {H : Hp} {R : It → Hp → Prop} (h : ta σ H (zipR K R)) : iZipS K ta σ H R := h
theorem sx_ienum {K : PySem.W.Frag} {ta : TA} {σ : L2.St} {H : Hp} {R : It → Hp → Prop} (h : ta σ H (enumR K R)) : iEnumS K ta σ H R := h
section
variable {K : PySem.W.Frag} {M : Addr → Prop} {I : Hp → Prop} {α β : Type} {as : List α} {bs : List β} {tt : TT} {te : TE} {vs : List Nat} {σ : L2.St} {H1 : Hp} {Q : VK} {enc : α → D} {enc2 : β → D}
theorem reps_at {H : Hp} {xs : List V} {k : Nat} {a : α} (r : Reps K M H xs (as.map enc)) (h : as[k]? = some a) : ∃ x, xs[k]? = some x ∧ Rep K M H x (enc a) := r.get (by simp [h])
theorem reps_len {H : Hp} {xs : List V} (r : Reps K M H xs (as.map enc)) : xs.length = as.length := by simpa using r.length
/-- [e for x in s if t] -/
theorem lc_src {i : Nat} {x : V} {d : D} (hw : Wf M I) (hI : I H1) (hx : Rep K M H1 x d) (hd : d.elems = some (as.map enc)) (hlen : as.length ≤ sizeLine) (hwp : ∀ v, wipe ((wipe σ vs).set i (some v)) vs = wipe σ vs) (p : α → Bool) (P : α → D → Prop)
    (ht : ∀ (L : Addr) (acc : List V) (k : Nat) (a : α) (v : V) (H : Hp), H1 L = none → ¬ M L → as[k]? = some a → Rep K (Mq M L) H v (enc a) → Wf (Mq M L) (Iq I L (.lst acc)) → Iq I L (.lst acc) H → Ex (Mq M L) H1 H →
      ∀ Qt : Bool → Hp → Prop, (∀ H3, Iq I L (.lst acc) H3 → Ex (Mq M L) H H3 → Qt (p a) H3) → tt ((wipe σ vs).set i (some v)) H Qt)
    (he : ∀ (L : Addr) (acc : List V) (k : Nat) (a : α) (v : V) (H : Hp), H1 L = none → ¬ M L → as[k]? = some a → p a = true → Rep K (Mq M L) H v (enc a) → Wf (Mq M L) (Iq I L (.lst acc)) → Iq I L (.lst acc) H → Ex (Mq M L) H1 H →
      ∀ Qe : VK, (∀ y d H4, P a d → Rep K (Mq M L) H4 y d → Iq I L (.lst acc) H4 → Ex (Mq M L) H H4 → Qe y H4) → te ((wipe σ vs).set i (some v)) H Qe)
    (hq : ∀ y ds H', A2 P (as.filter p) ds → Rep K M H' y (.lst ds) → Ex M H1 H' → I H' → Q y H') : srcR K (LcR (gName i) tt te vs σ Q) x H1 := by
  obtain ⟨S, xs, rfl, r, hS⟩ := src_of hx hd
  have hl := reps_len r
  have key : ∀ {J : It} {G : Hp → Prop} {Y : Nat → Hp → V → Hp → Prop}, L2.Walk J as.length G Y → (∀ H', Ex M H1 H' → G H') → (∀ k H x H', Y k H x H' → H' = H ∧ xs[k]? = some x) → LcR (gName i) tt te vs σ Q J H1 := fun {J G Y} w hG hY => by
    refine lc_any (K := K) w hw hI p P (fun k _ => (wipe σ vs).set i (some (xs.getD k .non))) hG hlen (fun k a ha => ?_) (fun k a => hwp _) ?_ ?_ ?_
    · exact bd_name fun H x H' y => by
        obtain ⟨e1, e2⟩ := hY k H x H' y
        exact ⟨e1, by simp [List.getD, e2]⟩
    · intro L acc k a H hL nL ha wf hi ex Qt q
      obtain ⟨v, hv, rv⟩ := reps_at r ha
      have e : xs.getD k .non = v := by simp [List.getD, hv]
      rw [e]
      exact ht L acc k a v H hL nL ha ((rv.off hL).ex ex) wf hi ex Qt q
    · intro L acc k a H hL nL ha hp wf hi ex Qt q
      obtain ⟨v, hv, rv⟩ := reps_at r ha
      have e : xs.getD k .non = v := by simp [List.getD, hv]
      rw [e]
      exact he L acc k a v H hL nL ha hp ((rv.off hL).ex ex) wf hi ex Qt q
    · exact fun L ds H' hL a2 rp ex hi => hq _ ds H' a2 rp ex hi
  cases S with
  | lst a =>
    refine .inl ⟨a, rfl, ⟨xs, hS H1 (Ex.refl _)⟩, ?_⟩
    have w := walk_list (K := K) (a := a) (xs := xs)
    rw [hl] at w
    exact key w hS fun k H x H' y => y
  | tup a =>
    refine .inr (.inl ⟨a, rfl, ⟨xs, hS H1 (Ex.refl _)⟩, ?_⟩)
    have w := walk_tup (K := K) (a := a) (xs := xs)
    rw [hl] at w
    exact key w hS fun k H x H' y => y
  | txt z =>
    refine .inr (.inr ⟨z, rfl, ?_⟩)
    have hxs : xs = signs z := hS H1 (Ex.refl _)
    have w := walk_str (z := z)
    have hz : z.cps.size = as.length := by rw [← hl, hxs]; simp [signs]
    rw [hz] at w
    refine key w (fun _ _ => trivial) fun k H x H' y => ⟨y.1, ?_⟩
    obtain ⟨_, c, e1, e2⟩ := y
    rw [hxs, e2]
    simp [signs, e1]
/-- [e for x, y in zip(s, t) if ..] -/
theorem lc_zip {i j : Nat} {x1 x2 : V} {d1 d2 : D} (hw : Wf M I) (hI : I H1) (hx : Rep K M H1 x1 d1) (hd : d1.elems = some (as.map enc)) (hx2 : Rep K M H1 x2 d2) (hd2 : d2.elems = some (bs.map enc2)) (hlen : as.length ≤ sizeLine)
    (hwp : ∀ v w, wipe (((wipe σ vs).set i (some v)).set j (some w)) vs = wipe σ vs) (p : α × β → Bool) (P : α × β → D → Prop)
    (ht : ∀ (L : Addr) (acc : List V) (k : Nat) (a : α) (b : β) (v w : V) (H : Hp), H1 L = none → ¬ M L → as[k]? = some a → bs[k]? = some b → Rep K (Mq M L) H v (enc a) → Rep K (Mq M L) H w (enc2 b) → Wf (Mq M L) (Iq I L (.lst acc)) → Iq I L (.lst acc) H → Ex (Mq M L) H1 H →
      ∀ Qt : Bool → Hp → Prop, (∀ H3, Iq I L (.lst acc) H3 → Ex (Mq M L) H H3 → Qt (p (a, b)) H3) → tt (((wipe σ vs).set i (some v)).set j (some w)) H Qt)
    (he : ∀ (L : Addr) (acc : List V) (k : Nat) (a : α) (b : β) (v w : V) (H : Hp), H1 L = none → ¬ M L → as[k]? = some a → bs[k]? = some b → p (a, b) = true → Rep K (Mq M L) H v (enc a) → Rep K (Mq M L) H w (enc2 b) → Wf (Mq M L) (Iq I L (.lst acc)) → Iq I L (.lst acc) H → Ex (Mq M L) H1 H →
      ∀ Qe : VK, (∀ y d H4, P (a, b) d → Rep K (Mq M L) H4 y d → Iq I L (.lst acc) H4 → Ex (Mq M L) H H4 → Qe y H4) → te (((wipe σ vs).set i (some v)).set j (some w)) H Qe)
    (hq : ∀ y ds H', A2 P ((as.zip bs).filter p) ds → Rep K M H' y (.lst ds) → Ex M H1 H' → I H' → Q y H') : zipR K (LcR (gTup K 2 (gCons (gName i) (gCons (gName j) gNil))) tt te vs σ Q) [x1, x2] H1 := by
  obtain ⟨S1, xs, rfl, r, hS⟩ := src_of hx hd
  obtain ⟨S2, ys, rfl, r2, hS2⟩ := src_of hx2 hd2
  have hl := reps_len r
  have hl2 := reps_len r2
  refine ⟨S1, S2, xs, ys, rfl, hS _ (Ex.refl _), hS2 _ (Ex.refl _), ?_⟩
  have hz : (as.zip bs).length = min xs.length ys.length := by rw [List.length_zip, hl, hl2]
  have at_ : ∀ {k : Nat} {ab : α × β}, (as.zip bs)[k]? = some ab → as[k]? = some ab.1 ∧ bs[k]? = some ab.2 := fun {k ab} h => by
    obtain ⟨a, b⟩ := ab
    exact List.getElem?_zip_eq_some.mp h
  refine lc_any (K := K) (walk_zipS hz) hw hI p P (fun k _ => ((wipe σ vs).set i (some (xs.getD k .non))).set j (some (ys.getD k .non))) (fun H' e => ⟨hS H' e, hS2 H' e⟩) (by rw [List.length_zip]; omega) (fun k a ha => ?_) (fun k a => hwp _ _) ?_ ?_ ?_
  · exact bd_pair fun H x H' y => by
      obtain ⟨T, u, v, e1, e2, e3, e4, e5⟩ := y
      refine ⟨T, e1, e2, ?_⟩
      simp [List.getD, e4, e5, e3]
  · intro L acc k ab H hL nL ha wf hi ex Qt q
    obtain ⟨h1, h2⟩ := at_ ha
    obtain ⟨v, hv, rv⟩ := reps_at r h1
    obtain ⟨w, hv2, rv2⟩ := reps_at r2 h2
    have e : xs.getD k .non = v := by simp [List.getD, hv]
    have e2 : ys.getD k .non = w := by simp [List.getD, hv2]
    rw [e, e2]
    exact ht L acc k ab.1 ab.2 v w H hL nL h1 h2 ((rv.off hL).ex ex) ((rv2.off hL).ex ex) wf hi ex Qt q
  · intro L acc k ab H hL nL ha hp wf hi ex Qt q
    obtain ⟨h1, h2⟩ := at_ ha
    obtain ⟨v, hv, rv⟩ := reps_at r h1
    obtain ⟨w, hv2, rv2⟩ := reps_at r2 h2
    have e : xs.getD k .non = v := by simp [List.getD, hv]
    have e2 : ys.getD k .non = w := by simp [List.getD, hv2]
    rw [e, e2]
    exact he L acc k ab.1 ab.2 v w H hL nL h1 h2 hp ((rv.off hL).ex ex) ((rv2.off hL).ex ex) wf hi ex Qt q
  · exact fun L ds H' hL a2 rp ex hi => hq _ ds H' a2 rp ex hi
/-- [e for i, x in enumerate(s) if ..] -/
theorem lc_enum {i j : Nat} {x1 : V} {d1 : D} (hw : Wf M I) (hI : I H1) (hx : Rep K M H1 x1 d1) (hd : d1.elems = some (as.map enc)) (hlen : as.length ≤ sizeLine)
    (hwp : ∀ v w, wipe (((wipe σ vs).set i (some v)).set j (some w)) vs = wipe σ vs) (p : α × Nat → Bool) (P : α × Nat → D → Prop)
    (ht : ∀ (L : Addr) (acc : List V) (k : Nat) (a : α) (v : V) (H : Hp), H1 L = none → ¬ M L → as[k]? = some a → Rep K (Mq M L) H v (enc a) → Wf (Mq M L) (Iq I L (.lst acc)) → Iq I L (.lst acc) H → Ex (Mq M L) H1 H →
      ∀ Qt : Bool → Hp → Prop, (∀ H3, Iq I L (.lst acc) H3 → Ex (Mq M L) H H3 → Qt (p (a, k)) H3) → tt (((wipe σ vs).set i (some (.int (k : Nat)))).set j (some v)) H Qt)
    (he : ∀ (L : Addr) (acc : List V) (k : Nat) (a : α) (v : V) (H : Hp), H1 L = none → ¬ M L → as[k]? = some a → p (a, k) = true → Rep K (Mq M L) H v (enc a) → Wf (Mq M L) (Iq I L (.lst acc)) → Iq I L (.lst acc) H → Ex (Mq M L) H1 H →
      ∀ Qe : VK, (∀ y d H4, P (a, k) d → Rep K (Mq M L) H4 y d → Iq I L (.lst acc) H4 → Ex (Mq M L) H H4 → Qe y H4) → te (((wipe σ vs).set i (some (.int (k : Nat)))).set j (some v)) H Qe)
    (hq : ∀ y ds H', A2 P ((as.zipIdx).filter p) ds → Rep K M H' y (.lst ds) → Ex M H1 H' → I H' → Q y H') : enumR K (LcR (gTup K 2 (gCons (gName i) (gCons (gName j) gNil))) tt te vs σ Q) [x1] H1 := by
  obtain ⟨S1, xs, rfl, r, hS⟩ := src_of hx hd
  have hl := reps_len r
  refine ⟨S1, xs, rfl, hS _ (Ex.refl _), ?_⟩
  have w := walk_enumS (K := K) (S := S1) (xs := xs)
  rw [show xs.length = as.zipIdx.length by simp [hl]] at w
  have at_ : ∀ {k : Nat} {ab : α × Nat}, as.zipIdx[k]? = some ab → as[k]? = some ab.1 ∧ ab.2 = k := fun {k ab} h => by
    rw [List.getElem?_zipIdx] at h
    cases e : as[k]? with
    | none => rw [e] at h; cases h
    | some a => rw [e] at h; cases h; exact ⟨rfl, by simp⟩
  refine lc_any (K := K) w hw hI p P (fun k _ => ((wipe σ vs).set i (some (.int (k : Nat)))).set j (some (xs.getD k .non))) (fun H' e => hS H' e) (by simpa using hlen) (fun k a ha => ?_) (fun k a => hwp _ _) ?_ ?_ ?_
  · exact bd_pair fun H x H' y => by
      obtain ⟨T, u, v, e1, e2, e3, e4, e5⟩ := y
      refine ⟨T, e1, e2, ?_⟩
      cases e4
      simp [List.getD, e5, e3]
  · intro L acc k ab H hL nL ha wf hi ex Qt q
    obtain ⟨h1, h2⟩ := at_ ha
    obtain ⟨a, b⟩ := ab
    simp only at h1 h2
    subst h2
    obtain ⟨v, hv, rv⟩ := reps_at r h1
    have e : xs.getD b .non = v := by simp [List.getD, hv]
    rw [e]
    exact ht L acc b a v H hL nL h1 ((rv.off hL).ex ex) wf hi ex Qt q
  · intro L acc k ab H hL nL ha hp wf hi ex Qt q
    obtain ⟨h1, h2⟩ := at_ ha
    obtain ⟨a, b⟩ := ab
    simp only at h1 h2
    subst h2
    obtain ⟨v, hv, rv⟩ := reps_at r h1
    have e : xs.getD b .non = v := by simp [List.getD, hv]
    rw [e]
    exact he L acc b a v H hL nL h1 hp ((rv.off hL).ex ex) wf hi ex Qt q
  · exact fun L ds H' hL a2 rp ex hi => hq _ ds H' a2 rp ex hi
/-- [e for k in range(..) if ..] -/
theorem lc_rng {i : Nat} {lo : Int} {n : Nat} (hw : Wf M I) (hI : I H1) (hlen : n ≤ sizeLine) (hwp : ∀ v, wipe ((wipe σ vs).set i (some v)) vs = wipe σ vs) (p : Nat → Bool) (P : Nat → D → Prop)
    (ht : ∀ (L : Addr) (acc : List V) (k : Nat) (H : Hp), H1 L = none → ¬ M L → k < n → Wf (Mq M L) (Iq I L (.lst acc)) → Iq I L (.lst acc) H → Ex (Mq M L) H1 H →
      ∀ Qt : Bool → Hp → Prop, (∀ H3, Iq I L (.lst acc) H3 → Ex (Mq M L) H H3 → Qt (p k) H3) → tt ((wipe σ vs).set i (some (.int (lo + (k : Nat))))) H Qt)
    (he : ∀ (L : Addr) (acc : List V) (k : Nat) (H : Hp), H1 L = none → ¬ M L → k < n → p k = true → Wf (Mq M L) (Iq I L (.lst acc)) → Iq I L (.lst acc) H → Ex (Mq M L) H1 H →
      ∀ Qe : VK, (∀ y d H4, P k d → Rep K (Mq M L) H4 y d → Iq I L (.lst acc) H4 → Ex (Mq M L) H H4 → Qe y H4) → te ((wipe σ vs).set i (some (.int (lo + (k : Nat))))) H Qe)
    (hq : ∀ y ds H', A2 P ((List.range n).filter p) ds → Rep K M H' y (.lst ds) → Ex M H1 H' → I H' → Q y H') : LcR (gName i) tt te vs σ Q (Itr lo n) H1 := by
  have w := walk_range (lo := lo) (n := n)
  rw [show Walk (Itr lo n) n = Walk (Itr lo n) (List.range n).length by simp] at w
  have at_ : ∀ {k a : Nat}, (List.range n)[k]? = some a → k < n ∧ a = k := fun {k a} h => by
    have hk := (List.getElem?_eq_some_iff.mp h).1
    rw [List.length_range] at hk
    rw [List.getElem?_range hk] at h
    cases h
    exact ⟨hk, rfl⟩
  refine lc_any (K := K) w hw hI p P (fun k _ => (wipe σ vs).set i (some (.int (lo + (k : Nat))))) (fun _ _ => trivial) (by simpa using hlen) (fun k a ha => ?_) (fun k a => hwp _) ?_ ?_ ?_
  · exact bd_name fun H x H' y => y
  · intro L acc k a H hL nL ha wf hi ex Qt q
    obtain ⟨h1, rfl⟩ := at_ ha
    exact ht L acc a H hL nL h1 wf hi ex Qt q
  · intro L acc k a H hL nL ha hp wf hi ex Qt q
    obtain ⟨h1, rfl⟩ := at_ ha
    exact he L acc a H hL nL h1 hp wf hi ex Qt q
  · exact fun L ds H' hL a2 rp ex hi => hq _ ds H' a2 rp ex hi
/-! ### loops -/
theorem for_src {i : Nat} {x : V} {d : D} {tb : TS} {E : Ends} (hx : Rep K M H1 x d) (hd : d.elems = some (as.map enc)) (Pv : Nat → L2.St → Hp → Prop) (h0 : Pv 0 σ H1) (hG : ∀ k σ H, Pv k σ H → Ex M H1 H)
    (hs : ∀ k a v σ H, as[k]? = some a → Pv k σ H → Rep K M H v (enc a) → tb { E with nx := Pv (k + 1), ct := Pv (k + 1), bk := E.nx } (σ.set i (some v)) H) (hq : ∀ σ H, Pv as.length σ H → E.nx σ H) : srcR K (ForR (gName i) tb E σ) x H1 := by
  obtain ⟨S, xs, rfl, r, hS⟩ := src_of hx hd
  have hl := reps_len r
  have key : ∀ {J : It} {G : Hp → Prop} {Y : Nat → Hp → V → Hp → Prop}, L2.Walk J as.length G Y → (∀ H', Ex M H1 H' → G H') → (∀ k H x H', Y k H x H' → H' = H ∧ xs[k]? = some x) → ForR (gName i) tb E σ J H1 := fun {J G Y} w hG2 hY => by
    refine for_it w Pv h0 (fun k σ H _ h => hG2 _ (hG k σ H h)) (fun k x σ H H' hk h y => ?_) hq
    obtain ⟨rfl, e2⟩ := hY _ _ _ _ y
    have ha : as[k]? = some as[k] := by simp [hk]
    obtain ⟨v, hv, rv⟩ := reps_at r ha
    rw [hv] at e2
    cases e2
    exact hs k _ _ σ _ ha h (rv.ex (hG _ _ _ h))
  cases S with
  | lst a =>
    refine .inl ⟨a, rfl, ⟨xs, hS H1 (Ex.refl _)⟩, ?_⟩
    have w := walk_list (K := K) (a := a) (xs := xs)
    rw [hl] at w
    exact key w hS fun k H x H' y => y
  | tup a =>
    refine .inr (.inl ⟨a, rfl, ⟨xs, hS H1 (Ex.refl _)⟩, ?_⟩)
    have w := walk_tup (K := K) (a := a) (xs := xs)
    rw [hl] at w
    exact key w hS fun k H x H' y => y
  | txt z =>
    refine .inr (.inr ⟨z, rfl, ?_⟩)
    have hxs : xs = signs z := hS H1 (Ex.refl _)
    have w := walk_str (z := z)
    have hz : z.cps.size = as.length := by rw [← hl, hxs]; simp [signs]
    rw [hz] at w
    refine key w (fun _ _ => trivial) fun k H x H' y => ⟨y.1, ?_⟩
    obtain ⟨_, c, e1, e2⟩ := y
    rw [hxs, e2]
    simp [signs, e1]
theorem for_rng {i : Nat} {lo : Int} {n : Nat} {tb : TS} {E : Ends} (Pv : Nat → L2.St → Hp → Prop) (h0 : Pv 0 σ H1)
    (hs : ∀ k σ H, k < n → Pv k σ H → tb { E with nx := Pv (k + 1), ct := Pv (k + 1), bk := E.nx } (σ.set i (some (.int (lo + (k : Nat))))) H) (hq : ∀ σ H, Pv n σ H → E.nx σ H) : ForR (gName i) tb E σ (Itr lo n) H1 := by
  refine for_it walk_range Pv h0 (fun _ _ _ _ _ => trivial) (fun k x σ H H' hk h y => ?_) hq
  obtain ⟨rfl, rfl⟩ := y
  exact hs k σ _ hk h
end
end Nt

namespace Nt
open PySem PySem.Spec PyProof.Rows L2
/-! ### a def that keeps a promise -/
structure Df (P : Program) (w : World) (K : PySem.W.Frag) (mg : Str → Option Value) (base : Heap) (k : Nat) (x : Str) (ps : List Str) (dfl : List V) (sp : Sp) : Prop where
  mgx : mg x = some (.ref (He.ga K x))
  ok : ∃ fd, FnOk P w K mg base (L2.CX P w) k (He.ga K x) fd ps sp ∧ ∀ j, j ≤ dfl.length → ∃ ds, Vals (dfl.drop j) ds ∧ Binds K fd ps ds
  kp : PySem.W.keepIn K (.ref (He.ga K x)) = true
/-- where a def stands, and how it is bound: what the head tells -/
structure At (K : PySem.W.Frag) (mg : Str → Option Value) (x : Str) (st : Stmt) (ps : List Str) (dfl : List V) : Prop where
  mgx : mg x = some (.ref (He.ga K x))
  ex : ∃ fd, FunD K x x (defArgs st) (defBody st) (defScope st) dfl [] (He.ga K x) fd ∧ ∀ j, j ≤ dfl.length → ∃ ds, Vals (dfl.drop j) ds ∧ Binds K fd ps ds
section
variable {P : Program} {w : World} {K : PySem.W.Frag} {mg : Str → Option Value} {base : Heap} {k : Nat} {x : Str} {ps : List Str} {dfl : List V} {sp : Sp} {st : Stmt} {N : List Str}
/-- a def that raises nothing -/
theorem At.df (F : At K mg x st ps dfl) (S : FnScope N ps (defScope st)) (len : ∀ vs H Q E, sp vs H Q E → vs.length = ps.length)
    (hbody : ∀ (f : Addr) (cdv : Value) (A : Around) (outer : List Env) (s : Shared) (H : Hp) (vs : List V) (Q : VK) (E : XK), Room k (A.deeper (envOfC x (defScope st) s.heap.objs.size f cdv)) → sp vs H Q E →
      ∃ t, PSs (cxOf (L2.CX P w) P w K mg base N x (defScope st) f cdv A outer s H E).nox (defBody st) t ∧ t { nx := fun _ H' => Q .non H', rt := Q } (start N vs) H) : Df P w K mg base (k + 1) x ps dfl sp := by
  obtain ⟨fd, F1, F2⟩ := F.ex
  refine ⟨F.mgx, ⟨fd, F1.ok S len fun cdv A outer s H vs Q E hr h => ?_, F2⟩, F1.kp⟩
  obtain ⟨t, h1, h2⟩ := hbody _ cdv A outer s H vs Q E hr h
  exact ⟨t, h1.nox, h2⟩
theorem At.dfX (F : At K mg x st ps dfl) (S : FnScope N ps (defScope st)) (len : ∀ vs H Q E, sp vs H Q E → vs.length = ps.length)
    (hbody : ∀ (f : Addr) (cdv : Value) (A : Around) (outer : List Env) (s : Shared) (H : Hp) (vs : List V) (Q : VK) (E : XK), Room k (A.deeper (envOfC x (defScope st) s.heap.objs.size f cdv)) → sp vs H Q E →
      ∃ t, PSs (cxOf (L2.CX P w) P w K mg base N x (defScope st) f cdv A outer s H E) (defBody st) t ∧ t { nx := fun _ H' => Q .non H', rt := Q } (start N vs) H) : Df P w K mg base (k + 1) x ps dfl sp := by
  obtain ⟨fd, F1, F2⟩ := F.ex
  exact ⟨F.mgx, ⟨fd, F1.ok S len fun cdv A outer s H vs Q E hr h => hbody _ cdv A outer s H vs Q E hr h, F2⟩, F1.kp⟩
end
section
variable {X : Cx} {k : Nat} {x : Str} {ps : List Str} {dfl : List V} {sp : Sp} {e : Expr} {es : List Expr} {t : TA} {p pos : Pos}
/-- f(e, ..): what is not written comes from the defaults behind the first j -/
theorem pe_df (j : Nat) (G : Df X.prog X.w X.K X.mg X.base k x ps dfl sp) (hr : Room k X.A) (hg : Gl X x) (ha : PA X (e :: es) t) (hj : j ≤ dfl.length := by decide) (hdb : (x == ("__debug__" : Str)) = false := by decide)
    (he : starEach (e :: es) X.env = (false, eval e X.env) :: starEach es X.env := by rfl) (hpl : (backTo pos (starEach es X.env)).any (·.1) = false := by rfl) :
    PE X (.Call (.Name x p) (e :: es) [] pos) (tCall sp (dfl.drop j) E0 t) := by
  obtain ⟨fd, F, hb⟩ := G.ok
  obtain ⟨ds, hd, b⟩ := hb j hj
  exact pe_call F hr hg G.mgx G.kp b hd passL ha hdb he hpl
theorem pe_df0 (j : Nat) (G : Df X.prog X.w X.K X.mg X.base k x ps dfl sp) (hr : Room k X.A) (hg : Gl X x) (hj : j ≤ dfl.length := by decide) (hdb : (x == ("__debug__" : Str)) = false := by decide) :
    PE X (.Call (.Name x p) [] [] pos) (tCall sp (dfl.drop j) E0 tNil) := by
  obtain ⟨fd, F, hb⟩ := G.ok
  obtain ⟨ds, hd, b⟩ := hb j hj
  exact pe_call0 F hr hg G.mgx G.kp b hd passL hdb
end
/-! ### more universal operators -/
section
variable {X : Cx}
def rMulU : R2 := fun x y H Q => rI CMulW (fun i j => .int (i * j)) x y H Q ∨ rI CMul (fun i j => .int (i * j)) x y H Q ∨ rRepS x y H Q ∨ rRep x y H Q
theorem op_mulU : OpR X (binaryOp .Mult) rMulU := op_mulW.or (op_mul.or (op_repS.or op_rep))
def rEqU (K : PySem.W.Frag) : R2 := fun x y H Q => rEq x y H Q ∨ rEqD K x y H Q
theorem op_eqU (hu : X.A.units + 64 < cLine) : OpR X (compareOp .Eq) (rEqU X.K) := op_eq.or (op_eqD hu)
def rNeU (K : PySem.W.Frag) : R2 := fun x y H Q => rNe x y H Q ∨ rNeD K x y H Q
theorem op_neU (hu : X.A.units + 64 < cLine) : OpR X (compareOp .NotEq) (rNeU X.K) := op_ne.or (op_neD hu)
theorem units5 {k : Nat} {A : Around} (r : Room k A) : A.units + 65 < cLine := by have := r.un; omega
def rInU (K : PySem.W.Frag) : R2 := fun x y H Q => rInS x y H Q ∨ rIn K false x y H Q ∨ rInD K x y H Q
theorem op_inU (hv : X.A.units + 65 < cLine) : OpR X (compareOp .In) (rInU X.K) := op_inS.or (op_in_seq.or (op_inD hv))
def rNiU (K : PySem.W.Frag) : R2 := fun x y H Q => rNotInS x y H Q ∨ rIn K true x y H Q ∨ rNotInD K x y H Q
theorem op_niU (hv : X.A.units + 65 < cLine) : OpR X (compareOp .NotIn) (rNiU X.K) := op_notInS.or (op_notIn_seq.or (op_notInD hv))
theorem SlR.or {r r' : V → Option Int → Option Int → Hp → VK → Prop} (h : L2.SlR X r) (h' : L2.SlR X r') : L2.SlR X (fun x l u H Q => r x l u H Q ∨ r' x l u H Q) := by
  intro pins s σ H x v vl vu lo hi sl Q I rx hs pl pu z
  rcases z with z | z
  · exact h pins s σ H x v vl vu lo hi sl Q I rx hs pl pu z
  · exact h' pins s σ H x v vl vu lo hi sl Q I rx hs pl pu z
def rSlU (K : PySem.W.Frag) : V → Option Int → Option Int → Hp → VK → Prop := fun x l u H Q => rSlL K x l u H Q ∨ rSlA K x l u H Q ∨ rSlS x l u H Q
theorem sl_U : L2.SlR X (rSlU X.K) := SlR.or sl_list (SlR.or sl_tupA sl_str)
def rLen (K : PySem.W.Frag) : List V → Hp → VK → Prop := fun xs H Q => ∃ x n, xs = [x] ∧ LenV K x H n ∧ Q (.int n) H
theorem call_lenU : CallR X (.builtin "len") (rLen X.K) := call_len
def rInt1 : List V → Hp → VK → Prop := fun xs H Q => (∃ i, xs = [.int i] ∧ Q (.int i) H) ∨ ∃ k, xs = [.bl k] ∧ Q (.int (if k then 1 else 0)) H
theorem call_intU : CallR X (.type "int") rInt1 := call_int1
def rStr1 : List V → Hp → VK → Prop := fun xs H Q => ∃ i, xs = [.int i] ∧ i.natAbs.log2 < 1920 ∧ Q (.str (toString i)) H
theorem call_strU : CallR X (.type "str") rStr1 := call_str_int
def rListS (K : PySem.W.Frag) : List V → Hp → VK → Prop := fun xs H Q => ∃ p ys, xs = [.ref p] ∧ (SqL K H p ys ∨ SqT K H p ys) ∧ ∀ l, H l = none → Q (.ref l) (upd H l (.lst ys))
def rList1 (K : PySem.W.Frag) : List V → Hp → VK → Prop := fun xs H Q => rListS K xs H Q ∨ rListD xs H Q
theorem call_listU (hc : X.calm = true) : CallR X (.type "list") (rList1 X.K) := by
  intro pins s σ H xs us Q I r z
  rcases z with z | z
  · exact call_list_of pins s σ H xs us Q I r z
  · exact call_list_dK hc pins s σ H xs us Q I r z
def rTup1 (K : PySem.W.Frag) : List V → Hp → VK → Prop := fun xs H Q => ∃ p ys, xs = [.ref p] ∧ ((SqL K H p ys ∧ ∀ l, H l = none → Q (.ref l) (upd H l (.tup ys))) ∨ (SqT K H p ys ∧ Q (.ref p) H))
theorem call_tupU : CallR X (.type "tuple") (rTup1 X.K) := call_tuple_of
def rAbs : List V → Hp → VK → Prop := fun xs H Q => ∃ i, xs = [.int i] ∧ Q (.int (if i < 0 then -i else i)) H
theorem call_absU : CallR X (.builtin "abs") rAbs := call_abs
def rJoin (K : PySem.W.Frag) : V → List V → Hp → VK → Prop := fun x xs H Q => ∃ a p, ∃ ys : List Str, x = .str a ∧ xs = [.ref p] ∧ (SqL K H p (ys.map V.str) ∨ SqT K H p (ys.map V.str)) ∧ (ys.map (·.length)).sum + ys.length * a.length ≤ 16777216 ∧ Q (.str (Txt.join a ys)) H
theorem pe_joinU {o e : Expr} {to te : TE} {apos pos : Pos} (ho : PE X o to) (he : PE X e te) (hs : starEach [e] X.env = [(false, eval e X.env)] := by rfl) (hbase : attributeBase o "join" X.env (eval o X.env) = eval o X.env := by rfl) (hline : (apos.endLine == pos.line) = true := by rfl) :
    PE X (.Call (.Attribute o "join" apos) [e] [] pos) (tM1 (rJoin X.K) to te) := pe_join ho he hs hbase hline
theorem pt_tru {a : Expr} {ta : TE} (ha : PE X a ta) (he : ∀ whole, isTrue a X.env whole = (do let v ← whole; standAt a.pos; holding [v] (truthy v)) := by intro _; rfl) : PT X a (tTru X.K ta) := pt_truth ha he
end
end Nt

namespace Nt
open PySem PySem.Spec PyProof.Rows L2
section
variable {X : Cx}
def rSubU : R2 := rI0 fun i j => .int (i - j)
theorem op_subU : OpR X (binaryOp .Sub) rSubU := op_sub
def rDivU : R2 := rI CDivW fun i j => .int (i / j)
theorem op_divU : OpR X (binaryOp .FloorDiv) rDivU := op_fdivW
def rModU : R2 := rI (fun _ j => 0 < j) fun i j => .int (i % j)
theorem op_modU : OpR X (binaryOp .Mod) rModU := op_mod
def rPowU : R2 := rI CPow fun i j => .int (i ^ j.toNat)
theorem op_powU : OpR X (binaryOp .Pow) rPowU := op_pow
def rAndU : R2 := rI0 fun i j => .int (Builtin.bitAnd i j)
theorem op_andU : OpR X (binaryOp .BitAnd) rAndU := op_and
def rOrU : R2 := rI0 fun i j => .int (Builtin.bitOr i j)
theorem op_orU : OpR X (binaryOp .BitOr) rOrU := op_or
def rXorU : R2 := rI0 fun i j => .int (Builtin.bitXor i j)
theorem op_xorU : OpR X (binaryOp .BitXor) rXorU := op_xor
def rNegU : V → Hp → VK → Prop := rU fun i => .int (-i)
theorem un_negU : UnR X (unaryOp .USub) rNegU := un_neg
def rInvU : V → Hp → VK → Prop := rU fun i => .int (Builtin.bitNot i)
theorem un_invU : UnR X (unaryOp .Invert) rInvU := un_inv
def rLtU : R2 := rI0 fun i j => .bl (decide (i < j))
theorem op_ltU : OpR X (compareOp .Lt) rLtU := op_lt
def rLeU : R2 := rI0 fun i j => .bl (decide (i ≤ j))
theorem op_leU : OpR X (compareOp .LtE) rLeU := op_le
def rGtU : R2 := rI0 fun i j => .bl (decide (j < i))
theorem op_gtU : OpR X (compareOp .Gt) rGtU := op_gt
def rGeU : R2 := rI0 fun i j => .bl (decide (j ≤ i))
theorem op_geU : OpR X (compareOp .GtE) rGeU := op_ge
def rIsBU : R2 := fun x y H Q => ∃ a b : Bool, x = .bl a ∧ y = .bl b ∧ Q (.bl (decide (a = b))) H
theorem op_isBU : OpR X (compareOp .Is) rIsBU := op_isBl
def rNotBU : R2 := fun x y H Q => ∃ a b : Bool, x = .bl a ∧ y = .bl b ∧ Q (.bl (!decide (a = b))) H
theorem op_notBU : OpR X (compareOp .IsNot) rNotBU := op_notBl
theorem pe_strT {x : Str} {l : List Nat} {j : Nat} {pos : Pos} (h : x = T l) : PE X (.Constant (.str x) j pos) (tC (.str (T l))) := by
  subst h
  exact pe_str
theorem pe_globS {x : Str} {z : Str} {pos : Pos} (hg : Gl X x) (h : ∃ t, X.mg x = some (.str z t)) (hd : (x == ("__debug__" : Str)) = false := by decide) : PE X (.Name x pos) (tC (.str z)) := by
  obtain ⟨t, h⟩ := h
  exact pe_glob hg h ⟨t, rfl⟩ hd
theorem pe_globI {x : Str} {z : Int} {pos : Pos} (hg : Gl X x) (h : ∃ t, X.mg x = some (.int z t)) (hd : (x == ("__debug__" : Str)) = false := by decide) : PE X (.Name x pos) (tC (.int z)) := by
  obtain ⟨t, h⟩ := h
  exact pe_glob hg h ⟨t, rfl⟩ hd
def rCount : V → List V → Hp → VK → Prop := fun x xs H Q => ∃ a b, x = .str a ∧ xs = [.str b] ∧ Q (.int (Txt.count a b)) H
theorem pe_countU {o e : Expr} {to te : TE} {apos pos : Pos} (ho : PE X o to) (he : PE X e te) (hs : starEach [e] X.env = [(false, eval e X.env)] := by rfl) (hbase : attributeBase o "count" X.env (eval o X.env) = eval o X.env := by rfl) (hline : (apos.endLine == pos.line) = true := by rfl) :
    PE X (.Call (.Attribute o "count" apos) [e] [] pos) (tM1 rCount to te) := pe_m1 F.slot_str_count F.type_str_count mt_count ho he hs hbase hline
def rMax : List V → Hp → VK → Prop := fun xs H Q => ∃ i j, xs = [.int i, .int j] ∧ Q (.int (if j > i then j else i)) H
theorem call_maxU (hc : X.calm = true) : CallR X (.builtin "max") rMax := call_max2 hc
end
end Nt

namespace Nt
open PySem PySem.Spec PyProof.Rows L2
/-- int of a whole number, a bool or a text -/
def rIntA : List V → Hp → VK → Prop := fun xs H Q => rInt1 xs H Q ∨ ∃ a n, xs = [.str a] ∧ PySem.intText? a = some n ∧ a.length ≤ 640 ∧ Q (.int n) H
theorem call_intA {X : Cx} : CallR X (.type "int") rIntA := call_intU.or call_int_str
end Nt

namespace Nt
open PySem PySem.Spec PyProof.Rows L2
/-! ### readings, step by step -/
def TupK (Q : VK) : List V → Hp → Prop := fun xs H1 => xs.length ≤ sizeLine ∧ ∀ p, H1 p = none → Q (.ref p) (upd H1 p (.tup xs))
def LstK (Q : VK) : List V → Hp → Prop := fun xs H1 => xs.length ≤ sizeLine ∧ ∀ p, H1 p = none → Q (.ref p) (upd H1 p (.lst xs))
def RevK (K : PySem.W.Frag) (Q : VK) : V → Hp → Prop := fun x H1 => ∃ a xs, x = .ref a ∧ SqL K H1 a xs ∧ ∀ p, H1 p = none → Q (.ref p) (upd H1 p (.lst xs.reverse))
section
variable {K : PySem.W.Frag} {M : Addr → Prop} {I : Hp → Prop} {σ : L2.St} {H : Hp} {Q : VK} {QT : Bool → Hp → Prop} {QA : List V → Hp → Prop} {QO : Option Int → Hp → Prop} {v x y : V} {ta tb tc : TE} {t u : TT} {a b : TA} {E : Ends} {s1 s2 : TS} {r r' : R2} {i j k : Int} {l m : List Nat} {c : Bool}
theorem sx_var {n : Nat} (h : σ[n]? = some (some v)) (q : Q v H) : tVar n σ H Q := ⟨v, h, q⟩
theorem sx_c (q : Q v H) : tC v σ H Q := q
theorem sx_op (h : ta σ H fun x H1 => tb σ H1 fun y H2 => r x y H2 Q) : tOp r ta tb σ H Q := h
theorem sx_un {r : V → Hp → VK → Prop} (h : ta σ H fun x H1 => r x H1 Q) : tUn r ta σ H Q := h
theorem sx_if (h : t σ H fun c H1 => if c = true then ta σ H1 Q else tb σ H1 Q) : tIf t ta tb σ H Q := h
theorem sx_andV (h : ta σ H fun x H1 => ∃ c, x = .bl c ∧ if c = true then tb σ H1 Q else Q (.bl false) H1) : tAndV ta tb σ H Q := h
theorem sx_orV (h : ta σ H fun x H1 => ∃ c, x = .bl c ∧ if c = true then Q (.bl true) H1 else tb σ H1 Q) : tOrV ta tb σ H Q := h
theorem sx_notV (h : ta σ H fun x H1 => ∃ c, x = .bl c ∧ Q (.bl (!c)) H1) : tNotV ta σ H Q := h
theorem sx_chain (h : ta σ H fun x H1 => tb σ H1 fun y H2 => r x y H2 fun z H3 => ∃ k, z = .bl k ∧ if k = true then tc σ H3 (fun w H4 => r' y w H4 Q) else Q (.bl false) H3) : tChain r r' ta tb tc σ H Q := h
theorem sx_call {sp : Sp} {d : List V} {X : XK} (h : a σ H fun vs H1 => sp (vs ++ d) H1 Q X) : tCall sp d X a σ H Q := h
theorem sx_cb {r : List V → Hp → VK → Prop} (h : a σ H fun vs H1 => r vs H1 Q) : tCB r a σ H Q := h
theorem sx_m1 {r : V → List V → Hp → VK → Prop} (h : ta σ H fun x H1 => (∃ a, x = .str a) ∧ tb σ H1 fun y H2 => r x [y] H2 Q) : tM1 r ta tb σ H Q := h
theorem sx_bm {r : V → List V → Hp → VK → Prop} {T : String} (h : ta σ H fun x H1 => tyV K T x H1 ∧ a σ H1 fun xs H2 => r x xs H2 Q) : tBM K T r ta a σ H Q := h
theorem sx_bm0 {r : V → List V → Hp → VK → Prop} {T : String} (h : ta σ H fun x H1 => tyV K T x H1 ∧ r x [] H1 Q) : tBM0 K T r ta σ H Q := h
theorem sx_sl {r : V → Option Int → Option Int → Hp → VK → Prop} {tl th : TO} (h : ta σ H fun x H1 => tl σ H1 fun l H2 => th σ H2 fun u H3 => r x l u H3 Q) : tSl r ta tl th σ H Q := h
theorem sx_nopart (h : QO none H) : tNoPart σ H QO := h
theorem sx_part (h : ta σ H fun x H1 => ∃ i, x = .int i ∧ QO (some i) H1) : tPart ta σ H QO := h
theorem sx_nil (h : QA [] H) : tNil σ H QA := h
theorem sx_cons (h : ta σ H fun x H1 => a σ H1 fun xs H2 => QA (x :: xs) H2) : tCons ta a σ H QA := h
theorem sx_tb (h : ta σ H fun x H1 => ∃ c, x = .bl c ∧ QT c H1) : tB ta σ H QT := h
theorem sx_tt (h : ta σ H fun x H1 => ∃ c, x = .bl c ∧ QT c H1) : tTest ta σ H QT := h
theorem sx_and (h : t σ H fun c H1 => if c = true then u σ H1 QT else QT false H1) : tAnd t u σ H QT := h
theorem sx_or (h : t σ H fun c H1 => if c = true then QT true H1 else u σ H1 QT) : tOr t u σ H QT := h
theorem sx_not (h : t σ H fun c H1 => QT (!c) H1) : tNot t σ H QT := h
theorem sx_tru (h : ta σ H fun x H' => ∃ k, TruV K x H' k ∧ QT k H') : L2.tTru K ta σ H QT := h
theorem sx_yes (h : QT true H) : tYes σ H QT := h
theorem sx_next (h : E.nx σ H) : tNext E σ H := h
theorem sx_seq (h : s1 { E with nx := s2 E } σ H) : tSeq s1 s2 E σ H := h
theorem sx_brk (h : E.bk σ H) : tBreak E σ H := h
theorem sx_cnt (h : E.ct σ H) : tCont E σ H := h
theorem sx_drop (h : ta σ H fun _ H1 => E.nx σ H1) : tDrop ta E σ H := h
theorem sx_ret (h : ta σ H E.rt) : tRet ta E σ H := h
theorem sx_retN (h : E.rt .non H) : tRetN E σ H := h
theorem sx_ifS (h : t σ H fun b H1 => if b = true then s1 E σ H1 else s2 E σ H1) : tIfS t s1 s2 E σ H := h
theorem sx_asg {g : TG} (h : ta σ H fun x H1 => g x σ H1 E.nx) : tAsg ta g E σ H := h
theorem sx_par {n o : Nat} (h : a σ H fun vs H1 => ∃ v w, vs = [v, w] ∧ E.nx ((σ.set n (some v)).set o (some w)) H1) : tPar n o a E σ H := h
theorem sx_par3 {n o p : Nat} (h : a σ H fun vs H1 => ∃ u v w, vs = [u, v, w] ∧ E.nx (((σ.set n (some u)).set o (some v)).set p (some w)) H1) : tPar3 n o p a E σ H := h
theorem sx_rng1 {R : It → Hp → Prop} (h : a σ H fun vs H1 => ∃ j : Int, vs = [.int j] ∧ -(2 ^ 62) ≤ j ∧ j < 2 ^ 62 ∧ R (Itr 0 j.toNat) H1) : iRng1 a σ H R := h
theorem sx_rng2 {R : It → Hp → Prop} (h : a σ H fun vs H1 => ∃ i j : Int, vs = [.int i, .int j] ∧ (-(2 ^ 62) ≤ i ∧ i < 2 ^ 62 ∧ -(2 ^ 62) ≤ j ∧ j < 2 ^ 62) ∧ R (Itr i (j - i).toNat) H1) : iRng2 a σ H R := h
theorem gs_name {n : Nat} {G : L2.St → Hp → Prop} (h : G (σ.set n (some v)) H) : gName n v σ H G := h
theorem gs_sub {G : L2.St → Hp → Prop} {f : TSet} (h : ta σ H fun o H1 => tb σ H1 fun i H2 => f o i v H2 fun H3 => G σ H3) : gSub ta tb f v σ H G := h
/-- a tuple is taken apart -/
theorem gs_pair {n o : Nat} {G : L2.St → Hp → Prop} {d e : D} (h : Rep K M H v (.tup [d, e])) (q : ∀ x y, Rep K M H x d → Rep K M H y e → G ((σ.set n (some x)).set o (some y)) H) : gTup K 2 (gCons (gName n) (gCons (gName o) gNil)) v σ H G := by
  cases h with
  | tup h n r => cases r with
    | cons r1 r2 => cases r2 with
      | cons r2 r3 => cases r3; exact ⟨_, _, rfl, SqT.of h, rfl, _, _, rfl, _, _, rfl, rfl, q _ _ r1 r2⟩
theorem ex_b {b : Bool} {Z : Bool → Prop} (q : Z b) : ∃ c, V.bl b = .bl c ∧ Z c := ⟨b, rfl, q⟩
theorem ex_i {b : Int} {Z : Int → Prop} (q : Z b) : ∃ c, V.int b = .int c ∧ Z c := ⟨b, rfl, q⟩
theorem ex_s {b : Str} {Z : Prop} (q : Z) : (∃ a, V.str b = .str a) ∧ Z := ⟨⟨b, rfl⟩, q⟩
theorem ex_2 {Z : V → V → Prop} (q : Z x y) : ∃ v w, [x, y] = [v, w] ∧ Z v w := ⟨x, y, rfl, q⟩
theorem ex_3 {z : V} {Z : V → V → V → Prop} (q : Z x y z) : ∃ u v w, [x, y, z] = [u, v, w] ∧ Z u v w := ⟨x, y, z, rfl, q⟩
/-! values -/
theorem add_ii (q : Q (.int (i + j)) H) : rAddU K (.int i) (.int j) H Q := .inl ⟨i, j, rfl, rfl, q⟩
theorem add_TT (h : l.length + m.length ≤ sizeLine) (q : Q (.str (T (l ++ m))) H) : rAddU K (.str (T l)) (.str (T m)) H Q := .inr (.inl ⟨_, _, rfl, rfl, by rw [T_len, T_len]; exact h, by rw [T_app]; exact q⟩)
theorem add_LL {ds es : List D} (hw : Wf M I) (hI : I H) (hx : Rep K M H x (.lst ds)) (hy : Rep K M H y (.lst es)) (h : ds.length + es.length ≤ sizeLine) (q : ∀ v H', Ex M H H' → I H' → Rep K M H' v (.lst (ds ++ es)) → Q v H') : rAddU K x y H Q := by
  cases hx with
  | lst h1 n1 r1 => cases hy with
    | lst h2 n2 r2 =>
      refine .inr (.inr (.inl ⟨_, _, _, _, rfl, rfl, h1, h2, by rw [r1.length, r2.length]; exact h, fun p hp => ?_⟩))
      exact q _ _ (Ex.of (same_upd hp)) (hw.same (same_upd hp) hI) (.lst upd_same (hw.fresh hI hp) ((r1.append r2).same (same_upd hp)))
theorem sub_ii (q : Q (.int (i - j)) H) : rSubU (.int i) (.int j) H Q := ⟨i, j, rfl, rfl, q⟩
theorem mul_ii (h : CMulW i j) (q : Q (.int (i * j)) H) : rMulU (.int i) (.int j) H Q := .inl ⟨i, j, rfl, rfl, h, q⟩
theorem mul_Ti {n : Nat} (h1 : n ≤ 100000) (h2 : l.length ≤ 100) (q : Q (.str (T (List.replicate n l).flatten)) H) : rMulU (.str (T l)) (.int (n : Nat)) H Q := .inr (.inr (.inl ⟨_, _, rfl, rfl, by omega, by omega, by rw [T_len]; exact h2, by simpa [T_cps] using q⟩))
theorem mul_s (h : CMul i j) (q : Q (.int (i * j)) H) : rMulU (.int i) (.int j) H Q := .inr (.inl ⟨i, j, rfl, rfl, h, q⟩)
theorem div_ii (h : CDivW i j) (q : Q (.int (i / j)) H) : rDivU (.int i) (.int j) H Q := ⟨i, j, rfl, rfl, h, q⟩
theorem mod_ii (h : 0 < j) (q : Q (.int (i % j)) H) : rModU (.int i) (.int j) H Q := ⟨i, j, rfl, rfl, h, q⟩
theorem pow_ii (h : CPow i j) (q : Q (.int (i ^ j.toNat)) H) : rPowU (.int i) (.int j) H Q := ⟨i, j, rfl, rfl, h, q⟩
theorem neg_i (q : Q (.int (-i)) H) : rNegU (.int i) H Q := ⟨i, rfl, q⟩
theorem lt_ii (q : Q (.bl (decide (i < j))) H) : rLtU (.int i) (.int j) H Q := ⟨i, j, rfl, rfl, q⟩
theorem le_ii (q : Q (.bl (decide (i ≤ j))) H) : rLeU (.int i) (.int j) H Q := ⟨i, j, rfl, rfl, q⟩
theorem gt_ii (q : Q (.bl (decide (j < i))) H) : rGtU (.int i) (.int j) H Q := ⟨i, j, rfl, rfl, q⟩
theorem ge_ii (q : Q (.bl (decide (j ≤ i))) H) : rGeU (.int i) (.int j) H Q := ⟨i, j, rfl, rfl, q⟩
theorem dec_congr {p q : Prop} [Decidable p] [Decidable q] (h : p ↔ q) : decide p = decide q := by simp [h]
theorem eq_ii (q : Q (.bl (decide (i = j))) H) : rEqU K (.int i) (.int j) H Q := .inl ⟨rfl, by
  have e : decide (V.int i = V.int j) = decide (i = j) := dec_congr ⟨fun e => by cases e; rfl, fun e => by rw [e]⟩
  rw [e]; exact q⟩
theorem eq_TT (q : Q (.bl (decide (l = m))) H) : rEqU K (.str (T l)) (.str (T m)) H Q := .inl ⟨rfl, by
  have e : decide (V.str (T l) = V.str (T m)) = decide (l = m) := dec_congr ⟨fun e => by injection e with e; exact T_inj e, fun e => by rw [e]⟩
  rw [e]; exact q⟩
theorem eq_bb {p q' : Bool} (q : Q (.bl (decide (p = q'))) H) : rEqU K (.bl p) (.bl q') H Q := .inl ⟨rfl, by
  have e : decide (V.bl p = V.bl q') = decide (p = q') := dec_congr ⟨fun e => by cases e; rfl, fun e => by rw [e]⟩
  rw [e]; exact q⟩
theorem ne_ii (q : Q (.bl (!decide (i = j))) H) : rNeU K (.int i) (.int j) H Q := .inl ⟨rfl, by
  have e : decide (V.int i = V.int j) = decide (i = j) := dec_congr ⟨fun e => by cases e; rfl, fun e => by rw [e]⟩
  rw [e]; exact q⟩
theorem ne_TT (q : Q (.bl (!decide (l = m))) H) : rNeU K (.str (T l)) (.str (T m)) H Q := .inl ⟨rfl, by
  have e : decide (V.str (T l) = V.str (T m)) = decide (l = m) := dec_congr ⟨fun e => by injection e with e; exact T_inj e, fun e => by rw [e]⟩
  rw [e]; exact q⟩
theorem ne_bb {p q' : Bool} (q : Q (.bl (!decide (p = q'))) H) : rNeU K (.bl p) (.bl q') H Q := .inl ⟨rfl, by
  have e : decide (V.bl p = V.bl q') = decide (p = q') := dec_congr ⟨fun e => by cases e; rfl, fun e => by rw [e]⟩
  rw [e]; exact q⟩
theorem in_1T {z : Nat} (q : Q (.bl (decide (z ∈ l))) H) : rInU K (.str (T [z])) (.str (T l)) H Q := .inl ⟨z, T l, rfl, rfl, q⟩
theorem ni_1T {z : Nat} (q : Q (.bl (!decide (z ∈ l))) H) : rNiU K (.str (T [z])) (.str (T l)) H Q := .inl ⟨z, T l, rfl, rfl, q⟩
theorem isN_v (q : Q (.bl (decide (v = .non))) H) : rIsN v .non H Q := ⟨rfl, q⟩
theorem notN_v (q : Q (.bl (!decide (v = .non))) H) : rNotN v .non H Q := ⟨rfl, q⟩
theorem isB_b {p q' : Bool} (q : Q (.bl (decide (p = q'))) H) : rIsBU (.bl p) (.bl q') H Q := ⟨_, _, rfl, rfl, q⟩
theorem notB_b {p q' : Bool} (q : Q (.bl (!decide (p = q'))) H) : rNotBU (.bl p) (.bl q') H Q := ⟨_, _, rfl, rfl, q⟩
/-! displays, lists, lengths, items -/
theorem sx_tup (hw : Wf M I) (h : a σ H fun xs H1 => I H1 ∧ ∃ ds, Reps K M H1 xs ds ∧ ds.length ≤ sizeLine ∧ ∀ v H', Ex M H1 H' → I H' → Rep K M H' v (.tup ds) → Q v H')
    (mono : ∀ A B : List V → Hp → Prop, (∀ xs H1, A xs H1 → B xs H1) → a σ H A → a σ H B) : tTup a σ H Q := by
  refine mono _ _ ?_ h
  rintro xs H1 ⟨hI, ds, r, hz, q⟩
  refine ⟨by rw [r.length]; exact hz, fun p hp => ?_⟩
  have e := same_upd (o := .tup xs) hp
  exact q _ _ (Ex.of e) (hw.same e hI) (.tup upd_same (hw.fresh hI hp) (r.same e))
theorem tup_end {xs : List V} {ds : List D} (hw : Wf M I) (hI : I H) (r : Reps K M H xs ds) (hz : ds.length ≤ sizeLine) (q : ∀ v H', Ex M H H' → I H' → Rep K M H' v (.tup ds) → Q v H') : TupK Q xs H := by
  refine ⟨by rw [r.length]; exact hz, fun p hp => ?_⟩
  have e := same_upd (o := .tup xs) hp
  exact q _ _ (Ex.of e) (hw.same e hI) (.tup upd_same (hw.fresh hI hp) (r.same e))
theorem lst_end {xs : List V} {ds : List D} (hw : Wf M I) (hI : I H) (r : Reps K M H xs ds) (hz : ds.length ≤ sizeLine) (q : ∀ v H', Ex M H H' → I H' → Rep K M H' v (.lst ds) → Q v H') : LstK Q xs H := by
  refine ⟨by rw [r.length]; exact hz, fun p hp => ?_⟩
  have e := same_upd (o := .lst xs) hp
  exact q _ _ (Ex.of e) (hw.same e hI) (.lst upd_same (hw.fresh hI hp) (r.same e))
/-- a list that will change: its world -/
theorem lst_mut {xs : List V} (hw : Wf M I) (hI : I H) (hz : xs.length ≤ sizeLine) (q : ∀ p H', H p = none → ¬ M p → Ex (Mq M p) H H' → Wf (Mq M p) (Iq I p (.lst xs)) → Iq I p (.lst xs) H' → Q (.ref p) H') : LstK Q xs H := by
  refine ⟨hz, fun p hp => ?_⟩
  have e := same_upd (o := .lst xs) hp
  exact q _ _ hp (hw.fresh hI hp) (Ex.of e) (hw.add _ _) ⟨hw.same e hI, upd_same⟩
theorem sx_tup0 (h : a σ H (TupK Q)) : tTup a σ H Q := h
theorem sx_lst0 (h : a σ H (LstK Q)) : tLst a σ H Q := h
theorem len_T (h : l.length ≤ sizeLine) (q : Q (.int (l.length : Nat)) H) : rLen K [.str (T l)] H Q := ⟨_, _, rfl, ⟨by rw [T_len]; exact h, rfl⟩, by rw [T_len]; exact q⟩
theorem len_R {d : D} {ds : List D} (hx : Rep K M H x d) (hd : d = .lst ds ∨ d = .tup ds) (q : Q (.int (ds.length : Nat)) H) : rLen K [x] H Q := by
  rcases hd with rfl | rfl
  · cases hx with
    | lst h n r => exact ⟨_, _, rfl, .inl ⟨_, SqL.of h, rfl⟩, by rw [r.length]; exact q⟩
  · cases hx with
    | tup h n r => exact ⟨_, _, rfl, .inr ⟨_, SqT.of h, rfl⟩, by rw [r.length]; exact q⟩
theorem atI_nat' {α : Type} {xs : List α} {n : Nat} {a : α} (h : xs[n]? = some a) : atI xs (n : Nat) = some a := by
  have hn := (List.getElem?_eq_some_iff.mp h).1
  unfold atI ixN
  rw [if_pos (by omega), if_pos (by omega)]
  simpa using h
theorem ix_T {n : Nat} {z : Nat} (hl : l.length ≤ sizeLine) (h : l[n]? = some z) (q : Q (.str (T [z])) H) : rIx K (.str (T l)) (.int (n : Nat)) H Q := .inr (.inr ⟨T l, _, z, rfl, rfl, by rw [T_len]; exact hl, by rw [T_cps]; exact atI_nat' h, q⟩)
theorem ix_R {d e : D} {ds : List D} {n : Nat} (hx : Rep K M H x d) (hd : d = .lst ds ∨ d = .tup ds) (h : ds[n]? = some e) (q : ∀ v, Rep K M H v e → Q v H) : rIx K x (.int (n : Nat)) H Q := by
  rcases hd with rfl | rfl
  · cases hx with
    | lst h1 n1 r =>
      obtain ⟨v, hv, rv⟩ := r.get h
      exact .inl ⟨_, _, _, v, rfl, rfl, SqL.of h1, atI_nat' hv, q v rv⟩
  · cases hx with
    | tup h1 n1 r =>
      obtain ⟨v, hv, rv⟩ := r.get h
      exact .inr (.inl ⟨_, _, _, v, rfl, rfl, SqT.of h1, atI_nat' hv, q v rv⟩)
theorem sIx_0 {n : Nat} : HT.sIx n 0 none = 0 := rfl
theorem sl_Tto {n : Nat} (hl : l.length ≤ sizeLine) (q : Q (.str (T (l.take n))) H) : rSlU K (.str (T l)) none (some (n : Nat)) H Q := .inr (.inr ⟨T l, rfl, by rw [T_len]; exact hl, by
  unfold cutS
  rw [HT.sIx_none, HT.sIx_nat, T_cps, T_len]
  simp only [List.drop_zero, Nat.sub_zero]
  have e : l.take (min n l.length) = l.take n := by
    by_cases h : n ≤ l.length
    · rw [Nat.min_eq_left h]
    · rw [Nat.min_eq_right (by omega), List.take_of_length_le (Nat.le_refl _), List.take_of_length_le (by omega)]
  rw [e]; exact q⟩)
theorem sl_Tfrom {n : Nat} (hl : l.length ≤ sizeLine) (q : Q (.str (T (l.drop n))) H) : rSlU K (.str (T l)) (some (n : Nat)) none H Q := .inr (.inr ⟨T l, rfl, by rw [T_len]; exact hl, by
  unfold cutS
  rw [HT.sIx_none, HT.sIx_nat, T_cps, T_len]
  have e : (l.drop (min n l.length)).take (l.length - min n l.length) = l.drop n := by
    by_cases h : n ≤ l.length
    · rw [Nat.min_eq_left h, List.take_of_length_le (by simp)]
    · rw [Nat.min_eq_right (by omega), List.drop_of_length_le (Nat.le_refl _), List.drop_of_length_le (by omega)]; simp
  rw [e]; exact q⟩)
theorem join_nil {yss : List Str} : Txt.join (T []) yss = T (yss.map fun y => y.cps.toList).flatten := by
  have h0 : Txt.join (T []) yss = Str.join (T []) yss := eq_of_beq (PyProof.Rows.join_plain_closes (T []) yss)
  have h := TL.tl_join (T []) yss
  have e : ∀ ps : List (List Nat), TL.joinL [] ps = ps.flatten := by
    intro ps
    induction ps with
    | nil => rfl
    | cons p ps ih => cases ps with
      | nil => simp [TL.joinL]
      | cons q r => simp only [TL.joinL, List.nil_append]; rw [ih]; rfl
  have h2 : (Str.join (T []) yss).cps.toList = (yss.map fun y => y.cps.toList).flatten := Eq.trans h (e _)
  rw [h0]
  show (⟨(Str.join (T []) yss).cps⟩ : Str) = _
  unfold T at *
  congr 1
  exact Array.toList_inj.mp (by rw [h2])
/-- ''.join of a list of texts -/
theorem join_R {ls : List (List Nat)} (hx : Rep K M H x (.lst (ls.map fun l => .str (T l)))) (h : (ls.map (·.length)).sum ≤ 16777216) (q : Q (.str (T ls.flatten)) H) : rJoin K (.str (T [])) [x] H Q := by
  cases hx with
  | lst h1 n1 r =>
    have e := Reps.scal_inv (f := fun l => V.str (T l)) (fun a v h => rep_str h) r
    subst e
    have hl0 : (T []).length = 0 := rfl
    refine ⟨T [], _, ls.map T, rfl, rfl, .inl (SqL.of (by rw [h1]; simp)), ?_, ?_⟩
    · rw [hl0, Nat.mul_zero, Nat.add_zero, List.map_map]
      have : (List.map ((fun x => x.length) ∘ T) ls) = ls.map (·.length) := by
        apply List.map_congr_left; intro a _; exact T_len a
      rw [this]; exact h
    · rw [join_nil, List.map_map]
      have : (List.map ((fun y : Str => y.cps.toList) ∘ T) ls) = ls := by
        rw [show ((fun y : Str => y.cps.toList) ∘ T) = id from rfl]; simp
      rw [this]; exact q
theorem all_R {bs : List Bool} (hx : Rep K M H x (.lst (bs.map .bl))) (q : Q (.bl (bs.all id)) H) : rAll K [x] H Q := by
  cases hx with
  | lst h1 n1 r =>
    have e := Reps.scal_inv (f := V.bl) (fun a v h => rep_bl h) r
    subst e
    exact ⟨_, bs, rfl, SqL.of h1, q⟩
theorem tru_R {ds : List D} (hx : Rep K M H x (.lst ds)) (q : QT (!ds.isEmpty) H) : ∃ k, TruV K x H k ∧ QT k H := by
  cases hx with
  | lst h1 n1 r =>
    refine ⟨_, .inl ⟨_, SqL.of h1, rfl⟩, ?_⟩
    have e := r.length
    cases r with
    | nil => exact q
    | cons _ _ => exact q
theorem list_R {d : D} {ds : List D} (hw : Wf M I) (hI : I H) (hx : Rep K M H x d) (hd : d = .lst ds ∨ d = .tup ds) (q : ∀ v H', Ex M H H' → I H' → Rep K M H' v (.lst ds) → Q v H') : rList1 K [x] H Q := by
  have key : ∀ {p : Addr} {xs : List V}, Reps K M H xs ds → H p = none → Q (.ref p) (upd H p (.lst xs)) := fun {p xs} r hp => by
    have e := same_upd (o := .lst xs) hp
    exact q _ _ (Ex.of e) (hw.same e hI) (.lst upd_same (hw.fresh hI hp) (r.same e))
  rcases hd with rfl | rfl
  · cases hx with
    | lst h n r => exact .inl ⟨_, _, rfl, .inl (SqL.of h), fun p hp => key r hp⟩
  · cases hx with
    | tup h n r => exact .inl ⟨_, _, rfl, .inr (SqT.of h), fun p hp => key r hp⟩
theorem rev_R {ds : List D} (hw : Wf M I) (hI : I H) (hx : Rep K M H x (.lst ds)) (q : ∀ v H', Ex M H H' → I H' → Rep K M H' v (.lst ds.reverse) → Q v H') : RevK K Q x H := by
  cases hx with
  | lst h n r =>
    refine ⟨_, _, rfl, SqL.of h, fun p hp => ?_⟩
    exact q _ _ (Ex.of (same_upd hp)) (hw.same (same_upd hp) hI) (.lst upd_same (hw.fresh hI hp) (r.reverse.same (same_upd hp)))
theorem sx_rev (h : ta σ H (RevK K Q)) : tRevL K ta σ H Q := h
end
theorem ifT {A B : Prop} (h : A) : if true = true then A else B := by rw [if_pos rfl]; exact h
theorem ifF {A B : Prop} (h : B) : if false = true then A else B := by rw [if_neg Bool.false_ne_true]; exact h
theorem ifB {b : Bool} {A B : Prop} (h1 : b = true → A) (h2 : b = false → B) : if b = true then A else B := by
  cases b
  · rw [if_neg Bool.false_ne_true]; exact h2 rfl
  · rw [if_pos rfl]; exact h1 rfl
end Nt
namespace Nt
open PySem PySem.Spec PyProof.Rows L2
/-- isinstance of a value whose type shows -/
inductive TyD : D → String → Prop
  | non : TyD .non "NoneType"
  | bl (b : Bool) : TyD (.bl b) "bool"
  | int (i : Int) : TyD (.int i) "int"
  | str (z : Str) : TyD (.str z) "str"
  | lst (l : List D) : TyD (.lst l) "list"
  | tup (l : List D) : TyD (.tup l) "tuple"
  | dct (l : List (Key × D)) : TyD (.dct l) "dict"
theorem tyx_of {K : PySem.W.Frag} {M : Addr → Prop} {H : Hp} {x : V} {d : D} {t : String} (h : Rep K M H x d) (ht : TyD d t) : TyX K H x (.type t) := by
  cases ht <;> cases h
  · exact .base .non
  · exact .base (.bl _)
  · exact .base (.int _)
  · exact .base (.str _)
  · exact .base (.lst (by assumption))
  · exact .base (.tup (by assumption))
  · exact .base (.dK (by assumption))
theorem isi_D {K : PySem.W.Frag} {M : Addr → Prop} {H : Hp} {x : V} {d : D} {t c : String} {b : Bool} {Q : VK} (h : Rep K M H x d) (ht : TyD d t) (k : PySem.W.kitOne K (.type t) (.type c) = some b) (q : Q (.bl b) H) : rIsi K [x, .ty c] H Q :=
  ⟨x, .ty c, .type t, .type c, b, rfl, .ty c, tyx_of h ht, k, q⟩
theorem sx_var1 {n : Nat} {σ : L2.St} {H : Hp} {Q : VK} (h : ∃ v, σ[n]? = some (some v) ∧ Q v H) : tVar n σ H Q := h
theorem szOk {n : Nat} (h : n ≤ 1000000) : n ≤ sizeLine := Nat.le_trans h (by decide)
end Nt
namespace Nt
theorem ifNT {A B : Prop} (h : B) : if (!true) = true then A else B := by rw [if_neg (by decide)]; exact h
theorem ifNF {A B : Prop} (h : A) : if (!false) = true then A else B := by rw [if_pos (by decide)]; exact h
end Nt
namespace Nt
open PySem PySem.Spec PyProof.Rows L2
section
variable {K : PySem.W.Frag} {M : Addr → Prop} {I : Hp → Prop} {σ : L2.St} {H H0 : Hp} {Q : VK} {x y : V}
theorem lst_endC {xs : List V} {ds : List D} (hw : Wf M I) (hI : I H) (r : Reps K M H (x :: xs) ds) (hz : ds.length ≤ sizeLine) (q : ∀ v H', Ex M H H' → I H' → Rep K M H' v (.lst ds) → Q v H') : LstK Q (x :: xs) H := lst_end hw hI r hz q
theorem Ex.shut {p : Addr} (hp : H0 p = none) (e : Ex (Mq M p) H0 H) : Ex M H0 H := fun a o n h => e a o (fun m => m.elim n fun z => by rw [z, hp] at h; cases h) h
/-- xs.append(e), the list told by the world -/
theorem app_mut {p : Addr} {xs : List V} (hw : Wf M I) (hp : ¬ M p) (hI : Iq I p (.lst xs) H) (hl : xs.length < 1000000) (q : ∀ H', Ex (Mq M p) H H' → Wf (Mq M p) (Iq I p (.lst (xs ++ [y]))) → Iq I p (.lst (xs ++ [y])) H' → Q .non H') : rAppend (.ref p) [y] H Q := by
  refine ⟨p, xs, y, rfl, rfl, hI.2, Nat.lt_of_lt_of_le hl (by decide), ?_⟩
  obtain ⟨i, e⟩ := hw.put (o' := .lst (xs ++ [y])) hp hI
  exact q _ e (hw.add _ _) i
theorem tyv_l {p : Addr} {xs : List V} (h : H p = some (.lst xs)) : tyV K "list" (.ref p) H := .inl ⟨rfl, xs, SqL.of h⟩
theorem Wf.sub {M : Addr → Prop} {I : Hp → Prop} (w : Wf M I) {H H' : Hp} (h : L2.Same H H') (i : I H) : I H' := w.same h i
end
end Nt
namespace Nt
theorem ifIsF {b : Bool} {A B : Prop} (h : b = false) (hb : B) : if b = true then A else B := by rw [h, if_neg Bool.false_ne_true]; exact hb
theorem ifIsT {b : Bool} {A B : Prop} (h : b = true) (ha : A) : if b = true then A else B := by rw [h, if_pos rfl]; exact ha
end Nt
namespace Nt
open PySem PySem.Spec PyProof.Rows L2
section
variable {K : PySem.W.Frag} {M : Addr → Prop} {I : Hp → Prop} {H : Hp} {Q : VK} {x : V} {mg : Str → Option Value} {n : Str} {st : Stmt} {ps : List Str} {dfl : List V}
theorem tup_endF {xs : List V} {ds : List D} (_ : At K mg n st ps dfl) (hw : Wf M I) (hI : I H) (r : Reps K M H xs ds) (hz : ds.length ≤ sizeLine) (q : ∀ v H', Ex M H H' → I H' → Rep K M H' v (.tup ds) → Q v H') : TupK Q xs H := tup_end hw hI r hz q
theorem lst_endF {xs : List V} {ds : List D} (_ : At K mg n st ps dfl) (hw : Wf M I) (hI : I H) (r : Reps K M H (x :: xs) ds) (hz : ds.length ≤ sizeLine) (q : ∀ v H', Ex M H H' → I H' → Rep K M H' v (.lst ds) → Q v H') : LstK Q (x :: xs) H := lst_end hw hI r hz q
end
end Nt

namespace Nt
open PySem PySem.Spec PyProof.Rows L2
section
variable {K : PySem.W.Frag} {M : Addr → Prop} {I : Hp → Prop} {α β : Type} {as : List α} {bs : List β} {tt : TT} {te : TE} {vs : List Nat} {σ : L2.St} {H1 H : Hp} {Q : VK} {enc : α → D} {enc2 : β → D} {x : V}
theorem filter_tt (as : List α) : as.filter (fun _ => true) = as := by simp
/-! no test; the element by a function -/
theorem lc_srcM {i : Nat} {d : D} (f : α → D) (hw : Wf M I) (hI : I H1) (hx : Rep K M H1 x d) (hd : d.elems = some (as.map enc)) (hlen : as.length ≤ sizeLine) (hwp : ∀ v, wipe ((wipe σ vs).set i (some v)) vs = wipe σ vs)
    (he : ∀ (L : Addr) (acc : List V) (k : Nat) (a : α) (v : V) (H : Hp), H1 L = none → as[k]? = some a → Rep K (Mq M L) H v (enc a) → Wf (Mq M L) (Iq I L (.lst acc)) → Iq I L (.lst acc) H → Ex (Mq M L) H1 H →
      ∀ Qe : VK, (∀ y H4, Rep K (Mq M L) H4 y (f a) → Iq I L (.lst acc) H4 → Ex (Mq M L) H H4 → Qe y H4) → te ((wipe σ vs).set i (some v)) H Qe)
    (hq : ∀ y H', Rep K M H' y (.lst (as.map f)) → Ex M H1 H' → I H' → Q y H') : srcR K (LcR (gName i) tYes te vs σ Q) x H1 := by
  refine lc_src hw hI hx hd hlen hwp (fun _ => true) (fun a d => d = f a) (fun L acc k a v H _ _ _ _ _ hi _ Qt q => q H hi (Ex.refl _)) (fun L acc k a v H hL nL ha _ rv wf hi ex Qe q => ?_) fun y ds H' a2 rp ex hi => ?_
  · exact he L acc k a v H hL ha rv wf hi ex Qe fun y H4 r i e => q y _ H4 rfl r i e
  · rw [a2.eq, filter_tt] at rp
    exact hq y H' rp ex hi
theorem lc_zipM {i j : Nat} {x1 x2 : V} {d1 d2 : D} (f : α × β → D) (hw : Wf M I) (hI : I H1) (hx : Rep K M H1 x1 d1) (hd : d1.elems = some (as.map enc)) (hx2 : Rep K M H1 x2 d2) (hd2 : d2.elems = some (bs.map enc2)) (hlen : as.length ≤ sizeLine)
    (hwp : ∀ v w, wipe (((wipe σ vs).set i (some v)).set j (some w)) vs = wipe σ vs)
    (he : ∀ (L : Addr) (acc : List V) (k : Nat) (a : α) (b : β) (v w : V) (H : Hp), H1 L = none → as[k]? = some a → bs[k]? = some b → Rep K (Mq M L) H v (enc a) → Rep K (Mq M L) H w (enc2 b) → Wf (Mq M L) (Iq I L (.lst acc)) → Iq I L (.lst acc) H → Ex (Mq M L) H1 H →
      ∀ Qe : VK, (∀ y H4, Rep K (Mq M L) H4 y (f (a, b)) → Iq I L (.lst acc) H4 → Ex (Mq M L) H H4 → Qe y H4) → te (((wipe σ vs).set i (some v)).set j (some w)) H Qe)
    (hq : ∀ y H', Rep K M H' y (.lst ((as.zip bs).map f)) → Ex M H1 H' → I H' → Q y H') : zipR K (LcR (gTup K 2 (gCons (gName i) (gCons (gName j) gNil))) tYes te vs σ Q) [x1, x2] H1 := by
  refine lc_zip hw hI hx hd hx2 hd2 hlen hwp (fun _ => true) (fun a d => d = f a) (fun L acc k a b v w H _ _ _ _ _ _ _ hi _ Qt q => q H hi (Ex.refl _)) (fun L acc k a b v w H hL nL ha hb _ rv rw wf hi ex Qe q => ?_) fun y ds H' a2 rp ex hi => ?_
  · exact he L acc k a b v w H hL ha hb rv rw wf hi ex Qe fun y H4 r i e => q y _ H4 rfl r i e
  · rw [a2.eq, filter_tt] at rp
    exact hq y H' rp ex hi
/-! a test; the element by a function -/
theorem lc_srcF {i : Nat} {d : D} (p : α → Bool) (f : α → D) (hw : Wf M I) (hI : I H1) (hx : Rep K M H1 x d) (hd : d.elems = some (as.map enc)) (hlen : as.length ≤ sizeLine) (hwp : ∀ v, wipe ((wipe σ vs).set i (some v)) vs = wipe σ vs)
    (ht : ∀ (L : Addr) (acc : List V) (k : Nat) (a : α) (v : V) (H : Hp), H1 L = none → as[k]? = some a → Rep K (Mq M L) H v (enc a) → Wf (Mq M L) (Iq I L (.lst acc)) → Iq I L (.lst acc) H → Ex (Mq M L) H1 H →
      ∀ Qt : Bool → Hp → Prop, (∀ H3, Iq I L (.lst acc) H3 → Ex (Mq M L) H H3 → Qt (p a) H3) → tt ((wipe σ vs).set i (some v)) H Qt)
    (he : ∀ (L : Addr) (acc : List V) (k : Nat) (a : α) (v : V) (H : Hp), H1 L = none → as[k]? = some a → p a = true → Rep K (Mq M L) H v (enc a) → Wf (Mq M L) (Iq I L (.lst acc)) → Iq I L (.lst acc) H → Ex (Mq M L) H1 H →
      ∀ Qe : VK, (∀ y H4, Rep K (Mq M L) H4 y (f a) → Iq I L (.lst acc) H4 → Ex (Mq M L) H H4 → Qe y H4) → te ((wipe σ vs).set i (some v)) H Qe)
    (hq : ∀ y H', Rep K M H' y (.lst ((as.filter p).map f)) → Ex M H1 H' → I H' → Q y H') : srcR K (LcR (gName i) tt te vs σ Q) x H1 := by
  refine lc_src hw hI hx hd hlen hwp p (fun a d => d = f a) (fun L acc k a v H hL _ ha rv wf hi ex Qt q => ht L acc k a v H hL ha rv wf hi ex Qt q) (fun L acc k a v H hL nL ha hp rv wf hi ex Qe q => ?_) fun y ds H' a2 rp ex hi => ?_
  · exact he L acc k a v H hL ha hp rv wf hi ex Qe fun y H4 r i e => q y _ H4 rfl r i e
  · rw [a2.eq] at rp
    exact hq y H' rp ex hi
theorem lc_enumF {i j : Nat} {x1 : V} {d1 : D} (p : α × Nat → Bool) (f : α × Nat → D) (hw : Wf M I) (hI : I H1) (hx : Rep K M H1 x1 d1) (hd : d1.elems = some (as.map enc)) (hlen : as.length ≤ sizeLine)
    (hwp : ∀ v w, wipe (((wipe σ vs).set i (some v)).set j (some w)) vs = wipe σ vs)
    (ht : ∀ (L : Addr) (acc : List V) (k : Nat) (a : α) (v : V) (H : Hp), H1 L = none → as[k]? = some a → Rep K (Mq M L) H v (enc a) → Wf (Mq M L) (Iq I L (.lst acc)) → Iq I L (.lst acc) H → Ex (Mq M L) H1 H →
      ∀ Qt : Bool → Hp → Prop, (∀ H3, Iq I L (.lst acc) H3 → Ex (Mq M L) H H3 → Qt (p (a, k)) H3) → tt (((wipe σ vs).set i (some (.int (k : Nat)))).set j (some v)) H Qt)
    (he : ∀ (L : Addr) (acc : List V) (k : Nat) (a : α) (v : V) (H : Hp), H1 L = none → as[k]? = some a → p (a, k) = true → Rep K (Mq M L) H v (enc a) → Wf (Mq M L) (Iq I L (.lst acc)) → Iq I L (.lst acc) H → Ex (Mq M L) H1 H →
      ∀ Qe : VK, (∀ y H4, Rep K (Mq M L) H4 y (f (a, k)) → Iq I L (.lst acc) H4 → Ex (Mq M L) H H4 → Qe y H4) → te (((wipe σ vs).set i (some (.int (k : Nat)))).set j (some v)) H Qe)
    (hq : ∀ y H', Rep K M H' y (.lst ((as.zipIdx.filter p).map f)) → Ex M H1 H' → I H' → Q y H') : enumR K (LcR (gTup K 2 (gCons (gName i) (gCons (gName j) gNil))) tt te vs σ Q) [x1] H1 := by
  refine lc_enum hw hI hx hd hlen hwp p (fun a d => d = f a) (fun L acc k a v H hL _ ha rv wf hi ex Qt q => ht L acc k a v H hL ha rv wf hi ex Qt q) (fun L acc k a v H hL nL ha hp rv wf hi ex Qe q => ?_) fun y ds H' a2 rp ex hi => ?_
  · exact he L acc k a v H hL ha hp rv wf hi ex Qe fun y H4 r i e => q y _ H4 rfl r i e
  · rw [a2.eq] at rp
    exact hq y H' rp ex hi
theorem lc_rngF {i : Nat} {lo : Int} {n : Nat} (p : Nat → Bool) (f : Nat → D) (hw : Wf M I) (hI : I H1) (hlen : n ≤ sizeLine) (hwp : ∀ v, wipe ((wipe σ vs).set i (some v)) vs = wipe σ vs)
    (ht : ∀ (L : Addr) (acc : List V) (k : Nat) (H : Hp), H1 L = none → k < n → Wf (Mq M L) (Iq I L (.lst acc)) → Iq I L (.lst acc) H → Ex (Mq M L) H1 H →
      ∀ Qt : Bool → Hp → Prop, (∀ H3, Iq I L (.lst acc) H3 → Ex (Mq M L) H H3 → Qt (p k) H3) → tt ((wipe σ vs).set i (some (.int (lo + (k : Nat))))) H Qt)
    (he : ∀ (L : Addr) (acc : List V) (k : Nat) (H : Hp), H1 L = none → k < n → p k = true → Wf (Mq M L) (Iq I L (.lst acc)) → Iq I L (.lst acc) H → Ex (Mq M L) H1 H →
      ∀ Qe : VK, (∀ y H4, Rep K (Mq M L) H4 y (f k) → Iq I L (.lst acc) H4 → Ex (Mq M L) H H4 → Qe y H4) → te ((wipe σ vs).set i (some (.int (lo + (k : Nat))))) H Qe)
    (hq : ∀ y H', Rep K M H' y (.lst (((List.range n).filter p).map f)) → Ex M H1 H' → I H' → Q y H') : LcR (gName i) tt te vs σ Q (Itr lo n) H1 := by
  refine lc_rng (K := K) hw hI hlen hwp p (fun a d => d = f a) (fun L acc k H hL _ ha wf hi ex Qt q => ht L acc k H hL ha wf hi ex Qt q) (fun L acc k H hL nL ha hp wf hi ex Qe q => ?_) fun y ds H' a2 rp ex hi => ?_
  · exact he L acc k H hL ha hp wf hi ex Qe fun y H4 r i e => q y _ H4 rfl r i e
  · rw [a2.eq] at rp
    exact hq y H' rp ex hi
/-! joins of signs -/
theorem flat_1 (h : α → Nat) (l : List α) : (l.map fun a => [h a]).flatten = l.map h := by
  induction l with
  | nil => rfl
  | cons a l ih => simp [ih]
theorem join_1 (h : α → Nat) (hx : Rep K M H x (.lst (as.map fun a => .str (T [h a])))) (hl : as.length ≤ 1000000) (q : Q (.str (T (as.map h))) H) : rJoin K (.str (T [])) [x] H Q := by
  refine join_R (M := M) (ls := as.map fun a => [h a]) (by rw [List.map_map]; exact hx) ?_ (by rw [flat_1]; exact q)
  have : ((as.map fun a => [h a]).map (·.length)).sum = as.length := by
    rw [List.map_map]
    clear hx hl q
    induction as with
    | nil => rfl
    | cons a as ih => simp only [List.map_cons, List.sum_cons, ih, List.length_cons, Function.comp]; simp; omega
  omega
theorem join_A {ls : List (List Nat)} (hx : A2 (fun (_ : α) (d : D) => ∃ l, d = .str (T l)) as (ls.map fun l => .str (T l))) : True := trivial
theorem all_M (h : α → Bool) (hx : Rep K M H x (.lst (as.map fun a => .bl (h a)))) (q : Q (.bl (as.all h)) H) : rAll K [x] H Q := by
  refine all_R (M := M) (bs := as.map h) (by rw [List.map_map]; exact hx) ?_
  rw [List.all_map]
  exact q
theorem dec1 {a b : Nat} : decide ([a] = [b]) = decide (a = b) := dec_congr ⟨fun e => by injection e, fun e => by rw [e]⟩
theorem eq_11 {a b : Nat} (q : Q (.bl (decide (a = b))) H) : rEqU K (.str (T [a])) (.str (T [b])) H Q := eq_TT (by
  have : decide ([a] = [b]) = decide (a = b) := dec_congr ⟨fun e => by injection e, fun e => by rw [e]⟩
  rw [this]; exact q)
theorem ne_11 {a b : Nat} (q : Q (.bl (!decide (a = b))) H) : rNeU K (.str (T [a])) (.str (T [b])) H Q := ne_TT (by
  have : decide ([a] = [b]) = decide (a = b) := dec_congr ⟨fun e => by injection e, fun e => by rw [e]⟩
  rw [this]; exact q)
/-! == of a list of flat data with the empty list -/
def Flat : D → Prop
  | .non => True
  | .bl _ => True
  | .int _ => True
  | .str z => PyData.strOk z = true
  | _ => False
def pyF : D → PyData
  | .bl b => .bool b
  | .int i => .int i
  | .str z => .str z
  | _ => .none
theorem dp_flat {v : V} {d : D} (h : Rep K M H v d) (f : Flat d) : Dp K H v (pyF d) ∧ (pyF d).canLay0 = true ∧ (pyF d).depth = 0 := by
  cases h with
  | non => exact ⟨.non, by simp [pyF, PyData.canLay0], by simp [pyF, PyData.depth]⟩
  | bl b => exact ⟨.bl b, by simp [pyF, PyData.canLay0], by simp [pyF, PyData.depth]⟩
  | int i => exact ⟨.int i, by simp [pyF, PyData.canLay0], by simp [pyF, PyData.depth]⟩
  | str z => exact ⟨.str z, by simp only [pyF, PyData.canLay0]; exact f, by simp [pyF, PyData.depth]⟩
  | _ => exact f.elim
theorem dp_flats : ∀ {vs : List V} {ds : List D}, Reps K M H vs ds → (∀ d ∈ ds, Flat d) → DpAll K H vs (ds.map pyF) ∧ PyData.canLayAll0 (ds.map pyF) = true ∧ PyData.depthAll (ds.map pyF) = 0
  | _, _, .nil, _ => ⟨.nil, by simp [PyData.canLayAll0], by simp [PyData.depthAll]⟩
  | _, _, .cons r rs, f => by
    obtain ⟨a1, a2, a3⟩ := dp_flat r (f _ List.mem_cons_self)
    obtain ⟨b1, b2, b3⟩ := dp_flats rs fun d hd => f d (List.mem_cons_of_mem _ hd)
    exact ⟨.cons a1 b1, by simp [PyData.canLayAll0, a2, b2], by simp [PyData.depthAll, a3, b3]⟩
theorem dp_lst {ds : List D} (h : Rep K M H x (.lst ds)) (f : ∀ d ∈ ds, Flat d) : Dp K H x (.list (ds.map pyF)) ∧ SeqAt.shaped (.list (ds.map pyF)) = true := by
  cases h with
  | lst h n r =>
    obtain ⟨b1, b2, b3⟩ := dp_flats r f
    exact ⟨.lst (SqL.of h) b1, by simp [SeqAt.shaped, PyData.canLay0, PyData.depth, b2, b3]⟩
theorem eqv_nil (l : List PyData) : PyData.eqv (.list l) (.list []) = l.isEmpty := by
  cases l <;> simp [PyData.eqv, PyData.eqvAll]
variable {y : V}
theorem eq_L0 {ds : List D} (hx : Rep K M H x (.lst ds)) (hy : Rep K M H y (.lst [])) (f : ∀ d ∈ ds, Flat d) (q : Q (.bl ds.isEmpty) H) : rEqU K x y H Q := by
  obtain ⟨a1, a2⟩ := dp_lst hx f
  obtain ⟨b1, b2⟩ := dp_lst hy (by simp)
  refine .inr ⟨_, _, a1, b1, a2, b2, ?_⟩
  rw [List.map_nil, eqv_nil]
  cases ds <;> exact q
theorem ne_L0 {ds : List D} (hx : Rep K M H x (.lst ds)) (hy : Rep K M H y (.lst [])) (f : ∀ d ∈ ds, Flat d) (q : Q (.bl (!ds.isEmpty)) H) : rNeU K x y H Q := by
  obtain ⟨a1, a2⟩ := dp_lst hx f
  obtain ⟨b1, b2⟩ := dp_lst hy (by simp)
  refine .inr ⟨_, _, a1, b1, a2, b2, ?_⟩
  rw [List.map_nil, eqv_nil]
  cases ds <;> exact q
theorem ok_T {l : List Nat} (h : ∀ c ∈ l, c < 128) : PyData.strOk (T l) = true := by
  show (Array.all (List.toArray l) fun a => decide (a < 1114112)) = true
  rw [List.all_toArray, List.all_eq_true]
  intro c hc
  have := h c hc
  simp
  omega
/-! x in a list of texts -/
def flatD : D → Bool
  | .non => true
  | .bl _ => true
  | .int _ => true
  | .str _ => true
  | _ => false
theorem in_R {ls : List (List Nat)} {l : List Nat} {d : D} (hy : Rep K M H y d) (hd : d = .lst (ls.map fun l => .str (T l)) ∨ d = .tup (ls.map fun l => .str (T l))) : ∃ p, y = .ref p ∧ (SqL K H p (ls.map fun l => V.str (T l)) ∨ SqT K H p (ls.map fun l => V.str (T l))) := by
  rcases hd with rfl | rfl
  · cases hy with
    | lst h n r =>
      have e := Reps.scal_inv (f := fun l => V.str (T l)) (fun a v h => rep_str h) r
      subst e
      exact ⟨_, rfl, .inl (SqL.of h)⟩
  · cases hy with
    | tup h n r =>
      have e := Reps.scal_inv (f := fun l => V.str (T l)) (fun a v h => rep_str h) r
      subst e
      exact ⟨_, rfl, .inr (SqT.of h)⟩
theorem inV_T {l : List Nat} {ls : List (List Nat)} : inV (.str (T l)) (ls.map fun l => V.str (T l)) = decide (l ∈ ls) := by
  unfold inV
  rw [Bool.eq_iff_iff]
  simp only [List.any_eq_true, List.mem_map, decide_eq_true_eq]
  constructor
  · rintro ⟨z, ⟨a, ha, rfl⟩, e⟩
    have e2 : T a = T l := by simpa [eqV] using e
    rw [← T_inj e2]; exact ha
  · intro h
    exact ⟨_, ⟨l, h, rfl⟩, by simp [eqV]⟩
theorem in_L {ls : List (List Nat)} {l : List Nat} {d : D} (hy : Rep K M H y d) (hd : d = .lst (ls.map fun l => .str (T l)) ∨ d = .tup (ls.map fun l => .str (T l))) (q : Q (.bl (decide (l ∈ ls))) H) : rInU K (.str (T l)) y H Q := by
  obtain ⟨p, rfl, h⟩ := in_R (l := l) hy hd
  refine .inr (.inl ⟨p, _, rfl, h, rfl, ?_, ?_⟩)
  · simp [List.all_map, flatV]
  · rw [inV_T]; exact q
theorem ni_L {ls : List (List Nat)} {l : List Nat} {d : D} (hy : Rep K M H y d) (hd : d = .lst (ls.map fun l => .str (T l)) ∨ d = .tup (ls.map fun l => .str (T l))) (q : Q (.bl (!decide (l ∈ ls))) H) : rNiU K (.str (T l)) y H Q := by
  obtain ⟨p, rfl, h⟩ := in_R (l := l) hy hd
  refine .inr (.inl ⟨p, _, rfl, h, rfl, ?_, ?_⟩)
  · simp [List.all_map, flatV]
  · rw [inV_T]; exact q
end
end Nt

namespace Nt
open PySem PySem.Spec PyProof.Rows L2
section
variable {K : PySem.W.Frag} {M : Addr → Prop} {I : Hp → Prop} {H H' : Hp} {Q : VK} {x y : V} {i j : Int}
theorem int_i (q : Q (.int i) H) : rInt1 [.int i] H Q := .inl ⟨i, rfl, q⟩
theorem abs_i (q : Q (.int (i.natAbs : Nat)) H) : rAbs [.int i] H Q := ⟨i, rfl, by
  have e : (if i < 0 then -i else i) = (i.natAbs : Int) := by split <;> omega
  rw [e]; exact q⟩
theorem ix_raw {p : Addr} {xs : List V} {v : V} (h : H p = some (.lst xs)) (ha : atI xs i = some v) (q : Q v H) : rIx K (.ref p) (.int i) H Q := .inl ⟨p, xs, i, v, rfl, rfl, SqL.of h, ha, q⟩
theorem set_raw {p : Addr} {xs : List V} {v : V} {n : Nat} {G : Hp → Prop} (h : H p = some (.lst xs)) (ha : ixN xs.length i = some n) (q : G (upd H p (.lst (xs.set n v)))) : rSetL (.ref p) (.int i) v H G := ⟨p, xs, i, n, rfl, rfl, h, ha, q⟩
theorem len_raw {p : Addr} {xs : List V} (h : H p = some (.lst xs)) (q : Q (.int (xs.length : Nat)) H) : rLen K [.ref p] H Q := ⟨_, _, rfl, .inl ⟨_, SqL.of h, rfl⟩, q⟩
theorem ix_E {d e : D} {ds : List D} {n : Nat} (hx : Rep K M H x d) (hd : d.elems = some ds) (hl : ds.length ≤ sizeLine) (h : ds[n]? = some e) (q : ∀ v, Rep K M H v e → Q v H) : rIx K x (.int (n : Nat)) H Q := by
  cases d with
  | lst l => cases hd; exact ix_R hx (.inl rfl) h q
  | tup l => cases hd; exact ix_R hx (.inr rfl) h q
  | str z =>
    cases hd
    cases rep_str hx
    have h2 : (z.cps.toList.map fun c => D.str (T [c]))[n]? = some e := h
    rw [List.getElem?_map] at h2
    cases hc : z.cps.toList[n]? with
    | none => rw [hc] at h2; cases h2
    | some c =>
      rw [hc] at h2
      cases h2
      exact .inr (.inr ⟨z, _, c, rfl, rfl, by simpa [Str.length] using hl, atI_nat' hc, q _ (.str _)⟩)
  | _ => cases hd
theorem len_E {d : D} {ds : List D} (hx : Rep K M H x d) (hd : d.elems = some ds) (hl : ds.length ≤ sizeLine) (q : Q (.int (ds.length : Nat)) H) : rLen K [x] H Q := by
  cases d with
  | lst l => cases hd; exact len_R hx (.inl rfl) q
  | tup l => cases hd; exact len_R hx (.inr rfl) q
  | str z =>
    cases hd
    cases rep_str hx
    have e : (z.cps.toList.map fun c => D.str (T [c])).length = z.length := by simp [Str.length]
    rw [e] at hl q
    exact ⟨_, _, rfl, ⟨hl, rfl⟩, q⟩
  | _ => cases hd
theorem list_E {d : D} {ds : List D} (hw : Wf M I) (hI : I H) (hx : Rep K M H x d) (hd : d = .lst ds ∨ d = .tup ds) (q : ∀ p xs, H p = none → Reps K M H xs ds → Q (.ref p) (upd H p (.lst xs))) : rList1 K [x] H Q := by
  rcases hd with rfl | rfl
  · cases hx with
    | lst h n r => exact .inl ⟨_, _, rfl, .inl (SqL.of h), fun p hp => q p _ hp r⟩
  · cases hx with
    | tup h n r => exact .inl ⟨_, _, rfl, .inr (SqT.of h), fun p hp => q p _ hp r⟩
/-! ### the bag -/
def bagL (l : Addr) (i g m : Nat) (c : Int) : List V := [.ref l, .int (i : Nat), .int (g : Nat), .int (m : Nat), .int c]
structure BagIs (H : Hp) (b l : Addr) (cs : List Int) (i g m : Nat) (c : Int) : Prop where
  hb : H b = some (.lst (bagL l i g m c))
  hl : H l = some (.lst (cs.map V.int))
  hm : m < 4294967296
  hn : cs.length ≤ 1000
def BagOk (H : Hp) (b l : Addr) : Prop := ∃ cs i g m c, BagIs H b l cs i g m c
structure HasBag (M : Addr → Prop) (I : Hp → Prop) (b : Addr) : Prop where
  ex : ∃ l, M b ∧ M l ∧ b ≠ l ∧ (∀ H, I H → BagOk H b l) ∧ ∀ H H', I H → (∀ p, M p → p ≠ b → H' p = H p) → BagOk H' b l → I H'
theorem HasBag.add {b q : Addr} {o : HO} (h : HasBag M I b) (hq : ¬ M q) : HasBag (Mq M q) (Iq I q o) b := by
  obtain ⟨l, h1, h2, h3, h4, h5⟩ := h.ex
  refine ⟨l, .inl h1, .inl h2, h3, fun H i => h4 H i.1, fun H H' i e k => ⟨h5 H H' i.1 (fun p hp => e p (.inl hp)) k, ?_⟩⟩
  rw [e q (.inr rfl) fun z => hq (z ▸ h1)]
  exact i.2
/-- the world of a bag alone -/
def MB (b l : Addr) : Addr → Prop := fun p => p = b ∨ p = l
def IB (b l : Addr) : Hp → Prop := fun H => BagOk H b l
theorem wfB {b l : Addr} : Wf (MB b l) (IB b l) where
  live := fun H ⟨cs, i, g, m, c, h⟩ p hp => by
    rcases hp with rfl | rfl
    · rw [h.hb]; exact nofun
    · rw [h.hl]; exact nofun
  stable := fun H H' ⟨cs, i, g, m, c, h⟩ e => ⟨cs, i, g, m, c, (e b (.inl rfl)).trans h.hb, (e l (.inr rfl)).trans h.hl, h.hm, h.hn⟩
theorem hasB {b l : Addr} (hn : b ≠ l) : HasBag (MB b l) (IB b l) b := ⟨l, .inl rfl, .inr rfl, hn, fun _ h => h, fun _ _ _ _ k => k⟩
/-- the bag is written -/
theorem bag_put {b l : Addr} {cs : List Int} {i g m i' g' m' : Nat} {c c' : Int} (h : BagIs H b l cs i g m c) (hn : b ≠ l) (hm : m' < 4294967296) : BagIs (upd H b (.lst (bagL l i' g' m' c'))) b l cs i' g' m' c' :=
  ⟨upd_same, by rw [upd_ne hn.symm]; exact h.hl, hm, h.hn⟩
end
end Nt
namespace Nt
open PySem PySem.Spec PyProof.Rows L2
section
variable {K : PySem.W.Frag} {M : Addr → Prop} {I : Hp → Prop} {H H' : Hp} {Q : VK} {x y : V} {i j : Int}
theorem mod_any (h : 0 < j) (q : ∀ m : Nat, (m : Int) < j → Q (.int (m : Nat)) H) : rModU (.int i) (.int j) H Q := by
  refine ⟨i, j, rfl, rfl, h, ?_⟩
  have h1 := Int.emod_nonneg i (show j ≠ 0 by omega)
  have h2 := Int.emod_lt_of_pos i h
  obtain ⟨m, e⟩ := Int.eq_ofNat_of_zero_le h1
  show Q (.int (i % j)) H
  rw [e]
  exact q m (by omega)
theorem mul_r (h : -(2 ^ 64) < j ∧ j < 2 ^ 64) (q : Q (.int (i * j)) H) : rMulU (.int i) (.int j) H Q := .inr (.inl ⟨i, j, rfl, rfl, .inr h, q⟩)
theorem mul_l (h : -(2 ^ 64) < i ∧ i < 2 ^ 64) (q : Q (.int (i * j)) H) : rMulU (.int i) (.int j) H Q := .inr (.inl ⟨i, j, rfl, rfl, .inl h, q⟩)
theorem div_any {n : Nat} (h : 0 < j) (hj : j.natAbs.log2 < 9000) (q : ∀ m : Nat, Q (.int (m : Nat)) H) : rDivU (.int (n : Nat)) (.int j) H Q := by
  refine ⟨n, j, rfl, rfl, ⟨h, hj⟩, ?_⟩
  have h1 := Int.ediv_nonneg (show (0 : Int) ≤ (n : Int) by omega) (show (0 : Int) ≤ j by omega)
  obtain ⟨m, e⟩ := Int.eq_ofNat_of_zero_le h1
  show Q (.int ((n : Int) / j)) H
  rw [e]
  exact q m
theorem cut_to {xs : List V} {n : Nat} : cutV xs none (some (n : Nat)) = xs.take n := by
  unfold cutV
  rw [HT.sIx_none, HT.sIx_nat]
  simp only [List.drop_zero, Nat.sub_zero]
  by_cases h : n ≤ xs.length
  · rw [Nat.min_eq_left h]
  · rw [Nat.min_eq_right (by omega), List.take_of_length_le (Nat.le_refl _), List.take_of_length_le (by omega)]
end
end Nt

namespace Nt
open PySem PySem.Spec PyProof.Rows L2
/-- what is told of a law's own def at one world -/
structure LawTold (l : PySem.W.OpenLaw) (n k : Nat) (x : Str) (w : World) (mg : Str → Option Value) (fa : Addr) (h : Heap) : Prop where
  ex : ∃ (K : PySem.W.Frag) (fd : FuncData) (sp : Sp), K.In h ∧ (∀ (s : Shared) (u : Value), BindsTo s fd ⟨[u], []⟩ [(x, u)]) ∧
    (∀ (H : Hp) (a : Addr) (ns : List Int), ns.length ≤ n → SqL K H a (ns.map V.int) → sp [.ref a] H (fun v _ => v = .bl true) fun _ _ _ => False) ∧
    (∀ base : Heap, K.In base → base.Ns mainGlobals mg → FnOk l.prog w K mg base (L2.CX l.prog w) k fa fd [x] sp)
/-- the law's call, whatever its defs let out -/
theorem law_walk {l : PySem.W.OpenLaw} {n k : Nat} {q : Program} {loose : List Str} {XP : (Str → Option Value) → Heap → Prop} {YP : World → Heap → Prop} {d : DefRec} {x : Str} (hn : l.most = some n) (hs : n ≤ sizeLine) (h0 : d.params.defaults = []) (hr : Room k callerA)
    (T : ∀ w mg fa h, YP w h → Heap.Ns h mainGlobals mg → mg d.name = some (.ref fa) → LawTold l n k x w mg fa h) : PySem.W.WalkO q loose XP YP l.row.toRowW d [] (fun f vs => PySem.call f vs) := by
  refine Att.attach_call hn h0 ?_
  intro w s1 s2 mg mb fa o pm cd doc a vs ns G Y ho hd hcd hmg hobj hi hl hg
  obtain ⟨K, fd, sp, KX, hb, hq, hF⟩ := (T w mg fa _ Y G.T.g hmg).ex
  refine law_call KX G.T.g G.T.b G.T.builtins G.T.nolimit hg hobj hi (Nat.le_trans hl hs) hr hF hb (fun H _ hS => hq H a ns hl hS) ?_
  rintro H e s' ⟨_, _, _, _, _, _, _, _, _, _, _, _, z⟩
  exact z
end Nt

namespace Nt
open PySem PySem.Spec PyProof.Rows L2
section
variable {K : PySem.W.Frag} {M : Addr → Prop} {I : Hp → Prop} {H H1 : Hp} {Q : VK} {x y : V} {σ : L2.St}
/-! ### == and in over data of any kind -/
mutual
def pyD : D → PyData
  | .non => .none
  | .bl b => .bool b
  | .int i => .int i
  | .str z => .str z
  | .lst l => .list (pyAll l)
  | .tup l => .tuple (pyAll l)
  | .dct _ => .none
  | .oth _ => .none
def pyAll : List D → List PyData
  | [] => []
  | d :: l => pyD d :: pyAll l
end
mutual
/-- data that may be compared: no dicts, no objects, well-formed texts, at most n deep -/
def eqOk : Nat → D → Bool
  | _, .non => true
  | _, .bl _ => true
  | _, .int _ => true
  | _, .str z => PyData.strOk z
  | 0, .lst _ => false
  | 0, .tup _ => false
  | n + 1, .lst l => eqAll n l
  | n + 1, .tup l => eqAll n l
  | _, .dct _ => false
  | _, .oth _ => false
def eqAll : Nat → List D → Bool
  | _, [] => true
  | n, d :: l => eqOk n d && eqAll n l
end
mutual
theorem dp_D : ∀ {n : Nat} {d : D} {v : V}, Rep K M H v d → eqOk n d = true → Dp K H v (pyD d) ∧ (pyD d).canLay0 = true ∧ (pyD d).depth ≤ n
  | _, .non, _, h, _ => by cases h; exact ⟨.non, by simp [pyD, PyData.canLay0], by simp [pyD, PyData.depth]⟩
  | _, .bl b, _, h, _ => by cases h; exact ⟨.bl b, by simp [pyD, PyData.canLay0], by simp [pyD, PyData.depth]⟩
  | _, .int i, _, h, _ => by cases h; exact ⟨.int i, by simp [pyD, PyData.canLay0], by simp [pyD, PyData.depth]⟩
  | _, .str z, _, h, f => by
    cases h
    refine ⟨.str z, ?_, by simp [pyD, PyData.depth]⟩
    simp only [pyD, PyData.canLay0]
    simpa [eqOk] using f
  | 0, .lst _, _, _, f => by simp [eqOk] at f
  | 0, .tup _, _, _, f => by simp [eqOk] at f
  | n + 1, .lst l, _, h, f => by
    cases h with
    | lst h1 n1 r =>
      obtain ⟨a1, a2, a3⟩ := dp_All (n := n) r (by simpa [eqOk] using f)
      exact ⟨.lst (SqL.of h1) a1, by simp [pyD, PyData.canLay0, a2], by simp [pyD, PyData.depth]; omega⟩
  | n + 1, .tup l, _, h, f => by
    cases h with
    | tup h1 n1 r =>
      obtain ⟨a1, a2, a3⟩ := dp_All (n := n) r (by simpa [eqOk] using f)
      exact ⟨.tup (SqT.of h1) a1, by simp [pyD, PyData.canLay0, a2], by simp [pyD, PyData.depth]; omega⟩
  | _, .dct _, _, _, f => by simp [eqOk] at f
  | _, .oth _, _, _, f => by simp [eqOk] at f
theorem dp_All : ∀ {n : Nat} {l : List D} {vs : List V}, Reps K M H vs l → eqAll n l = true → DpAll K H vs (pyAll l) ∧ PyData.canLayAll0 (pyAll l) = true ∧ PyData.depthAll (pyAll l) ≤ n
  | _, [], _, h, _ => by cases h; exact ⟨.nil, by simp [pyAll, PyData.canLayAll0], by simp [pyAll, PyData.depthAll]⟩
  | n, d :: l, _, h, f => by
    cases h with
    | cons h1 h2 =>
      obtain ⟨f1, f2⟩ := Bool.and_eq_true_iff.mp (show (eqOk n d && eqAll n l) = true by simpa [eqAll] using f)
      obtain ⟨a1, a2, a3⟩ := dp_D h1 f1
      obtain ⟨b1, b2, b3⟩ := dp_All h2 f2
      exact ⟨.cons a1 b1, by simp [pyAll, PyData.canLayAll0, a2, b2], by simp [pyAll, PyData.depthAll]; omega⟩
end
theorem shaped_D {n : Nat} {d : D} (h : Rep K M H x d) (f : eqOk n d = true) (hn : n ≤ 64) : SeqAt.shaped (pyD d) = true := by
  obtain ⟨_, a2, a3⟩ := dp_D h f
  simp only [SeqAt.shaped, a2, Bool.true_and, decide_eq_true_eq]
  omega
theorem eq_D {n m : Nat} {d e : D} (hx : Rep K M H x d) (hy : Rep K M H y e) (fd : eqOk n d = true) (fe : eqOk m e = true) (hn : n ≤ 64) (hm : m ≤ 64) (q : Q (.bl (PyData.eqv (pyD d) (pyD e))) H) : rEqU K x y H Q :=
  .inr ⟨_, _, (dp_D hx fd).1, (dp_D hy fe).1, shaped_D hx fd hn, shaped_D hy fe hm, q⟩
theorem ne_D {n m : Nat} {d e : D} (hx : Rep K M H x d) (hy : Rep K M H y e) (fd : eqOk n d = true) (fe : eqOk m e = true) (hn : n ≤ 64) (hm : m ≤ 64) (q : Q (.bl (!PyData.eqv (pyD d) (pyD e))) H) : rNeU K x y H Q :=
  .inr ⟨_, _, (dp_D hx fd).1, (dp_D hy fe).1, shaped_D hx fd hn, shaped_D hy fe hm, q⟩
theorem in_D {n m : Nat} {d : D} {l : List D} (hx : Rep K M H x d) (hy : Rep K M H y (.lst l)) (fd : eqOk n d = true) (fe : eqOk m (.lst l) = true) (hn : n ≤ 64) (hm : m ≤ 64) (q : Q (.bl ((pyAll l).any fun z => PyData.eqv z (pyD d))) H) : rInU K x y H Q :=
  .inr (.inr ⟨_, _, (dp_D hx fd).1, (by have := (dp_D hy fe).1; simpa [pyD] using this), shaped_D hx fd hn, (by have := shaped_D hy fe hm; simpa [pyD] using this), q⟩)
theorem ni_D {n m : Nat} {d : D} {l : List D} (hx : Rep K M H x d) (hy : Rep K M H y (.lst l)) (fd : eqOk n d = true) (fe : eqOk m (.lst l) = true) (hn : n ≤ 64) (hm : m ≤ 64) (q : Q (.bl (!(pyAll l).any fun z => PyData.eqv z (pyD d))) H) : rNiU K x y H Q :=
  .inr (.inr ⟨_, _, (dp_D hx fd).1, (by have := (dp_D hy fe).1; simpa [pyD] using this), shaped_D hx fd hn, (by have := shaped_D hy fe hm; simpa [pyD] using this), q⟩)
/-! ### tests of lists -/
theorem tru_If {ds : List D} {A B : Prop} (hx : Rep K M H x (.lst ds)) (h : if (!ds.isEmpty) = true then A else B) : ∃ k, TruV K x H k ∧ if k = true then A else B :=
  tru_R (QT := fun k _ => if k = true then A else B) hx h
/-! ### dicts -/
theorem dnew (hw : Wf M I) (hI : I H) (q : ∀ p H', H p = none → Ex M H H' → I H' → Rep K M H' (.ref p) (.dct []) → Q (.ref p) H') : tDNewK σ H Q := fun p hp =>
  q p _ hp (Ex.of (same_upd hp)) (hw.same (same_upd hp) hI) (.dct upd_same (hw.fresh hI hp) rfl .nil)
/-- {k: v}, k and v read off -/
theorem disp1 {tk tv : TE} {k : Key} {v : V} {d : D} (hw : Wf M I) (hI : I H) (hk : ∀ H Q, Q (kV k) H → tk σ H Q) (hv : ∀ H Q, Q v H → tv σ H Q) (r : Rep K M H v d) (q : ∀ y H', Ex M H H' → I H' → Rep K M H' y (.dct [(k, d)]) → Q y H') : tDisp [(tk, tv)] σ H Q := by
  intro p hp
  refine hk _ _ (hv _ _ ?_)
  refine ⟨upd_same, [(k, v)], rfl, by simp, ?_⟩
  have e : upd (upd H p (.dK [])) p (.dK (mergeK [] [(k, v)])) = upd H p (.dK [(k, v)]) := by
    funext a
    by_cases h : a = p
    · rw [h, upd_same, upd_same]; rfl
    · rw [upd_ne h, upd_ne h, upd_ne h]
  rw [e]
  exact q _ _ (Ex.of (same_upd hp)) (hw.same (same_upd hp) hI) (.dct upd_same (hw.fresh hI hp) rfl (.cons (r.same (same_upd hp)) .nil))
def keyD : Key → D
  | .inl i => .int i
  | .inr z => .str z
theorem rep_key (k : Key) : Rep K M H (kV k) (keyD k) := by
  cases k with
  | inl i => exact .int i
  | inr z => exact .str z
theorem reps_keys (H : Hp) : ∀ (kvs : List (Key × V)) (ds : List (Key × D)), kvs.map (·.1) = ds.map (·.1) → Reps K M H (kvs.map fun kv => kV kv.1) (ds.map fun kv => keyD kv.1)
  | [], [], _ => .nil
  | (k, v) :: kvs, (k', d) :: ds, h => by
    simp only [List.map_cons, List.cons.injEq] at h
    obtain ⟨rfl, h⟩ := h
    exact .cons (rep_key k) (reps_keys H kvs ds h)
  | [], _ :: _, h => by simp at h
  | _ :: _, [], h => by simp at h
theorem list_keys {ds : List (Key × D)} (hw : Wf M I) (hI : I H) (hx : Rep K M H x (.dct ds)) (q : ∀ v H', Ex M H H' → I H' → Rep K M H' v (.lst (ds.map fun kv => keyD kv.1)) → Q v H') : rList1 K [x] H Q := by
  cases hx with
  | dct h n k r =>
    refine .inr ⟨_, _, rfl, h, fun p hp => ?_⟩
    exact q _ _ (Ex.of (same_upd hp)) (hw.same (same_upd hp) hI) (.lst upd_same (hw.fresh hI hp) (reps_keys _ _ _ k))
theorem val_at : ∀ {kvs : List (Key × V)} {ds : List (Key × D)} {k : Key} {d : D}, kvs.map (·.1) = ds.map (·.1) → Reps K M H (kvs.map (·.2)) (ds.map (·.2)) → (ds.map (·.1)).Nodup → (k, d) ∈ ds → ∃ v, valV kvs k = some v ∧ Rep K M H v d
  | [], [], _, _, _, _, _, h => by cases h
  | (k1, v) :: kvs, (k2, d2) :: ds, k, d, hk, hr, hn, hm => by
    simp only [List.map_cons, List.cons.injEq] at hk
    obtain ⟨rfl, hk⟩ := hk
    cases hr with
    | cons r1 r2 =>
      simp only [List.map_cons, List.nodup_cons] at hn
      rcases List.mem_cons.mp hm with e | hm
      · cases e
        exact ⟨v, by simp [valV], r1⟩
      · have ne : ¬ k1 = k := fun e => hn.1 (e ▸ List.mem_map_of_mem (f := (·.1)) hm)
        obtain ⟨u, h1, h2⟩ := val_at hk r2 hn.2 hm
        refine ⟨u, ?_, h2⟩
        rw [← h1]
        simp [valV, ne]
  | [], _ :: _, _, _, h, _, _, _ => by simp at h
  | _ :: _, [], _, _, h, _, _, _ => by simp at h
theorem dget_R {ds : List (Key × D)} {k : Key} {d : D} {Z : V → Prop} (r : Rep K M H x (.dct ds)) (hn : (ds.map (·.1)).Nodup) (hm : (k, d) ∈ ds) (q : ∀ v, Rep K M H v d → Z v) : ∃ a v, x = .ref a ∧ DGet H a (kV k) (some v) ∧ Z v := by
  cases r with
  | dct h n hk hr =>
    obtain ⟨v, h1, h2⟩ := val_at hk hr hn hm
    refine ⟨_, v, rfl, ?_, q v h2⟩
    rw [← h1]
    exact DGet.k h
theorem sx_dget {td ty : TE} (h : td σ H fun x H1 => ty σ H1 fun y H2 => ∃ a v, x = .ref a ∧ DGet H2 a y (some v) ∧ Q v H2) : tDGet td ty σ H Q := h
end
end Nt

namespace Nt
open PySem PySem.Spec PyProof.Rows L2
section
variable {K : PySem.W.Frag} {M : Addr → Prop} {I : Hp → Prop} {H H1 : Hp} {Q : VK} {x y : V} {σ : L2.St} {ds : List D}
theorem cut_from {xs : List V} {n : Nat} : cutV xs (some (n : Nat)) none = xs.drop n := by
  unfold cutV
  rw [HT.sIx_none, HT.sIx_nat, List.take_of_length_le (by simp)]
  by_cases h : n ≤ xs.length
  · rw [Nat.min_eq_left h]
  · rw [Nat.min_eq_right (by omega), List.drop_of_length_le (Nat.le_refl _), List.drop_of_length_le (by omega)]
theorem cut_mid {xs : List V} {a b : Nat} : cutV xs (some (a : Nat)) (some (b : Nat)) = (xs.drop a).take (min b xs.length - min a xs.length) := by
  unfold cutV
  rw [HT.sIx_nat, HT.sIx_nat]
  by_cases h : a ≤ xs.length
  · rw [Nat.min_eq_left h]
  · rw [show min a xs.length = xs.length from Nat.min_eq_right (by omega), List.drop_of_length_le (Nat.le_refl _), List.drop_of_length_le (show xs.length ≤ a by omega)]
theorem sl_Lto {n : Nat} (hw : Wf M I) (hI : I H) (hx : Rep K M H x (.lst ds)) (q : ∀ v H', Ex M H H' → I H' → Rep K M H' v (.lst (ds.take n)) → Q v H') : rSlU K x none (some (n : Nat)) H Q := by
  cases hx with
  | lst h n1 r =>
    refine .inl ⟨_, _, rfl, SqL.of h, fun p hp => ?_⟩
    rw [cut_to]
    exact q _ _ (Ex.of (same_upd hp)) (hw.same (same_upd hp) hI) (.lst upd_same (hw.fresh hI hp) ((r.take n).same (same_upd hp)))
theorem sl_Lfrom {n : Nat} (hw : Wf M I) (hI : I H) (hx : Rep K M H x (.lst ds)) (q : ∀ v H', Ex M H H' → I H' → Rep K M H' v (.lst (ds.drop n)) → Q v H') : rSlU K x (some (n : Nat)) none H Q := by
  cases hx with
  | lst h n1 r =>
    refine .inl ⟨_, _, rfl, SqL.of h, fun p hp => ?_⟩
    rw [cut_from]
    exact q _ _ (Ex.of (same_upd hp)) (hw.same (same_upd hp) hI) (.lst upd_same (hw.fresh hI hp) ((r.drop n).same (same_upd hp)))
theorem sl_Lmid {a b : Nat} (hw : Wf M I) (hI : I H) (hx : Rep K M H x (.lst ds)) (q : ∀ v H', Ex M H H' → I H' → Rep K M H' v (.lst ((ds.drop a).take (min b ds.length - min a ds.length))) → Q v H') : rSlU K x (some (a : Nat)) (some (b : Nat)) H Q := by
  cases hx with
  | lst h n1 r =>
    refine .inl ⟨_, _, rfl, SqL.of h, fun p hp => ?_⟩
    rw [cut_mid, r.length]
    exact q _ _ (Ex.of (same_upd hp)) (hw.same (same_upd hp) hI) (.lst upd_same (hw.fresh hI hp) (((r.drop a).take _).same (same_upd hp)))
/-- tuple(a list) -/
theorem tup_L (hw : Wf M I) (hI : I H) (hx : Rep K M H x (.lst ds)) (q : ∀ v H', Ex M H H' → I H' → Rep K M H' v (.tup ds) → Q v H') : rTup1 K [x] H Q := by
  cases hx with
  | lst h n1 r =>
    refine ⟨_, _, rfl, .inl ⟨SqL.of h, fun p hp => ?_⟩⟩
    exact q _ _ (Ex.of (same_upd hp)) (hw.same (same_upd hp) hI) (.tup upd_same (hw.fresh hI hp) (r.same (same_upd hp)))
theorem tup_T (hx : Rep K M H x (.tup ds)) (q : Q x H) : rTup1 K [x] H Q := by
  cases hx with
  | tup h n1 r => exact ⟨_, _, rfl, .inr ⟨SqT.of h, q⟩⟩
end
end Nt
namespace Nt
open PySem PySem.Spec PyProof.Rows L2
theorem Ex.wide {M : Addr → Prop} {p : Addr} {H H' : Hp} (e : Ex M H H') : Ex (Mq M p) H H' := fun a o n h => e a o (fun m => n (.inl m)) h
section
variable {K : PySem.W.Frag} {M : Addr → Prop} {I : Hp → Prop} {tt : TT} {te : TE} {vs : List Nat} {σ : L2.St} {H1 : Hp} {Q : VK}
/-- [e for k in range(..) if ..]: the list is new -/
theorem lc_rngN {i : Nat} {lo : Int} {n : Nat} (hw : Wf M I) (hI : I H1) (hlen : n ≤ sizeLine) (hwp : ∀ v, wipe ((wipe σ vs).set i (some v)) vs = wipe σ vs) (p : Nat → Bool) (P : Nat → D → Prop)
    (ht : ∀ (L : Addr) (acc : List V) (k : Nat) (H : Hp), H1 L = none → ¬ M L → k < n → Wf (Mq M L) (Iq I L (.lst acc)) → Iq I L (.lst acc) H → Ex (Mq M L) H1 H →
      ∀ Qt : Bool → Hp → Prop, (∀ H3, Iq I L (.lst acc) H3 → Ex (Mq M L) H H3 → Qt (p k) H3) → tt ((wipe σ vs).set i (some (.int (lo + (k : Nat))))) H Qt)
    (he : ∀ (L : Addr) (acc : List V) (k : Nat) (H : Hp), H1 L = none → ¬ M L → k < n → p k = true → Wf (Mq M L) (Iq I L (.lst acc)) → Iq I L (.lst acc) H → Ex (Mq M L) H1 H →
      ∀ Qe : VK, (∀ y d H4, P k d → Rep K (Mq M L) H4 y d → Iq I L (.lst acc) H4 → Ex (Mq M L) H H4 → Qe y H4) → te ((wipe σ vs).set i (some (.int (lo + (k : Nat))))) H Qe)
    (hq : ∀ L ds H', H1 L = none → A2 P ((List.range n).filter p) ds → Rep K M H' (.ref L) (.lst ds) → Ex M H1 H' → I H' → Q (.ref L) H') : LcR (gName i) tt te vs σ Q (Itr lo n) H1 := by
  have w := walk_range (lo := lo) (n := n)
  rw [show Walk (Itr lo n) n = Walk (Itr lo n) (List.range n).length by simp] at w
  have at_ : ∀ {k a : Nat}, (List.range n)[k]? = some a → k < n ∧ a = k := fun {k a} h => by
    have hk := (List.getElem?_eq_some_iff.mp h).1
    rw [List.length_range] at hk
    rw [List.getElem?_range hk] at h
    cases h
    exact ⟨hk, rfl⟩
  refine lc_any (K := K) w hw hI p P (fun k _ => (wipe σ vs).set i (some (.int (lo + (k : Nat))))) (fun _ _ => trivial) (by simpa using hlen) (fun k a ha => ?_) (fun k a => hwp _) ?_ ?_ ?_
  · exact bd_name fun H x H' y => y
  · intro L acc k a H hL nL ha wf hi ex Qt q
    obtain ⟨h1, rfl⟩ := at_ ha
    exact ht L acc a H hL nL h1 wf hi ex Qt q
  · intro L acc k a H hL nL ha hp wf hi ex Qt q
    obtain ⟨h1, rfl⟩ := at_ ha
    exact he L acc a H hL nL h1 hp wf hi ex Qt q
  · exact fun L ds H' hL a2 rp ex hi => hq L ds H' hL a2 rp ex hi
end
end Nt

namespace Nt
open PySem PySem.Spec PyProof.Rows L2
section
variable {K : PySem.W.Frag} {M : Addr → Prop} {I : Hp → Prop} {σ : L2.St} {H H1 : Hp} {Q : VK} {i j : Int} {α : Type} {as : List α} {enc : α → D}
theorem and_ii (q : Q (.int (Builtin.bitAnd i j)) H) : rAndU (.int i) (.int j) H Q := ⟨i, j, rfl, rfl, q⟩
theorem or_ii (q : Q (.int (Builtin.bitOr i j)) H) : rOrU (.int i) (.int j) H Q := ⟨i, j, rfl, rfl, q⟩
theorem xor_ii (q : Q (.int (Builtin.bitXor i j)) H) : rXorU (.int i) (.int j) H Q := ⟨i, j, rfl, rfl, q⟩
theorem inv_i (q : Q (.int (Builtin.bitNot i)) H) : rInvU (.int i) H Q := ⟨i, rfl, q⟩
/-- for (any target) in a list, a tuple or a text -/
theorem for_srcG {g : TG} {x : V} {d : D} {tb : TS} {E : Ends} (hx : Rep K M H1 x d) (hd : d.elems = some (as.map enc)) (Pv : Nat → L2.St → Hp → Prop) (h0 : Pv 0 σ H1) (hG : ∀ k σ H, Pv k σ H → Ex M H1 H)
    (hs : ∀ k a v σ H, as[k]? = some a → Pv k σ H → Rep K M H v (enc a) → g v σ H fun σ2 H2 => tb { E with nx := Pv (k + 1), ct := Pv (k + 1), bk := E.nx } σ2 H2) (hq : ∀ σ H, Pv as.length σ H → E.nx σ H) : srcR K (ForR g tb E σ) x H1 := by
  obtain ⟨S, xs, rfl, r, hS⟩ := src_of hx hd
  have hl := reps_len r
  have key : ∀ {J : It} {G : Hp → Prop} {Y : Nat → Hp → V → Hp → Prop}, L2.Walk J as.length G Y → (∀ H', Ex M H1 H' → G H') → (∀ k H x H', Y k H x H' → H' = H ∧ xs[k]? = some x) → ForR g tb E σ J H1 := fun {J G Y} w hG2 hY => by
    refine for_it w Pv h0 (fun k σ H _ h => hG2 _ (hG k σ H h)) (fun k x σ H H' hk h y => ?_) hq
    obtain ⟨rfl, e2⟩ := hY _ _ _ _ y
    have ha : as[k]? = some as[k] := by simp [hk]
    obtain ⟨v, hv, rv⟩ := reps_at r ha
    rw [hv] at e2
    cases e2
    exact hs k _ _ σ _ ha h (rv.ex (hG _ _ _ h))
  cases S with
  | lst a =>
    refine .inl ⟨a, rfl, ⟨xs, hS H1 (Ex.refl _)⟩, ?_⟩
    have w := walk_list (K := K) (a := a) (xs := xs)
    rw [hl] at w
    exact key w hS fun k H x H' y => y
  | tup a =>
    refine .inr (.inl ⟨a, rfl, ⟨xs, hS H1 (Ex.refl _)⟩, ?_⟩)
    have w := walk_tup (K := K) (a := a) (xs := xs)
    rw [hl] at w
    exact key w hS fun k H x H' y => y
  | txt z =>
    refine .inr (.inr ⟨z, rfl, ?_⟩)
    have hxs : xs = signs z := hS H1 (Ex.refl _)
    have w := walk_str (z := z)
    have hz : z.cps.size = as.length := by rw [← hl, hxs]; simp [signs]
    rw [hz] at w
    refine key w (fun _ _ => trivial) fun k H x H' y => ⟨y.1, ?_⟩
    obtain ⟨_, c, e1, e2⟩ := y
    rw [hxs, e2]
    simp [signs, e1]
end
end Nt
namespace Nt
open PySem PySem.Spec PyProof.Rows L2
section
variable {K : PySem.W.Frag} {M : Addr → Prop} {I : Hp → Prop} {H H0 : Hp} {Q : VK} {x y : V} {p : Addr} {o : HO}
theorem add_LLN {ds es : List D} (hx : Rep K M H x (.lst ds)) (hy : Rep K M H y (.lst es)) (h : ds.length + es.length ≤ sizeLine) (q : ∀ p xs, H p = none → Reps K M H xs (ds ++ es) → Q (.ref p) (upd H p (.lst xs))) : rAddU K x y H Q := by
  cases hx with
  | lst h1 n1 r1 => cases hy with
    | lst h2 n2 r2 =>
      exact .inr (.inr (.inl ⟨_, _, _, _, rfl, rfl, h1, h2, by rw [r1.length, r2.length]; exact h, fun p hp => q p _ hp (r1.append r2)⟩))
theorem Ex.non (hw : Wf M I) (i : I H) (e : Ex M H0 H) (hp : H p = none) : H0 p = none := by
  cases h : H0 p with
  | none => rfl
  | some o =>
    have := e p o (hw.fresh i hp) h
    rw [hp] at this
    cases this
theorem Wf.set (hw : Wf M I) (np : ¬ M p) (i : I H) : I (upd H p o) := hw.stable H _ i fun a ha => upd_ne fun e => np (e ▸ ha)
theorem Ex.set (e : Ex M H0 H) (hp : H0 p = none) : Ex M H0 (upd H p o) := fun a u n h => by
  rw [upd_ne fun z => by rw [z, hp] at h; cases h]
  exact e a u n h
theorem ixN_m1 {n s : Nat} (h : 0 < n) (hs : s ≤ n) : ixN n ((s : Int) - 1) = some (if s = 0 then n - 1 else s - 1) := by
  unfold ixN
  by_cases h0 : s = 0
  · subst h0
    rw [if_neg (by omega), if_pos (by omega), if_pos rfl]
    congr 1
    omega
  · rw [if_pos (by omega), if_pos (by omega), if_neg h0]
    congr 1
    omega
end
end Nt

namespace Nt
open PySem PySem.Spec PyProof.Rows L2
/-! ### a set of texts -/
def txOf : Int × Value → Str := fun e => match e.2 with
  | .str z _ => z
  | _ => Str.empty
abbrev kS (P : Program) (w : World) : KeyKind P w Str := PySem.strKind P w
def OkT (P : Program) (w : World) (e : Int × Value) : Prop := ∃ z tk, e.2 = Value.str z tk ∧ e.1 = (kS P w).hash z
/-- the texts at a: those of L -/
structure SetT (P : Program) (w : World) (h : Heap) (a : Addr) (L : List Str) (o : Obj) (es : Array (Int × Value)) (ep : Nat) (t : SetTable) : Prop where
  at_ : h.get? a = some o
  ex : o.ExactSet
  da : o.data = .set es ep t
  ok : ∀ e ∈ es.toList, OkT P w e
  nd : (es.toList.map txOf).Nodup
  me : ∀ z, z ∈ L ↔ z ∈ es.toList.map txOf
  sz : es.size < scanBound
  fi : t.fits es.size = true
  ri : Ris t.place.toList
  le : w.params.followText "set-order" = true ∨ t.led = true
def SetL (P : Program) (w : World) (h : Heap) (a : Addr) (L : List Str) : Prop := ∃ o es ep t, SetT P w h a L o es ep t
section
variable {P : Program} {w : World} {A : Around} {E : Value → Shared → Prop} {s : Shared} {a : Addr} {L : List Str} {z : Str} {tk : Tok}
theorem okT_is {e : Int × Value} (g : OkT P w e) (k : Str) : (kS P w).is k e.2 = true ↔ txOf e = k := by
  obtain ⟨z, tk, h1, _⟩ := g
  unfold txOf
  rw [h1]
  show ((z == k) = true) ↔ z = k
  exact beq_iff_eq
theorem okT_elems {l : List (Int × Value)} (g : ∀ e ∈ l, OkT P w e) : ElemsOf (kS P w) l := fun e he => by
  obtain ⟨z, tk, h1, h2⟩ := g e he
  exact ⟨⟨z, by rw [h1]; exact strKind_is P w z tk, h2⟩, by rw [h1]; rfl⟩
/-- the table is written -/
theorem setT_store {g : Bool → Sem Unit} (hg : ∀ (b : Bool) (s1 : Shared) (Q : Unit → Shared → Prop), Q () s1 → wpAny (model P w) A (g b) Q E s1) {o : Obj} {es es1 : Array (Int × Value)} {ep : Nat} {t t2 : SetTable} (ho : s.heap.get? a = some o) (hex : o.ExactSet) (hd : o.data = .set es ep t)
    (g1 : ∀ e ∈ es1.toList, OkT P w e) (nd1 : (es1.toList.map txOf).Nodup) (m1 : ∀ k, k ∈ L ↔ k ∈ es1.toList.map txOf) (hb1 : es1.size < scanBound) (hf2 : t2.fits es1.size = true) (hr : Ris t2.place.toList) (hl : w.params.followText "set-order" = true ∨ t2.led = true)
    {wasDummy : Bool} {R : Option Bool → Shared → Prop} (hR : ∀ h', Heap.SameBut a s.heap h' → SetL P w h' a L → R (some true) { s with heap := h' }) :
    wpAny (model P w) A (do
        storeSet a es1 t2
        if (!wasDummy && t2.tooFull) = true then do
            g (relayAll t2 es1 (SetTable.grown es1.size)).2.2
            storeSet a (relayAll t2 es1 (SetTable.grown es1.size)).1 (relayAll t2 es1 (SetTable.grown es1.size)).2.1
            pure (some true)
          else pure (some true)) R E s := by
  have w1 := store_at (es' := es1) (t' := t2) ho hd
  have b1 := Heap.SameBut.update s.heap a (Obj.putSet es1 t2)
  refine wpAny_bind (wpAny_storeSet_of ho hd ?_ (fits_of_scanBound hb1))
  by_cases hc : (!wasDummy && t2.tooFull) = true
  · rw [if_pos hc]
    have p1 := relayAll_perm t2 es1 (SetTable.grown es1.size)
    have p2 := relayAll_fits t2 es1 (SetTable.grown es1.size)
    have p3 := relayAll_ris t2 es1 (SetTable.grown es1.size)
    have p4 := relayAll_led t2 es1 (SetTable.grown es1.size)
    rcases hz : relayAll t2 es1 (SetTable.grown es1.size) with ⟨es2, t3, gv⟩
    rw [hz] at p1 p2 p3 p4
    dsimp only at p1 p2 p3 p4 ⊢
    have sz2 : es2.size = es1.size := by rw [← Array.length_toList, p1.length_eq, Array.length_toList]
    refine wpAny_bind (hg _ _ _ (wpAny_bind (wpAny_storeSet_of w1 rfl ?_ (fits_of_scanBound (by rw [sz2]; exact hb1)))))
    have w2 := store_at (es' := es2) (t' := t3) w1 rfl
    refine wpAny_pure (hR _ (b1.trans (Heap.SameBut.update _ a _)) ⟨_, es2, _, t3, w2, hex, rfl, fun e he => g1 e (p1.mem_iff.mp he), (p1.map txOf).nodup_iff.mpr nd1, fun k => (m1 k).trans (p1.map txOf).mem_iff.symm, by rw [sz2]; exact hb1, p2, p3, hl.imp id fun y => by rw [p4]; exact y⟩)
  · rw [if_neg hc]
    exact wpAny_pure (hR _ b1 ⟨_, es1, _, t2, w1, hex, rfl, g1, nd1, m1, hb1, hf2, hr, hl⟩)
/-- one text more -/
theorem setT_add {Q : Bool → Shared → Prop} (R : SetL P w s.heap a L) (room : L.length + 1 < scanBound) (hQ : ∀ b h', Heap.SameBut a s.heap h' → SetL P w h' a (L ++ [z]) → Q b { s with heap := h' }) :
    wpAny (model P w) A (setAddHashed a (.str z tk) ((kS P w).hash z)) Q E s := by
  obtain ⟨o, es, ep, t, r⟩ := R
  have hel := okT_elems r.ok
  have few : es.size ≤ L.length := by
    have key : ∀ {l m : List Str}, l.Nodup → (∀ x ∈ l, x ∈ m) → l.length ≤ m.length := by
      intro l
      induction l with
      | nil => intro m _ _; exact Nat.zero_le _
      | cons x l ih =>
        intro m hn h
        obtain ⟨h1, h2⟩ := List.nodup_cons.mp hn
        have h3 := ih (m := m.erase x) h2 fun y hy => (List.mem_erase_of_ne fun e => h1 (by rw [← e]; exact hy)).mpr (h y (List.mem_cons_of_mem _ hy))
        have h4 := h x List.mem_cons_self
        have h5 := List.length_erase_of_mem h4
        have h6 := List.length_pos_of_mem h4
        simp only [List.length_cons]
        omega
    have := key r.nd fun x hx => (r.me x).mpr hx
    simpa using this
  have scn : (Value.str z tk).scannable = true := rfl
  have isz : (kS P w).is z (.str z tk) = true := strKind_is P w z tk
  have gv : ∀ (b : Bool) {s1 : Shared} {Q' : Unit → Shared → Prop}, Q' () s1 → wpAny (model P w) A (match b with | true => rule "set.scan.the-table-gave-way" | false => pure ()) Q' E s1 := fun b s1 Q' q => by
    cases b
    · exact wpAny_pure q
    · exact wpAny_rule q
  unfold setAddHashed setAddHashedIn
  refine wpAny_holding (wpAny_bind (wpAny_setState_of r.at_ r.da r.fi ?_))
  show wpAny (model P w) A _ _ _ _
  dsimp only
  rw [byScan_of scn r.sz hel]
  simp only [↓reduceIte]
  unfold setAddByScan
  refine wpAny_bind (wpAny_bind (wpAny_rule (wpAny_bind (wpAny_setScan_of isz r.at_ r.da r.fi hel ?_))))
  cases hf : List.findIdx? (fun e => (kS P w).is z e.2) es.toList with
  | none =>
    dsimp only
    have znot : z ∉ es.toList.map txOf := fun hz => by
      obtain ⟨e, he, q⟩ := List.mem_map.mp hz
      have c := List.findIdx?_eq_none_iff.mp hf e he
      rw [(okT_is (r.ok e he) z).mpr q] at c
      cases c
    have p1 := layNew_perm t es ((kS P w).hash z) (.str z tk)
    have p2 := layNew_fits t es ((kS P w).hash z) (.str z tk)
    have p3 := layNew_ris t es ((kS P w).hash z) (.str z tk) r.ri
    have p4 := layNew_led t es ((kS P w).hash z) (.str z tk)
    rcases hz : layNew t es ((kS P w).hash z) (.str z tk) with ⟨es1, t1, wd, gave⟩
    rw [hz] at p1 p2 p3 p4
    dsimp only at p1 p2 p3 p4 ⊢
    rw [Array.toList_push] at p1
    have pc : es1.toList.Perm (((kS P w).hash z, Value.str z tk) :: es.toList) := p1.trans (List.perm_append_singleton _ _)
    have pk : (es1.toList.map txOf).Perm (z :: es.toList.map txOf) := pc.map txOf
    have ok1 : ∀ e ∈ es1.toList, OkT P w e := fun e he => by
      rcases List.mem_cons.mp (pc.mem_iff.mp he) with y | y
      · rw [y]; exact ⟨z, tk, rfl, rfl⟩
      · exact r.ok e y
    have nd1 : (es1.toList.map txOf).Nodup := pk.nodup_iff.mpr (List.nodup_cons.mpr ⟨znot, r.nd⟩)
    have me1 : ∀ k, k ∈ L ++ [z] ↔ k ∈ es1.toList.map txOf := fun k => by
      rw [pk.mem_iff, List.mem_cons, List.mem_append, List.mem_singleton, r.me k]
      exact Or.comm
    have sz1 : es1.size < scanBound := by
      rw [← Array.length_toList, pc.length_eq, List.length_cons, Array.length_toList]
      omega
    have le1 : w.params.followText "set-order" = true ∨ t1.led = true := r.le.imp id fun y => by rw [p4]; exact y
    refine wpAny_bind (gv _ ?_)
    split
    · refine wpAny_bind ?_
      rw [hashByValue_scannable 8 scn]
      refine wpAny_pure (setT_store (L := L ++ [z]) (fun b s1 Q' q => ?_) r.at_ r.ex r.da ok1 nd1 me1 sz1 ?_ ?_ ?_ fun h' sb q => ?_)
      · exact gv b q
      · split
        · exact p2
        · exact SetTable.fits_plain_off p2
      · split <;> exact p3
      · split <;> exact le1
      · dsimp only
        exact wpAny_pure (hQ _ h' sb q)
    · refine wpAny_bind (wpAny_pure ?_)
      simp only [↓reduceIte]
      refine setT_store (L := L ++ [z]) (fun b s1 Q' q => ?_) r.at_ r.ex r.da ok1 nd1 me1 sz1 p2 p3 le1 fun h' sb q => ?_
      · exact gv b q
      · dsimp only
        exact wpAny_pure (hQ _ h' sb q)
  | some j =>
    dsimp only
    obtain ⟨hj, pj, _⟩ := List.findIdx?_eq_some_iff_getElem.mp hf
    have zin : z ∈ es.toList.map txOf := List.mem_map.mpr ⟨_, List.getElem_mem hj, (okT_is (r.ok _ (List.getElem_mem hj)) z).mp pj⟩
    refine wpAny_pure (wpAny_pure (hQ _ s.heap (Heap.SameBut.refl a s.heap) ⟨o, es, ep, t, r.at_, r.ex, r.da, r.ok, r.nd, fun k => ?_, r.sz, r.fi, r.ri, r.le⟩))
    rw [List.mem_append, List.mem_singleton]
    exact ⟨fun h => h.elim (r.me k).mp fun e => e ▸ zin, fun h => .inl ((r.me k).mpr h)⟩
end
end Nt

namespace Nt
open PySem PySem.Spec PyProof.Rows L2
section
variable {P : Program} {w : World} {A : Around} {R : Result → Shared → Prop} {it a : Addr} {fp wr : List Addr} {G : Array GenState → Array GenState → Prop} {n : Nat} {Pv : Nat → Value → Prop} {St : Nat → Shared → Prop} {L : List Str}
theorem SetL.keep {h h' : Heap} (r : SetL P w h a L) (k : ∀ o, h.get? a = some o → h'.get? a = some o) : SetL P w h' a L := by
  obtain ⟨o, es, ep, t, r⟩ := r
  exact ⟨o, es, ep, t, k o r.at_, r.ex, r.da, r.ok, r.nd, r.me, r.sz, r.fi, r.ri, r.le⟩
/-- the texts of an iterable, one after the other -/
theorem setT_loop (W : WalksS P w A.in1 it fp wr G n Pv St) (off : a ∉ fp) {xs : List Str} (hx : xs.length = n) (room : n + 1 < scanBound) (hv : ∀ i v, Pv i v → ∃ t, v = .str (xs.getD i Str.empty) t) (left : Nat) :
    ∀ {i : Nat} {s : Shared}, i + left = n → St i s → SetL P w s.heap a (xs.take i) → (∀ s', Moved (a :: wr) G s s' → SetL P w s'.heap a xs → R (.ok (.ret .none)) s') →
      codeAny (model P w) A (.builtin "set.update.loop" ⟨[.ref a, .ref it], []⟩) R s := by
  have offw : a ∉ wr := fun h => off (W.sub _ h)
  have sub : ∀ b ∈ wr, b ∈ a :: wr := fun b hb => List.mem_cons_of_mem _ hb
  induction left with
  | zero =>
    intro i s hi st r q
    rw [Nat.add_zero] at hi
    subst hi
    have rr : SetL P w s.heap a xs := by rw [← hx, List.take_length] at r; exact r
    refine codeAny_builtin PyProof.Rows.F.entry_set_update_loop ?_
    rw [Around.under_plainId PyProof.Rows.F.plain_set_update_loop _]
    show wpAny _ A.in1 (pyNext (.ref it) >>= _) _ _ s
    exact wpAny_bind (W.done s _ _ st fun s' mv => wpAny_pure (q s' (mv.mono sub) (rr.keep fun o ho => mv.heap a o offw ho)))
  | succ left ih =>
    intro i s hi st r q
    have hin : i < n := by omega
    refine codeAny_builtin PyProof.Rows.F.entry_set_update_loop ?_
    rw [Around.under_plainId PyProof.Rows.F.plain_set_update_loop _]
    show wpAny _ A.in1 (pyNext (.ref it) >>= _) _ _ s
    refine wpAny_bind (W.item i s _ _ hin st fun v s1 hp st1 mv => ?_)
    obtain ⟨tk, rfl⟩ := hv i v hp
    have r1 : SetL P w s1.heap a (xs.take i) := r.keep fun o ho => mv.heap a o offw ho
    have hlen : (xs.take i).length + 1 < scanBound := by rw [List.length_take]; omega
    have hnext : xs.take (i + 1) = xs.take i ++ [xs.getD i Str.empty] := by
      have hl : i < xs.length := by omega
      rw [List.take_succ_eq_append_getElem hl]
      simp [List.getD, hl]
    show wpAny _ A.in1 (holding [Value.str (xs.getD i Str.empty) tk] (setAdd a (.str (xs.getD i Str.empty) tk)) >>= _) _ _ s1
    refine wpAny_bind (wpAny_holding ?_)
    unfold setAdd
    refine wpAny_holding (wpAny_bind ((kS P w).pyHash (k := xs.getD i Str.empty) (strKind_is _ _ _ _) ?_))
    refine setT_add (s := { s1 with toks := s1.toks + 1 }) r1 hlen fun b h' sb r2 => ?_
    rw [← hnext] at r2
    have others : ∀ b, b ≠ a → h'.get? b = s1.heap.get? b := fun b hb => sb.2 b hb
    refine wpAny_pure ⟨plainId_quiet PyProof.Rows.F.plain_set_update_loop _, ih (by omega) (W.frame _ s1 _ _ st1 (Nat.le_succ _) fun b hb o ho => ?_) r2 fun s2 mv2 r3 => q s2 (Moved.trans W.gtrans ((mv.mono sub).then_heap (Nat.le_succ _) fun b o hb ho => ?_) mv2) r3⟩
    · exact (others b fun h => off (by rw [← h]; exact hb)).trans ho
    · exact (others b fun h => hb (by rw [h]; exact List.mem_cons_self)).trans ho
end
end Nt

namespace Nt
open PySem PySem.Spec PyProof.Rows L2
/-- a new set -/
abbrev bare0 (w : World) : Obj := { cls := .type "set", dict := none, data := .set #[] 0 (.fresh 0 0 (!w.params.followText "set-order")) }
section
variable {P : Program} {w : World} {A : Around} {E : Value → Shared → Prop} {s : Shared}
theorem setL_bare {h : Heap} {a : Addr} (ha : h.get? a = some (bare0 w)) : SetL P w h a [] :=
  ⟨_, #[], 0, _, ha, ⟨rfl, rfl, rfl⟩, rfl, fun e he => by simp at he, by simp, fun z => by simp, by decide, rfl, List.Pairwise.nil, by
    show _ ∨ (!w.params.followText "set-order") = true
    cases w.params.followText "set-order"
    · exact .inr rfl
    · exact .inl rfl⟩
theorem str_of {vs : List Value} {xs : List Str} (h : StrsAre vs xs) : ∀ (i : Nat) (v : Value), vs[i]? = some v → ∃ t, v = .str (xs.getD i Str.empty) t := by
  induction h with
  | nil => intro i v h; simp at h
  | cons z t _ ih =>
    intro i v h
    cases i with
    | zero => simp at h; exact ⟨t, h.symm⟩
    | succ i => obtain ⟨t2, e⟩ := ih i v (by simpa using h); exact ⟨t2, by simpa using e⟩
/-- set(xs), xs a list of texts -/
theorem call_setT {l : Addr} {items : Array Value} {xs : List Str} {Q : Value → Shared → Prop} (hh : A.handled = none) (hl : s.heap.IsList l items) (hi : StrsAre items.toList xs) (few : xs.length + 1 < scanBound)
    (h : ∀ (h' : Heap) (tk : Nat), SetL P w h' s.heap.objs.size xs → (∀ b o, s.heap.get? b = some o → h'.get? b = some o) → Q (.ref s.heap.objs.size) { s with heap := h', toks := tk }) :
    wpAny (model P w) A (call (.type "set") [.ref l]) Q E s := by
  have len : xs.length = items.size := by rw [← StrsAre.len_eq hi, Array.length_toList]
  obtain ⟨cc, tl, k1⟩ := PySem.F.called_set.mro
  have k2 := PySem.F.called_set.made
  have k3 := PySem.F.called_set.sub
  refine wpAny_call (codeAny_of_tree ?_)
  show wpAny _ _ (callAny (.type "set") _) _ _ _
  refine wpAny_pure ⟨Code.quiet_builtin _ (by decide +kernel), codeAny_builtin PySem.F.entry_type_call ?_⟩
  rw [Around.under_plain (weight_type_call_type "set" [.ref l] []) rfl]
  have k4 := PySem.F.called_set.notType
  have k5 := PySem.F.called_set.canCreate
  have k6 := PySem.F.typeCall_set_1 (.ref l)
  repeat any_goals first | assumption | wp_step
  have new : (s.heap.push (bare0 w)).get? s.heap.objs.size = some (bare0 w) := Heap.get?_push_size _ rfl
  refine codeAny_mono (code_set_led1 (.ref l) (E := E) (Q₁ := fun obj s1 => obj = .ref s.heap.objs.size ∧ s1 = { s with heap := s.heap.push (bare0 w) }) ⟨rfl, rfl⟩) fun r s1 hr => ?_
  rcases r with er | fl
  · exact hr
  rcases fl with _ | _ | _ | obj
  · exact hr.elim
  · exact hr.elim
  · exact hr.elim
  obtain ⟨rfl, rfl⟩ := hr
  have tyS : Shared.TypeIs { s with heap := s.heap.push (bare0 w) } (.ref s.heap.objs.size) "set" := ⟨_, new, rfl⟩
  have k7 := PySem.F.called_set.init.lookup
  have k8 := PySem.F.called_set.init.bind (.ref s.heap.objs.size)
  repeat any_goals first | assumption | wp_step
  have keep : ∀ (b : Addr) (o : Obj), s.heap.get? b = some o → b ≠ s.heap.objs.size := fun b o e => Nat.ne_of_lt (Heap.lt_size e)
  let Z : Value → Shared → Prop := fun r s2 => r = .none ∧ ∃ h' tk, s2 = { s with heap := h', toks := tk } ∧ SetL P w h' s.heap.objs.size xs ∧ ∀ b o, s.heap.get? b = some o → h'.get? b = some o
  refine codeAny_mono (codeAny_call_builtin (R := wants Z E) PySem.F.called_set.init.plain PySem.F.entry_set_init (check_set_init_1 tyS ?_)) fun r s2 hr => ?_
  · obtain ⟨⟨oc, od, dt, osl⟩, ho, hc, nl, hd⟩ := hl
    simp only at hc hd
    subst hc hd
    have lS := Heap.lt_size ho
    have here : (s.heap.push (bare0 w)).get? l = some { cls := .type "list", dict := od, data := .seq items nl, slots := osl } := Heap.get?_push_of_some _ ho
    have il : (s.heap.push (bare0 w)).IsList l items := ⟨_, here, rfl, nl, rfl⟩
    have k9 := PySem.F.sub_list_set
    have k10 := PySem.F.sub_list_frozenset
    have k11 : (Value.type "list" == Value.type "dict") = false := by decide
    unfold Builtin.«set.__init__» noKeywords Builtin.Frozenset.updateFrom
    generalize hPI : pyIter = PI
    wp_walk
    subst hPI
    refine wpAny_pyIter_list il (wpAny_bind (wpAny_runValue ?_))
    have free3 : A.in1.in1.in1.handled = none := by simp [hh]
    have size1 : (s.heap.push (bare0 w)).objs.size = s.heap.objs.size + 1 := Heap.size_push ..
    have far : l ≠ (s.heap.push (bare0 w)).objs.size := by rw [size1]; exact Nat.ne_of_lt (Nat.lt_succ_of_lt lS)
    have off : s.heap.objs.size ∉ [(s.heap.push (bare0 w)).objs.size, l] := by
      rw [size1]
      intro z
      simp only [List.mem_cons, List.not_mem_nil, or_false] at z
      rcases z with z | z
      · exact absurd z (Nat.ne_of_lt (Nat.lt_succ_self _))
      · exact absurd z (Nat.ne_of_gt lS)
    have its : ∀ (i : Nat) (v : Value), items[i]? = some v → ∃ t, v = .str (xs.getD i Str.empty) t := fun i v hv => str_of hi i v (by rw [Array.getElem?_toList]; exact hv)
    refine setT_loop ((Walks.list free3 _ l far items).toS) off len (by rw [← len]; exact few) its items.size (i := 0) (by omega) ⟨⟨_, Heap.get?_push_size _ rfl, rfl, rfl⟩, il.push _⟩ ?_ ?_
    · rw [List.take_zero]
      exact setL_bare (Heap.get?_push_of_some _ new)
    · intro s3 mv r3
      obtain ⟨h3, g3, d3, t3, o3⟩ := s3
      have eg : g3 = s.gens := mv.gens
      have ed : d3 = s.drawn := mv.drawn
      have eo : o3 = s.os := mv.os
      subst eg ed eo
      show wpAny _ _ _ _ _ _
      refine wpAny_pure ?_
      show wpAny _ _ (ret Value.none) _ _ _
      refine wpAny_pure ⟨rfl, h3, t3, rfl, r3, fun b o e => ?_⟩
      have hb := Heap.lt_size e
      refine mv.heap b o (fun z => ?_) (Heap.get?_push_of_some _ (Heap.get?_push_of_some _ e))
      simp only [List.mem_cons, List.not_mem_nil, or_false] at z
      rcases z with z | z
      · exact keep b o e z
      · rw [size1] at z
        exact absurd z (Nat.ne_of_lt (Nat.lt_succ_of_lt hb))
  · rcases r with er | fl
    · exact hr
    rcases fl with _ | _ | _ | v
    · exact hr.elim
    · exact hr.elim
    · exact hr.elim
    obtain ⟨rfl, h3, t3, rfl, r3, kp⟩ := hr
    repeat any_goals first | assumption | wp_step
    exact h _ _ r3 kp
end
end Nt

namespace Nt
open PySem PySem.Spec PyProof.Rows L2
section
variable {P : Program} {w : World} {A : Around} {E : Value → Shared → Prop} {s : Shared}
/-- sorted(a set of texts) -/
theorem sorted_setT {a : Addr} {L : List Str} {Q : Value → Shared → Prop} (R : SetL P w s.heap a L) (hh : A.handled = none)
    (hQ : ∀ s' p (out : Array Value) (c : Nat) (ys : List Str), (∀ b o, s.heap.get? b = some o → s'.heap.get? b = some o) → s'.gens = s.gens → s'.os = s.os → s.heap.objs.size ≤ p →
      s'.heap.get? p = some (seqObj "list" out c) → StrsAre out.toList ys → sortedS ys = true → ys.Nodup → (∀ z, z ∈ ys ↔ z ∈ L) → Q (.ref p) s') :
    wpAny (model P w) A (call (.builtin "sorted") [.ref a]) Q E s := by
  obtain ⟨o, es, ep, t, r⟩ := R
  refine Calls.call_function_entry kind_sorted plain_sorted entry_sorted (args_sorted1 _) ?_
  unfold Builtin.«sorted»
  refine wpAny_bind (m := checkCount "sorted" 1 1 _) (wpAny_pure (wpAny_bind (collect_set (A := A.in1) hh ⟨o, r.at_, r.ex.1, r.da⟩ r.fi r.sz r.ri r.le fun s1 vs kp le1 g1 o1 pm => ?_)))
  have lens : vs.length = es.size := by rw [pm.length_eq, List.length_map, Array.length_toList]
  have small : vs.length ≤ sizeLine := by rw [lens]; exact fits_of_scanBound r.sz
  have hstr : ∀ (l : List (Int × Value)), (∀ e ∈ l, OkT P w e) → StrsAre (l.map (·.2)) (l.map txOf) := by
    intro l
    induction l with
    | nil => intro _; exact .nil
    | cons e l ih =>
      intro h
      obtain ⟨z, tk, h1, _⟩ := h e List.mem_cons_self
      have e2 : txOf e = z := by unfold txOf; rw [h1]
      rw [List.map_cons, List.map_cons, h1, e2]
      exact .cons z tk (ih fun x hx => h x (List.mem_cons_of_mem _ hx))
  obtain ⟨xs, hxs, px⟩ : ∃ xs, StrsAre vs xs ∧ xs.Perm (es.toList.map txOf) := by
    have key : ∀ {us vs : List Value}, vs.Perm us → ∀ {ys}, StrsAre us ys → ∃ xs, StrsAre vs xs ∧ xs.Perm ys := by
      intro us vs p
      induction p with
      | nil => intro ys h; cases h; exact ⟨[], .nil, .nil⟩
      | cons v _ ih =>
        intro ys h
        cases h with
        | cons z t h =>
          obtain ⟨xs, h1, h2⟩ := ih h
          exact ⟨z :: xs, .cons z t h1, h2.cons z⟩
      | swap v u l =>
        intro ys h
        cases h with
        | cons z t h => cases h with
          | cons z2 t2 h => exact ⟨z2 :: z :: _, .cons z2 t2 (.cons z t h), .swap z z2 _⟩
      | trans _ _ ih1 ih2 =>
        intro ys h
        obtain ⟨xs, h1, h2⟩ := ih2 h
        obtain ⟨xs2, h3, h4⟩ := ih1 h1
        exact ⟨xs2, h3, h4.trans h2⟩
    exact key pm (hstr _ r.ok)
  refine wpAny_bind (wpAny_newList ?_ small)
  have hoL : (s1.heap.push (seqObj "list" vs.toArray 0)).get? s1.heap.objs.size = some (seqObj "list" vs.toArray 0) := Heap.get?_push_size _ rfl
  refine wpAny_bind (wpAny_holding (wpAny_call_entry slot_list_sort ⟨_, hoL, rfl⟩ entry_list_sort (list_sort_treeKAny strKind_oneLt hoL hxs.keysOf (fun v1 v2 rest e => keyKind_strs (by rw [← e]; exact hxs)) small fun st hp hs => ⟨_, rfl, ?_⟩) (args_list_sort _)))
  obtain ⟨ys, y1, y2, y3⟩ := sorted_out_str hxs hp hs
  obtain ⟨c, hc⟩ := sortedHeap_at (vs := vs) (out := (arrOf st).map (·.2)) hoL
  have py := y2.trans px
  refine wpAny_pure ⟨_, rfl, hQ _ s1.heap.objs.size _ c ys (fun b u e => ?_) g1 o1 le1 hc y1 y3 (py.nodup_iff.mpr r.nd) fun z => py.mem_iff.trans (r.me z).symm⟩
  have e1 := kp b u e
  have lt := Heap.lt_size e1
  show (sortedHeap (s1.heap.push (seqObj "list" vs.toArray 0)) s1.heap.objs.size vs _).get? b = some u
  rw [sortedHeap_old (Nat.ne_of_lt lt) (by rw [size_push']; exact Nat.lt_succ_of_lt lt)]
  exact Heap.get?_push_of_some _ e1
end
/-! ### .. in the hand layer -/
def SetTO (P : Program) (w : World) (a : Addr) (L : List Str) : HO := .ext fun h => SetL P w h a L
section
variable {X : Cx}
theorem setTO_ok {P : Program} {w : World} {H : Hp} {h : Heap} {a : Addr} {L : List Str} (R : SetL P w h a L) : ObjOk P w H h a (SetTO P w a L) := by
  have ⟨o, _, _, _, r⟩ := R
  exact ⟨R, ⟨o, r.at_⟩, fun h1 h2 p k => SetL.keep p k⟩
/-- set(a list of texts) -/
def rSetT (K : PySem.W.Frag) (P : Program) (w : World) : List V → Hp → VK → Prop := fun vs H Q => ∃ (a : Addr) (xs : List Str), vs = [V.ref a] ∧ SqL K H a (xs.map V.str) ∧ xs.length + 1 < scanBound ∧ ∀ p, H p = none → Q (.ref p) (upd H p (SetTO P w p xs))
theorem cr_setT (hc : X.calm = true) : CallR X (.type "set") (rSetT X.K X.prog X.w) := by
  intro pins s σ H vs us Q I r h
  obtain ⟨a, xs, rfl, hs, few, q⟩ := h
  obtain ⟨its, rv, hl, _⟩ := I.list hs
  rw [Vals.ref1 r]
  refine call_setT (I.ok.hd hc) hl.isList (by simpa using rv.strs) few fun h' tk R kp => ?_
  exact ⟨.ref _, upd H s.heap.objs.size (SetTO X.prog X.w s.heap.objs.size xs), I.laid (t' := tk) kp (Nat.le_refl _) (setTO_ok R), rfl, q _ (I.hok.fresh (Nat.le_refl _))⟩
def rSortT (P : Program) (w : World) : List V → Hp → VK → Prop := fun vs H Q => ∃ (a : Addr) (L : List Str), vs = [V.ref a] ∧ H a = some (SetTO P w a L) ∧ L.length ≤ 1000 ∧
  ∀ (ys : List Str) (p : Addr), sortedS ys = true → ys.Nodup → (∀ z, z ∈ ys ↔ z ∈ L) → H p = none → Q (.ref p) (upd H p (.lst (ys.map V.str)))
theorem cr_sortT (hc : X.calm = true) : CallR X (.builtin "sorted") (rSortT X.prog X.w) := by
  intro pins s σ H vs us Q I r h
  obtain ⟨a, L, rfl, ha, few, q⟩ := h
  have R : SetL X.prog X.w s.heap a L := (I.hok a _ ha).1
  rw [Vals.ref1 r]
  refine sorted_setT R (I.ok.hd hc) fun s' p out c ys kp hg ho hp hat hst hso hnd hme => ?_
  have hn : H p = none := I.hok.fresh hp
  have few2 : ys.length ≤ L.length := by
    have key : ∀ {l m : List Str}, l.Nodup → (∀ x ∈ l, x ∈ m) → l.length ≤ m.length := by
      intro l
      induction l with
      | nil => intro m _ _; exact Nat.zero_le _
      | cons x l ih =>
        intro m hn h
        obtain ⟨h1, h2⟩ := List.nodup_cons.mp hn
        have h3 := ih (m := m.erase x) h2 fun y hy => (List.mem_erase_of_ne fun e => h1 (by rw [← e]; exact hy)).mpr (h y (List.mem_cons_of_mem _ hy))
        have h5 := List.length_erase_of_mem (h x List.mem_cons_self)
        have h6 := List.length_pos_of_mem (h x List.mem_cons_self)
        simp only [List.length_cons]
        omega
    exact key hnd fun x hx => (hme x).mp hx
  have hl : (ys.map V.str).length ≤ sizeLine := by rw [List.length_map, sizeLine_eq]; omega
  have J : Inv X pins σ (upd H p (.lst (ys.map V.str))) { s with heap := s'.heap, gens := s'.gens, drawn := s'.drawn, toks := s'.toks } :=
    I.call (ch := []) (Un.laid kp hp hn) (I.hok.laid kp hp ⟨hl, out.toList, c, vals_of_strs hst, hat⟩) (by rw [hg]; exact I.bare) fun _ z => nomatch z
  have e : s' = { s with heap := s'.heap, gens := s'.gens, drawn := s'.drawn, toks := s'.toks } := by
    obtain ⟨h1, g1, d1, t1, o1⟩ := s'
    obtain ⟨h2, g2, d2, t2, o2⟩ := s
    simp only at ho
    subst ho
    rfl
  rw [e]
  exact ⟨.ref p, _, J, rfl, q ys p hso hnd hme hn⟩
end
end Nt

namespace Nt
open PySem PySem.Spec PySem.W PyProof.Rows L2
/-! ### a key def: x.count(a text) -/
section
variable {P : Program} {w : World} {K : PySem.W.Frag} {mg : Str → Option Value} {base : Heap} {A : Around} {outer : List Env} {s0 : Shared} {H : Hp} {f : Addr} {fd : FuncData} {nm qual x c z : Str} {params : Arguments} {scope : Scope} {p1 p2 p3 p4 p5 : Pos} {k0 : Nat} {t : Tok}
abbrev cntBody (x c : Str) (k0 : Nat) (p1 p2 p3 p4 p5 : Pos) : List Stmt := [.Return (some (.Call (.Attribute (.Name x p1) "count" p2) [.Constant (.str c) k0 p3] [] p4)) p5]
theorem count_key (F : FunD K nm qual params (cntBody x c k0 p1 p2 p3 p4 p5) scope [] [] f fd) (S : FnScope [x] [x] scope) (hv : scope.names.lookup x = some .local) (hd : (x == ("__debug__" : Str)) = false) (hline : (p2.endLine == p4.line) = true) (hr : Room 1 A) (e0 : Env0 P w K mg base A outer s0 H)
    (hb : BindsTo s0 fd ⟨[.str z t], []⟩ [(x, .str z t)]) : wpAny (model P w) A (call (.ref f) [.str z t]) (PySem.W.KeyPure (.int (Txt.count z c)) s0) (fun _ _ => False) s0 := by
  obtain ⟨oc, od, dV, kV, doc, pm, an, cdv, ct, osl, rfl, lk, hcd, _, _⟩ := F.ex
  have KX : K.In s0.heap := e0.mod.kin.keeps fun b o e => (e0.bs b o e).1
  have lim : s0.heap.NoLimit := e0.mod.nolimit.keeps fun b o e => (e0.bs b o e).1
  refine wpAny_call (codeAny_call_function hr.depth (KX _ _ lk) rfl S.co S.gen rfl (PySem.W.codeRec_of KX hcd) (hb _ _ _ _ ?_))
  refine wpAny_newFunctionEnv_cells S.kind (fun y hy => .inl (by rw [List.mem_singleton.mp hy]; exact hv)) fun env he s1 x1 => ?_
  subst he
  refine ⟨lim.keeps x1.toInCall.keep, codeAny_func ?_⟩
  have I : Inv (cxOf (L2.CX P w) P w K mg base [x] qual scope f cdv A outer s0 H (fun _ _ _ => False)) [] (start [x] [.str z]) H s1 := inv_start S hr.hd e0 rfl (.cons ⟨t, rfl⟩ .nil) x1
  obtain ⟨h1, tk, rfl, hk⟩ := x1.done
  have X0 := cxOf (L2.CX P w) P w K mg base [x] qual scope f cdv A outer s0 H (fun _ _ _ => False)
  refine wpAny_execs_cons (wpAny_Return_some (wpAny_Call_method_late rfl rfl hline rfl ?_))
  obtain ⟨m, hn, hl⟩ := I.loc
  obtain ⟨u, r, l⟩ := hl 0 x (.str z) rfl rfl (.inl hv)
  have here : ∀ {Q : Value → Shared → Prop} {E : Value → Shared → Prop}, Q u { s0 with heap := h1, toks := tk } → wpAny (model P w) (A.deeper (envOfC qual scope s0.heap.objs.size f cdv)) (eval (.Name x p1) (envOfC qual scope s0.heap.objs.size f cdv)) Q E { s0 with heap := h1, toks := tk } := fun {Q E} q => by
    rcases l with ⟨hk, hm⟩ | ⟨hk, c, hc, hcell⟩
    · exact wpAny_Name (wpAny_loadName_local I.ok.kind hk hn hm q) hd
    · have e : (envOfC qual scope s0.heap.objs.size f cdv).kindOf x = some .local := hv
      rcases hk with hk | hk
      · have hk2 : (envOfC qual scope s0.heap.objs.size f cdv).kindOf x = some .cell := hk
        rw [hk2] at e; cases e
      · have hk2 : (envOfC qual scope s0.heap.objs.size f cdv).kindOf x = some .free := hk
        rw [hk2] at e; cases e
  refine here ?_
  obtain ⟨t2, rfl⟩ := r
  refine ⟨"str", "str.count", PySem.F.plainAttrs_str, PySem.F.slot_str_count, PySem.F.type_str_count, typeIs_str _ z t2, (fun _ e => nomatch e), ?_⟩
  refine Calls.callWith_builtin rfl (Calls.evalArgs_plain ?_)
  refine PyProof.Rows.args_cons (wpAny_Constant_str (PyProof.Rows.args_nil (PySem.SC.count ?_))) rfl
  exact ⟨h1, _, rfl, hk, .int _ _⟩
end
/-! ### sorted(texts, key=such a def) -/
theorem pe_gref {X : Cx} {x : Str} {f : Addr} {pos : Pos} (hg : Gl X x) (hm : X.mg x = some (.ref f)) (hdb : (x == ("__debug__" : Str)) = false := by decide) : PE X (.Name x pos) (tC (.ref f)) :=
  ⟨fun pins s σ H Q I h => ld_glob I hg hm ⟨.ref f, H, I, rfl, h⟩ hdb⟩
def leK (g : Str → Int) : Str → Str → Bool := fun a b => decide (g a ≤ g b)
def rSortKey (K : PySem.W.Frag) (f : Addr) (g : Str → Int) : List V → List V → Hp → VK → Prop := fun vs zs H Q => ∃ (a : Addr) (xs : List Str), vs = [V.ref a] ∧ zs = [V.ref f] ∧ SqL K H a (xs.map V.str) ∧ xs.length ≤ 1000 ∧
  ∀ p, H p = none → Q (.ref p) (upd H p (.lst ((xs.mergeSort (leK g)).map V.str)))
section
variable {X : Cx} {nm qual x c : Str} {params : Arguments} {scope : Scope} {p1 p2 p3 p4 p5 : Pos} {k0 : Nat} {f : Addr} {fd : FuncData}
theorem cr_sortKey (F : FunD X.K nm qual params (cntBody x c k0 p1 p2 p3 p4 p5) scope [] [] f fd) (S : FnScope [x] [x] scope) (hv : scope.names.lookup x = some .local) (hd : (x == ("__debug__" : Str)) = false) (hline : (p2.endLine == p4.line) = true) (hr : Room 1 X.A.in1.in1) (hu : X.A.units + 65 < cLine)
    (hb : ∀ (s : Shared) (v : Value), BindsTo s fd ⟨[v], []⟩ [(x, v)]) : CallRK X (.builtin "sorted") ["key"] (rSortKey X.K f fun z => Txt.count z c) := by
  intro pins s σ H vs zs us ws Q I r rz h
  obtain ⟨a, xs, rfl, rfl, hs, few, q⟩ := h
  obtain ⟨its, rv, hl, _⟩ := I.list hs
  rw [Vals.ref1 r, Vals.ref1 rz]
  have hst : StrsAre its xs := by simpa using rv.strs
  have each : PySem.W.EachIs (fun (v : Value) (z : Str) => ∃ t, v = .str z t) its xs := by
    have key : ∀ {its : List Value} {xs : List Str}, StrsAre its xs → PySem.W.EachIs (fun (v : Value) (z : Str) => ∃ t, v = .str z t) its xs := by
      intro its xs h
      induction h with
      | nil => exact .nil
      | cons z t _ ih => exact .cons ⟨t, rfl⟩ ih
    exact key hst
  have hle : (PySem.W.dataLe false fun z : Str => PyData.int (Txt.count z c)) = leK fun z => Txt.count z c := PySem.W.dataLe_int _
  refine PySem.W.sorted_key_data (b := false) (fun z : Str => PyData.int (Txt.count z c)) hl.isList each (PySem.W.AllAlike.of fun _ _ => by simp [PySem.W.alike]) (PySem.W.Sortable.others fun z => ⟨nofun, fun l => nofun⟩) (by rw [sizeLine_eq]; omega) (fun z _ => ?_) (ksk_s1 _ _) (fun _ => ksk_l1 _ _) (fun _ => ksk_t1 _ _) (fun v z hv2 _ h tk kp => ?_) fun out c' h' tk kp _ hD hlen eo => ?_
  · have e : (PyData.int (Txt.count z c)).depth = 0 := by simp [PyData.depth]
    omega
  · obtain ⟨t, rfl⟩ := hv2
    have I2 : Inv X pins σ H { s with heap := h, toks := tk } := I.kept fun b o e => kp b o e
    exact count_key F S hv hd hline hr (I2.env0.in1.in1) (hb _ _)
  · rw [hle] at eo
    have hso : StrsAre out (xs.mergeSort (leK fun z => Txt.count z c)) := by
      generalize xs.mergeSort (leK fun z => Txt.count z c) = ys at eo
      clear hlen hD
      induction eo with
      | nil => exact .nil
      | cons h _ ih =>
        obtain ⟨t, rfl⟩ := h
        exact .cons _ t ih
    have hl2 : ((xs.mergeSort (leK fun z => Txt.count z c)).map V.str).length ≤ sizeLine := by rw [List.length_map, List.length_mergeSort, sizeLine_eq]; omega
    exact ⟨.ref _, upd H (s.heap.objs.size + 1) (.lst ((xs.mergeSort (leK fun z => Txt.count z c)).map V.str)), I.laid (t' := tk) kp (Nat.le_succ _) ⟨hl2, out, c', vals_of_strs hso, hD⟩, rfl, q _ (I.hok.fresh (Nat.le_succ _))⟩
end
/-! ### sorted(pairs of a number and a text) -/
def rCountS : V → List V → Hp → VK → Prop := fun x xs H Q => ∃ a b, x = .str a ∧ xs = [.str b] ∧ Q (.int (Txt.count a b)) H
theorem mt_countS {X : Cx} : MtR X "str.count" rCountS := mt_count
abbrev eG (g : List Nat → Int) (l : List Nat) : D := .tup [.int (g l), .str (T l)]
def leP (g : List Nat → Int) : List Nat → List Nat → Bool := PySem.W.dataLe false fun l => PyData.tuple [.int (g l), .str (T l)]
def rSortPT (K : PySem.W.Frag) : List V → Hp → VK → Prop := fun vs H Q => ∃ (M : Addr → Prop) (I : Hp → Prop) (x : V) (L : List (List Nat)) (g : List Nat → Int), Wf M I ∧ I H ∧ vs = [x] ∧ Rep K M H x (.lst (L.map (eG g))) ∧ L.length ≤ 1000 ∧ (∀ l ∈ L, ∀ c ∈ l, c < 128) ∧
  ∀ y H', Ex M H H' → I H' → Rep K M H' y (.lst ((L.mergeSort (leP g)).map (eG g))) → Q y H'
theorem cr_sortPT {X : Cx} (hu : X.A.units + 65 < cLine) : CallR X (.builtin "sorted") (rSortPT X.K) := by
  intro pins s σ H vs us Q I r h
  obtain ⟨M, J, x, L, g, hw, hJ, rfl, hx, few, hc, q⟩ := h
  cases hx with
  | @lst a xs _ ha na rs =>
    obtain ⟨its, rv, hl, _⟩ := I.list (SqL.of ha)
    rw [Vals.ref1 r]
    let R : Value → List Nat → Prop := fun v l => (∃ x : V, RelV x v ∧ Rep X.K M H x (eG g l)) ∧ l ∈ L
    have each : EachIs R its L ∧ EachIs (fun v l => ∃ as, Reads s.heap v (PyData.tuple [.int (g l), .str (T l)]) as) its L := by
      have key : ∀ {L0 : List (List Nat)} {xs : List V} {its : List Value}, (∀ l ∈ L0, l ∈ L) → Vals xs its → Reps X.K M H xs (L0.map (eG g)) → EachIs R its L0 ∧ EachIs (fun v l => ∃ as, Reads s.heap v (PyData.tuple [.int (g l), .str (T l)]) as) its L0 := by
        intro L0
        induction L0 with
        | nil =>
          intro xs its _ rv rs
          cases rs
          cases rv
          exact ⟨.nil, .nil⟩
        | cons l L0 ih =>
          intro xs its hin rv rs
          cases rs with
          | cons r1 r2 =>
            cases rv with
            | cons v1 v2 =>
              obtain ⟨i1, i2⟩ := ih (fun l hl => hin l (List.mem_cons_of_mem _ hl)) v2 r2
              have hl := hin l List.mem_cons_self
              have ok : eqOk 1 (eG g l) = true := by simp only [eqOk, eqAll, ok_T (hc l hl), Bool.and_self]
              obtain ⟨as, ra⟩ := Dp.reads I _ _ _ (dp_D r1 ok).1 v1
              exact ⟨.cons ⟨⟨_, v1, r1⟩, hl⟩ i1, .cons ⟨as, ra⟩ i2⟩
      exact key (fun _ h => h) rv rs
    refine sorted_data (enc := fun l => PyData.tuple [.int (g l), .str (T l)]) hl.isList each.1 each.2 (AllAlike.of fun _ _ => by simp [alike, alikeAll]) (Sortable.tuples fun _ => ⟨_, _, rfl⟩) (by rw [sizeLine_eq]; omega) (fun l _ => ?_) fun out ho eo => ?_
    · have e : (PyData.tuple [.int (g l), .str (T l)]).depth = 1 := by simp [PyData.depth, PyData.depthAll]
      omega
    · have back : ∃ ys, Vals ys out ∧ Reps X.K M H ys ((L.mergeSort (leP g)).map (eG g)) := by
        have key : ∀ {Z : List (List Nat)} {out : List Value}, EachIs R out Z → ∃ ys, Vals ys out ∧ Reps X.K M H ys (Z.map (eG g)) := by
          intro Z out h
          induction h with
          | nil => exact ⟨[], .nil, .nil⟩
          | cons h _ ih =>
            obtain ⟨ys, h1, h2⟩ := ih
            obtain ⟨⟨y, h3, h4⟩, _⟩ := h
            exact ⟨y :: ys, .cons h3 h1, .cons h4 h2⟩
        exact key eo
      obtain ⟨ys, v1, r1⟩ := back
      have hlen : ys.length ≤ sizeLine := by rw [r1.length, List.length_map, List.length_mergeSort, sizeLine_eq]; omega
      obtain ⟨ep, he'⟩ := PyProof.Rows.sortedAll_at s.heap its (List.toArray out)
      have hp : H (s.heap.objs.size + 1) = none := I.hok.fresh (Nat.le_succ _)
      have sm := same_upd (o := .lst ys) hp
      exact ⟨.ref _, upd H (s.heap.objs.size + 1) (.lst ys), I.laid (t' := s.toks) (fun _ _ => PyProof.Rows.sortedAll_old) (Nat.le_succ _) ⟨hlen, out, ep, v1, he'⟩, rfl, q _ _ (Ex.of sm) (hw.same sm hJ) (.lst upd_same (hw.fresh hJ hp) (r1.same sm))⟩
end Nt

namespace Nt
open PySem PySem.Spec PyProof.Rows L2
section
variable {P : Program} {w : World} {A : Around} {E : Value → Shared → Prop} {s : Shared}
/-- set(xs), xs a tuple of texts -/
theorem call_setTu {l : Addr} {items : Array Value} {xs : List Str} {Q : Value → Shared → Prop} (hh : A.handled = none) (hl : s.heap.IsTuple l items) (hi : StrsAre items.toList xs) (few : xs.length + 1 < scanBound)
    (h : ∀ (h' : Heap) (tk : Nat), SetL P w h' s.heap.objs.size xs → (∀ b o, s.heap.get? b = some o → h'.get? b = some o) → Q (.ref s.heap.objs.size) { s with heap := h', toks := tk }) :
    wpAny (model P w) A (call (.type "set") [.ref l]) Q E s := by
  have len : xs.length = items.size := by rw [← StrsAre.len_eq hi, Array.length_toList]
  obtain ⟨cc, tl, k1⟩ := PySem.F.called_set.mro
  have k2 := PySem.F.called_set.made
  have k3 := PySem.F.called_set.sub
  refine wpAny_call (codeAny_of_tree ?_)
  show wpAny _ _ (callAny (.type "set") _) _ _ _
  refine wpAny_pure ⟨Code.quiet_builtin _ (by decide +kernel), codeAny_builtin PySem.F.entry_type_call ?_⟩
  rw [Around.under_plain (weight_type_call_type "set" [.ref l] []) rfl]
  have k4 := PySem.F.called_set.notType
  have k5 := PySem.F.called_set.canCreate
  have k6 := PySem.F.typeCall_set_1 (.ref l)
  repeat any_goals first | assumption | wp_step
  have new : (s.heap.push (bare0 w)).get? s.heap.objs.size = some (bare0 w) := Heap.get?_push_size _ rfl
  refine codeAny_mono (code_set_led1 (.ref l) (E := E) (Q₁ := fun obj s1 => obj = .ref s.heap.objs.size ∧ s1 = { s with heap := s.heap.push (bare0 w) }) ⟨rfl, rfl⟩) fun r s1 hr => ?_
  rcases r with er | fl
  · exact hr
  rcases fl with _ | _ | _ | obj
  · exact hr.elim
  · exact hr.elim
  · exact hr.elim
  obtain ⟨rfl, rfl⟩ := hr
  have tyS : Shared.TypeIs { s with heap := s.heap.push (bare0 w) } (.ref s.heap.objs.size) "set" := ⟨_, new, rfl⟩
  have k7 := PySem.F.called_set.init.lookup
  have k8 := PySem.F.called_set.init.bind (.ref s.heap.objs.size)
  repeat any_goals first | assumption | wp_step
  have keep : ∀ (b : Addr) (o : Obj), s.heap.get? b = some o → b ≠ s.heap.objs.size := fun b o e => Nat.ne_of_lt (Heap.lt_size e)
  let Z : Value → Shared → Prop := fun r s2 => r = .none ∧ ∃ h' tk, s2 = { s with heap := h', toks := tk } ∧ SetL P w h' s.heap.objs.size xs ∧ ∀ b o, s.heap.get? b = some o → h'.get? b = some o
  refine codeAny_mono (codeAny_call_builtin (R := wants Z E) PySem.F.called_set.init.plain PySem.F.entry_set_init (check_set_init_1 tyS ?_)) fun r s2 hr => ?_
  · obtain ⟨⟨oc, od, dt, osl⟩, ho, hc, nl, hd⟩ := hl
    simp only at hc hd
    subst hc hd
    have lS := Heap.lt_size ho
    have here : (s.heap.push (bare0 w)).get? l = some { cls := .type "tuple", dict := od, data := .seq items nl, slots := osl } := Heap.get?_push_of_some _ ho
    have il : (s.heap.push (bare0 w)).IsTuple l items := ⟨_, here, rfl, nl, rfl⟩
    have k9 := PySem.F.sub_tuple_set
    have k10 := PySem.F.sub_tuple_frozenset
    have k11 : (Value.type "tuple" == Value.type "dict") = false := by decide
    unfold Builtin.«set.__init__» noKeywords Builtin.Frozenset.updateFrom
    generalize hPI : pyIter = PI
    wp_walk
    subst hPI
    refine wpAny_pyIter_tuple il (wpAny_bind (wpAny_runValue ?_))
    have free3 : A.in1.in1.in1.handled = none := by simp [hh]
    have size1 : (s.heap.push (bare0 w)).objs.size = s.heap.objs.size + 1 := Heap.size_push ..
    have far : l ≠ (s.heap.push (bare0 w)).objs.size := by rw [size1]; exact Nat.ne_of_lt (Nat.lt_succ_of_lt lS)
    have off : s.heap.objs.size ∉ [(s.heap.push (bare0 w)).objs.size, l] := by
      rw [size1]
      intro z
      simp only [List.mem_cons, List.not_mem_nil, or_false] at z
      rcases z with z | z
      · exact absurd z (Nat.ne_of_lt (Nat.lt_succ_self _))
      · exact absurd z (Nat.ne_of_gt lS)
    have its : ∀ (i : Nat) (v : Value), items[i]? = some v → ∃ t, v = .str (xs.getD i Str.empty) t := fun i v hv => str_of hi i v (by rw [Array.getElem?_toList]; exact hv)
    refine setT_loop ((Walks.tuple free3 _ l far items).toS) off len (by rw [← len]; exact few) its items.size (i := 0) (by omega) ⟨⟨_, Heap.get?_push_size _ rfl, rfl, rfl⟩, il.push _⟩ ?_ ?_
    · rw [List.take_zero]
      exact setL_bare (Heap.get?_push_of_some _ new)
    · intro s3 mv r3
      obtain ⟨h3, g3, d3, t3, o3⟩ := s3
      have eg : g3 = s.gens := mv.gens
      have ed : d3 = s.drawn := mv.drawn
      have eo : o3 = s.os := mv.os
      subst eg ed eo
      show wpAny _ _ _ _ _ _
      refine wpAny_pure ?_
      show wpAny _ _ (ret Value.none) _ _ _
      refine wpAny_pure ⟨rfl, h3, t3, rfl, r3, fun b o e => ?_⟩
      have hb := Heap.lt_size e
      refine mv.heap b o (fun z => ?_) (Heap.get?_push_of_some _ (Heap.get?_push_of_some _ e))
      simp only [List.mem_cons, List.not_mem_nil, or_false] at z
      rcases z with z | z
      · exact keep b o e z
      · rw [size1] at z
        exact absurd z (Nat.ne_of_lt (Nat.lt_succ_of_lt hb))
  · rcases r with er | fl
    · exact hr
    rcases fl with _ | _ | _ | v
    · exact hr.elim
    · exact hr.elim
    · exact hr.elim
    obtain ⟨rfl, h3, t3, rfl, r3, kp⟩ := hr
    repeat any_goals first | assumption | wp_step
    exact h _ _ r3 kp
end
section
variable {X : Cx}
/-- set(a list or a tuple of texts) -/
def rSetU (K : PySem.W.Frag) (P : Program) (w : World) : List V → Hp → VK → Prop := fun vs H Q => ∃ (a : Addr) (xs : List Str), vs = [V.ref a] ∧ (SqL K H a (xs.map V.str) ∨ SqT K H a (xs.map V.str)) ∧ xs.length + 1 < scanBound ∧ ∀ p, H p = none → Q (.ref p) (upd H p (SetTO P w p xs))
theorem cr_setU (hc : X.calm = true) : CallR X (.type "set") (rSetU X.K X.prog X.w) := by
  intro pins s σ H vs us Q I r h
  obtain ⟨a, xs, rfl, hs | hs, few, q⟩ := h
  · exact cr_setT hc pins s σ H _ us Q I r ⟨a, xs, rfl, hs, few, q⟩
  · obtain ⟨its, rv, hl, _⟩ := I.tuple hs
    rw [Vals.ref1 r]
    refine call_setTu (I.ok.hd hc) (show s.heap.IsTuple a its.toArray from hl) (by simpa using rv.strs) few fun h' tk R kp => ?_
    exact ⟨.ref _, upd H s.heap.objs.size (SetTO X.prog X.w s.heap.objs.size xs), I.laid (t' := tk) kp (Nat.le_refl _) (setTO_ok R), rfl, q _ (I.hok.fresh (Nat.le_refl _))⟩
end
end Nt

namespace Nt
open PySem PySem.Spec PyProof.Rows L2
section
variable {K : PySem.W.Frag} {M : Addr → Prop} {I : Hp → Prop} {J : It} {G : Hp → Prop} {Y : Nat → Hp → V → Hp → Prop} {α : Type} {as : List α} {g : TG} {tt : TT} {te : TE} {vs : List Nat} {σ : L2.St} {H1 : Hp}
theorem lc_any2 {Q : VK} (w : L2.Walk J as.length G Y) (hw : Wf M I) (hI : I H1) (p : α → Bool) (P : α → D → Prop) (asg : Nat → α → L2.St) (hG : ∀ H', Ex M H1 H' → G H') (hlen : as.length ≤ sizeLine)
    (hb : ∀ k a, as[k]? = some a → ∀ H x H' (Qc : L2.St → Hp → Prop), Ex M H1 H → Y k H x H' → (∀ H2, L2.Same H H2 → Qc (asg k a) H2) → g x (wipe σ vs) H' Qc) (hwp : ∀ k a, wipe (asg k a) vs = wipe σ vs)
    (ht : ∀ L acc k a H, H1 L = none → ¬ M L → as[k]? = some a → Wf (Mq M L) (Iq I L (.lst acc)) → Iq I L (.lst acc) H → Ex (Mq M L) H1 H →
      ∀ Qt : Bool → Hp → Prop, (∀ H3, Iq I L (.lst acc) H3 → Ex (Mq M L) H H3 → Qt (p a) H3) → tt (asg k a) H Qt)
    (he : ∀ L acc k a H, H1 L = none → ¬ M L → as[k]? = some a → p a = true → Wf (Mq M L) (Iq I L (.lst acc)) → Iq I L (.lst acc) H → Ex (Mq M L) H1 H →
      ∀ Qe : VK, (∀ y d H4, P a d → Rep K (Mq M L) H4 y d → Iq I L (.lst acc) H4 → Ex (Mq M L) H H4 → Qe y H4) → te (asg k a) H Qe)
    (hd : ∀ L ds H', H1 L = none → A2 P (as.filter p) ds → Rep K M H' (.ref L) (.lst ds) → Ex M H1 H' → I H' → Q (.ref L) H') :
    ∀ L, H1 L = none → ∃ W : Nat → Nat → Hp → Prop, (∃ m, W 0 m (upd H1 L (.lst []))) ∧ ∀ i m H, W i m H →
      (J.stop i H ∧ Q (.ref L) H) ∨ (J.go i H ∧ ∃ Nx : Hp → Prop, (∀ H', Nx H' → ∃ m', m' < m ∧ W (i + 1) m' H') ∧ ∀ x H', J.yld i H x H' → g x (wipe σ vs) H' fun σ2 H2 => wipe σ2 vs = wipe σ vs ∧ tt σ2 H2 fun b H3 =>
        if b = true then te σ2 H3 fun y H4 => ∃ acc, H4 L = some (.lst acc) ∧ acc.length < sizeLine ∧ Nx (upd H4 L (.lst (acc ++ [y]))) else Nx H3) := by
  intro L hL
  have nM : ¬ M L := hw.fresh hI hL
  have exL : ∀ {H' : Hp}, Ex (Mq M L) H1 H' → Ex M H1 H' := fun e p o n h => e p o (fun m => m.elim n fun z => by rw [z, hL] at h; cases h) h
  refine lc_it w (fun k H => ∃ acc ds, Iq I L (.lst acc) H ∧ A2 P ((as.take k).filter p) ds ∧ Reps K (Mq M L) H acc ds ∧ Ex (Mq M L) H1 H) ?_ (fun k H _ h => ?_) ?_ ?_
  · refine ⟨[], [], ⟨hw.same (same_upd hL) hI, upd_same⟩, .nil, .nil, Ex.of (same_upd hL)⟩
  · obtain ⟨acc, ds, _, _, _, e⟩ := h
    exact hG H (exL e)
  · rintro k x H H' hk ⟨acc, ds, i1, a2, rs, e⟩ y
    have ha : as[k]? = some as[k] := by simp [hk]
    have wf' := hw.add L (.lst acc)
    have hlen2 : acc.length < sizeLine := by
      have l1 := rs.length
      have l2 := a2.length
      have l3 : ((as.take k).filter p).length ≤ (as.take k).length := List.length_filter_le _ _
      have l4 : (as.take k).length ≤ k := by simp; omega
      omega
    refine hb k _ ha H x H' _ (exL e) y fun H2 sm => ⟨hwp k _, ?_⟩
    have i2 := wf'.same sm i1
    have e2 : Ex (Mq M L) H1 H2 := e.trans (Ex.of sm)
    have rs2 := rs.same sm
    refine ht L acc k _ H2 hL nM ha wf' i2 e2 _ fun H3 i3 e3 => ?_
    cases hp : p as[k] with
    | false =>
      simp only [Bool.false_eq_true, if_false]
      refine ⟨acc, ds, i3, ?_, rs2.ex e3, e2.trans e3⟩
      rw [take_snoc ha, List.filter_append]
      simpa [hp] using a2
    | true =>
      simp only [if_true]
      refine he L acc k _ H3 hL nM ha hp wf' i3 (e2.trans e3) _ fun y d H4 py ry i4 e4 => ⟨acc, i4.2, hlen2, ?_⟩
      obtain ⟨i5, e5⟩ := hw.put (o' := .lst (acc ++ [y])) nM i4
      refine ⟨acc ++ [y], ds ++ [d], i5, ?_, ?_, ((e2.trans e3).trans e4).trans e5⟩
      · rw [take_snoc ha, List.filter_append]
        refine a2.append ?_
        simp [hp]
        exact .cons py .nil
      · exact (((rs2.ex e3).ex e4).append (.cons ry .nil)).ex e5
  · rintro H ⟨acc, ds, i1, a2, rs, e⟩
    refine hd L ds H hL ?_ (.lst i1.2 nM (rs.le fun p m => .inl m)) (exL e) i1.1
    simpa using a2
end
def prOf (H : Hp) (x : V) : V × V := match x with
  | .ref p => (match H p with
    | some (.tup [v, w]) => (v, w)
    | _ => (.non, .non))
  | _ => (.non, .non)
section
variable {K : PySem.W.Frag} {M : Addr → Prop} {I : Hp → Prop} {α : Type} {as : List α} {tt : TT} {te : TE} {vs : List Nat} {σ : L2.St} {H1 : Hp} {Q : VK} {enc enc2 : α → D}
/-- [e for x, y in a list of pairs if t] -/
theorem lc_srcP {i j : Nat} {x : V} {d : D} (hw : Wf M I) (hI : I H1) (hx : Rep K M H1 x d) (hd : d.elems = some (as.map fun a => .tup [enc a, enc2 a])) (hlen : as.length ≤ sizeLine) (hwp : ∀ v w, wipe (((wipe σ vs).set i (some v)).set j (some w)) vs = wipe σ vs) (p : α → Bool) (P : α → D → Prop)
    (ht : ∀ (L : Addr) (acc : List V) (k : Nat) (a : α) (v w : V) (H : Hp), H1 L = none → ¬ M L → as[k]? = some a → Rep K (Mq M L) H v (enc a) → Rep K (Mq M L) H w (enc2 a) → Wf (Mq M L) (Iq I L (.lst acc)) → Iq I L (.lst acc) H → Ex (Mq M L) H1 H →
      ∀ Qt : Bool → Hp → Prop, (∀ H3, Iq I L (.lst acc) H3 → Ex (Mq M L) H H3 → Qt (p a) H3) → tt (((wipe σ vs).set i (some v)).set j (some w)) H Qt)
    (he : ∀ (L : Addr) (acc : List V) (k : Nat) (a : α) (v w : V) (H : Hp), H1 L = none → ¬ M L → as[k]? = some a → p a = true → Rep K (Mq M L) H v (enc a) → Rep K (Mq M L) H w (enc2 a) → Wf (Mq M L) (Iq I L (.lst acc)) → Iq I L (.lst acc) H → Ex (Mq M L) H1 H →
      ∀ Qe : VK, (∀ y d H4, P a d → Rep K (Mq M L) H4 y d → Iq I L (.lst acc) H4 → Ex (Mq M L) H H4 → Qe y H4) → te (((wipe σ vs).set i (some v)).set j (some w)) H Qe)
    (hq : ∀ y ds H', A2 P (as.filter p) ds → Rep K M H' y (.lst ds) → Ex M H1 H' → I H' → Q y H') : srcR K (LcR (gTup K 2 (gCons (gName i) (gCons (gName j) gNil))) tt te vs σ Q) x H1 := by
  obtain ⟨S, xs, rfl, r, hS⟩ := src_of hx hd
  have hl : xs.length = as.length := by simpa using r.length
  have key : ∀ {J : It} {G : Hp → Prop} {Y : Nat → Hp → V → Hp → Prop}, L2.Walk J as.length G Y → (∀ H', Ex M H1 H' → G H') → (∀ k H x H', Y k H x H' → H' = H ∧ xs[k]? = some x) → LcR (gTup K 2 (gCons (gName i) (gCons (gName j) gNil))) tt te vs σ Q J H1 := fun {J G Y} w hG hY => by
    have pair : ∀ {k : Nat} {a : α}, as[k]? = some a → ∃ p v w, xs[k]? = some (.ref p) ∧ ¬ M p ∧ H1 p = some (.tup [v, w]) ∧ Rep K M H1 v (enc a) ∧ Rep K M H1 w (enc2 a) ∧ prOf H1 (xs.getD k .non) = (v, w) := fun {k a} ha => by
      obtain ⟨x, hx, rx⟩ := r.get (k := k) (d := .tup [enc a, enc2 a]) (by simp [ha])
      cases rx with
      | @tup p _ _ h n r =>
        cases r with
        | cons r1 r2 => cases r2 with
          | cons r2 r3 =>
            cases r3
            refine ⟨p, _, _, hx, n, h, r1, r2, ?_⟩
            rw [show xs.getD k .non = .ref p by simp [List.getD, hx]]
            simp only [prOf, h]
    refine lc_any2 (K := K) w hw hI p P (fun k _ => ((wipe σ vs).set i (some (prOf H1 (xs.getD k .non)).1)).set j (some (prOf H1 (xs.getD k .non)).2)) hG hlen (fun k a ha => ?_) (fun k a => hwp _ _) ?_ ?_ ?_
    · intro H x H' Qc eH y q
      obtain ⟨rfl, e2⟩ := hY k H x H' y
      obtain ⟨p, v, w, hx, n, h, _, _, ep⟩ := pair ha
      rw [hx] at e2
      cases e2
      rw [ep] at q
      exact ⟨p, [v, w], rfl, SqT.of (eH p _ n h), rfl, v, [w], rfl, w, [], rfl, rfl, q _ (L2.Same.refl _)⟩
    · intro L acc k a H hL nL ha wf hi ex Qt q
      obtain ⟨p, v, w, _, _, _, r1, r2, ep⟩ := pair ha
      rw [ep]
      exact ht L acc k a v w H hL nL ha ((r1.off hL).ex ex) ((r2.off hL).ex ex) wf hi ex Qt q
    · intro L acc k a H hL nL ha hp wf hi ex Qt q
      obtain ⟨p, v, w, _, _, _, r1, r2, ep⟩ := pair ha
      rw [ep]
      exact he L acc k a v w H hL nL ha hp ((r1.off hL).ex ex) ((r2.off hL).ex ex) wf hi ex Qt q
    · exact fun L ds H' hL a2 rp ex hi => hq _ ds H' a2 rp ex hi
  cases S with
  | lst a =>
    refine .inl ⟨a, rfl, ⟨xs, hS H1 (Ex.refl _)⟩, ?_⟩
    have w := walk_list (K := K) (a := a) (xs := xs)
    rw [hl] at w
    exact key w hS fun k H x H' y => y
  | tup a =>
    refine .inr (.inl ⟨a, rfl, ⟨xs, hS H1 (Ex.refl _)⟩, ?_⟩)
    have w := walk_tup (K := K) (a := a) (xs := xs)
    rw [hl] at w
    exact key w hS fun k H x H' y => y
  | txt z =>
    refine .inr (.inr ⟨z, rfl, ?_⟩)
    have hxs : xs = signs z := hS H1 (Ex.refl _)
    have w := walk_str (z := z)
    have hz : z.cps.size = as.length := by rw [← hl, hxs]; simp [signs]
    rw [hz] at w
    refine key w (fun _ _ => trivial) fun k H x H' y => ⟨y.1, ?_⟩
    obtain ⟨_, c, e1, e2⟩ := y
    rw [hxs, e2]
    simp [signs, e1]
end
end Nt

namespace Nt
open PySem PySem.Spec PyProof.Rows L2
section
variable {K : PySem.W.Frag} {M : Addr → Prop} {I : Hp → Prop} {J : It} {G : Hp → Prop} {Y : Nat → Hp → V → Hp → Prop} {α : Type} {as : List α} {g : TG} {tt : TT} {te : TE} {vs : List Nat} {σ : L2.St} {H1 : Hp}
/-- .. where the test may answer either way -/
theorem lc_any3 {Q : VK} (w : L2.Walk J as.length G Y) (hw : Wf M I) (hI : I H1) (P : α → D → Prop) (asg : Nat → α → L2.St) (hG : ∀ H', Ex M H1 H' → G H') (hlen : as.length ≤ sizeLine)
    (hb : ∀ k a, as[k]? = some a → Bd g (Y k) (wipe σ vs) (asg k a)) (hwp : ∀ k a, wipe (asg k a) vs = wipe σ vs)
    (ht : ∀ L acc k a H, H1 L = none → ¬ M L → as[k]? = some a → Wf (Mq M L) (Iq I L (.lst acc)) → Iq I L (.lst acc) H → Ex (Mq M L) H1 H →
      ∀ Qt : Bool → Hp → Prop, (∀ b H3, Iq I L (.lst acc) H3 → Ex (Mq M L) H H3 → Qt b H3) → tt (asg k a) H Qt)
    (he : ∀ L acc k a H, H1 L = none → ¬ M L → as[k]? = some a → Wf (Mq M L) (Iq I L (.lst acc)) → Iq I L (.lst acc) H → Ex (Mq M L) H1 H →
      ∀ Qe : VK, (∀ y d H4, P a d → Rep K (Mq M L) H4 y d → Iq I L (.lst acc) H4 → Ex (Mq M L) H H4 → Qe y H4) → te (asg k a) H Qe)
    (hd : ∀ L bs ds H', H1 L = none → bs.Sublist as → A2 P bs ds → Rep K M H' (.ref L) (.lst ds) → Ex M H1 H' → I H' → Q (.ref L) H') :
    ∀ L, H1 L = none → ∃ W : Nat → Nat → Hp → Prop, (∃ m, W 0 m (upd H1 L (.lst []))) ∧ ∀ i m H, W i m H →
      (J.stop i H ∧ Q (.ref L) H) ∨ (J.go i H ∧ ∃ Nx : Hp → Prop, (∀ H', Nx H' → ∃ m', m' < m ∧ W (i + 1) m' H') ∧ ∀ x H', J.yld i H x H' → g x (wipe σ vs) H' fun σ2 H2 => wipe σ2 vs = wipe σ vs ∧ tt σ2 H2 fun b H3 =>
        if b = true then te σ2 H3 fun y H4 => ∃ acc, H4 L = some (.lst acc) ∧ acc.length < sizeLine ∧ Nx (upd H4 L (.lst (acc ++ [y]))) else Nx H3) := by
  intro L hL
  have nM : ¬ M L := hw.fresh hI hL
  have exL : ∀ {H' : Hp}, Ex (Mq M L) H1 H' → Ex M H1 H' := fun e p o n h => e p o (fun m => m.elim n fun z => by rw [z, hL] at h; cases h) h
  refine lc_it w (fun k H => ∃ acc bs ds, Iq I L (.lst acc) H ∧ bs.Sublist (as.take k) ∧ A2 P bs ds ∧ Reps K (Mq M L) H acc ds ∧ Ex (Mq M L) H1 H) ?_ (fun k H _ h => ?_) ?_ ?_
  · exact ⟨[], [], [], ⟨hw.same (same_upd hL) hI, upd_same⟩, by simp, .nil, .nil, Ex.of (same_upd hL)⟩
  · obtain ⟨acc, bs, ds, _, _, _, _, e⟩ := h
    exact hG H (exL e)
  · rintro k x H H' hk ⟨acc, bs, ds, i1, sb, a2, rs, e⟩ y
    have ha : as[k]? = some as[k] := by simp [hk]
    have wf' := hw.add L (.lst acc)
    have hlen2 : acc.length < sizeLine := by
      have l1 := rs.length
      have l2 := a2.length
      have l3 := sb.length_le
      have l4 : (as.take k).length ≤ k := by simp; omega
      omega
    refine hb k _ ha H x H' _ y fun H2 sm => ⟨hwp k _, ?_⟩
    have i2 := wf'.same sm i1
    have e2 : Ex (Mq M L) H1 H2 := e.trans (Ex.of sm)
    have rs2 := rs.same sm
    refine ht L acc k _ H2 hL nM ha wf' i2 e2 _ fun b H3 i3 e3 => ?_
    cases b with
    | false =>
      simp only [Bool.false_eq_true, if_false]
      refine ⟨acc, bs, ds, i3, ?_, a2, rs2.ex e3, e2.trans e3⟩
      rw [take_snoc ha]
      exact sb.trans (List.sublist_append_left _ _)
    | true =>
      simp only [if_true]
      refine he L acc k _ H3 hL nM ha wf' i3 (e2.trans e3) _ fun y d H4 py ry i4 e4 => ⟨acc, i4.2, hlen2, ?_⟩
      obtain ⟨i5, e5⟩ := hw.put (o' := .lst (acc ++ [y])) nM i4
      refine ⟨acc ++ [y], bs ++ [as[k]], ds ++ [d], i5, ?_, a2.append (.cons py .nil), (((rs2.ex e3).ex e4).append (.cons ry .nil)).ex e5, ((e2.trans e3).trans e4).trans e5⟩
      rw [take_snoc ha]
      exact sb.append (List.Sublist.refl _)
  · rintro H ⟨acc, bs, ds, i1, sb, a2, rs, e⟩
    exact hd L bs ds H hL (by simpa using sb) a2 (.lst i1.2 nM (rs.le fun p m => .inl m)) (exL e) i1.1
end
section
variable {K : PySem.W.Frag} {M : Addr → Prop} {I : Hp → Prop} {tt : TT} {te : TE} {vs : List Nat} {σ : L2.St} {H1 : Hp} {Q : VK}
/-- [e for k in range(..) if ..]: the test may answer either way -/
theorem lc_rngS {i : Nat} {lo : Int} {n : Nat} (hw : Wf M I) (hI : I H1) (hlen : n ≤ sizeLine) (hwp : ∀ v, wipe ((wipe σ vs).set i (some v)) vs = wipe σ vs) (P : Nat → D → Prop)
    (ht : ∀ (L : Addr) (acc : List V) (k : Nat) (H : Hp), H1 L = none → ¬ M L → k < n → Wf (Mq M L) (Iq I L (.lst acc)) → Iq I L (.lst acc) H → Ex (Mq M L) H1 H →
      ∀ Qt : Bool → Hp → Prop, (∀ b H3, Iq I L (.lst acc) H3 → Ex (Mq M L) H H3 → Qt b H3) → tt ((wipe σ vs).set i (some (.int (lo + (k : Nat))))) H Qt)
    (he : ∀ (L : Addr) (acc : List V) (k : Nat) (H : Hp), H1 L = none → ¬ M L → k < n → Wf (Mq M L) (Iq I L (.lst acc)) → Iq I L (.lst acc) H → Ex (Mq M L) H1 H →
      ∀ Qe : VK, (∀ y d H4, P k d → Rep K (Mq M L) H4 y d → Iq I L (.lst acc) H4 → Ex (Mq M L) H H4 → Qe y H4) → te ((wipe σ vs).set i (some (.int (lo + (k : Nat))))) H Qe)
    (hq : ∀ L bs ds H', H1 L = none → bs.Sublist (List.range n) → A2 P bs ds → Rep K M H' (.ref L) (.lst ds) → Ex M H1 H' → I H' → Q (.ref L) H') : LcR (gName i) tt te vs σ Q (Itr lo n) H1 := by
  have w := walk_range (lo := lo) (n := n)
  rw [show Walk (Itr lo n) n = Walk (Itr lo n) (List.range n).length by simp] at w
  have at_ : ∀ {k a : Nat}, (List.range n)[k]? = some a → k < n ∧ a = k := fun {k a} h => by
    have hk := (List.getElem?_eq_some_iff.mp h).1
    rw [List.length_range] at hk
    rw [List.getElem?_range hk] at h
    cases h
    exact ⟨hk, rfl⟩
  refine lc_any3 (K := K) w hw hI P (fun k _ => (wipe σ vs).set i (some (.int (lo + (k : Nat))))) (fun _ _ => trivial) (by simpa using hlen) (fun k a ha => ?_) (fun k a => hwp _) ?_ ?_ ?_
  · exact bd_name fun H x H' y => y
  · intro L acc k a H hL nL ha wf hi ex Qt q
    obtain ⟨h1, rfl⟩ := at_ ha
    exact ht L acc a H hL nL h1 wf hi ex Qt q
  · intro L acc k a H hL nL ha wf hi ex Qt q
    obtain ⟨h1, rfl⟩ := at_ ha
    exact he L acc a H hL nL h1 wf hi ex Qt q
  · exact fun L bs ds H' hL sb a2 rp ex hi => hq L bs ds H' hL sb a2 rp ex hi
end
/-- list(range(n)) -/
theorem sx_lstRg {te : L2.St → Hp → (Int → Int → Hp → Prop) → Prop} {σ : L2.St} {H : Hp} {Q : VK} (h : te σ H fun a b H1 => RgOk a b ∧ ∀ q, H1 q = none → Q (.ref q) (upd H1 q (.lst (rgV a b)))) : tLstRg te σ H Q := h
theorem sx_rg1 {ta : TE} {σ : L2.St} {H : Hp} {Q : Int → Int → Hp → Prop} (h : ta σ H fun x H1 => ∃ n, x = .int n ∧ Q 0 n H1) : tRg1 ta σ H Q := h
end Nt

namespace Nt
open PySem PySem.Spec PyProof.Rows L2
/-! ### own special methods -/
section
variable {P : Program} {w : World} {M : Model} {A : Around} {E : Value → Shared → Prop} {s : Shared} {f : Addr} {self : Value} {name : Str} {args : List Value}
theorem cspecO {Q : Option Value → Shared → Prop} (sp : PySem.W.Looks M s.heap (specialOf self name) (some (.ref f))) (hb : PySem.W.Looks M s.heap (bindSpecial (.ref f) self) (.ref f, [self]))
    (hc : wpAny M A (call (.ref f) (self :: args)) (fun v => Q (some v)) E s) : wpAny M A (callSpecial? self name args) Q E s := by
  simp only [callSpecial?]
  refine wpAny_bind (sp.here ?_)
  refine wpAny_holding (wpAny_bind (hb.here ?_))
  exact wpAny_bind (wpAny_mono hc (fun v s' h' => wpAny_pure h') fun _ _ h' => h')
theorem cspecU {Q : Option Value → Shared → Prop} {refuse : Sem Value} (sp : PySem.W.Looks M s.heap (specialOf self name) (some (.ref f))) (hb : PySem.W.Looks M s.heap (bindSpecial (.ref f) self) (.ref f, [self]))
    (hc : wpAny M A (call (.ref f) (self :: args)) (fun v => Q (some v)) E s) : wpAny M A (callSpecialUnlessNone? self name args refuse) Q E s := by
  simp only [callSpecialUnlessNone?]
  refine wpAny_bind (sp.here ?_)
  refine wpAny_holding (wpAny_bind (hb.here ?_))
  show wpAny _ _ (if (Value.ref f == Value.none) = true then _ else _) _ _ _
  rw [if_neg (by simp)]
  exact wpAny_bind (wpAny_mono hc (fun v s' h' => wpAny_pure h') fun _ _ h' => h')
end
section
variable {X : Cx} {k : Nat} {C f : Addr} {fd : FuncData} {ps : List Str} {sp : Sp} {m : Str}
theorem special_at {pins : List (Addr × Obj)} {σ : L2.St} {H : Hp} {s : Shared} {a dx : Addr} {fs : List (Str × V)} {M : Model} (I : Inv X pins σ H s) (e : H a = some (.ins C dx fs)) (hm : Meth X.K C m f) :
    PySem.W.Looks M s.heap (specialOf (.ref a) m) (some (.ref f)) ∧ PySem.W.Looks M s.heap (bindSpecial (.ref f) (.ref a)) (.ref f, [.ref a]) := by
  obtain ⟨mA, O, r, _, _, _⟩ := ins_get I.hok e
  exact ⟨(NwA.type_at O.obj rfl).andThen (PySem.W.looks_findIn I.kIn hm.at_), PySem.W.bind_fn I.kIn (.ref a) (beq_iff_eq.mp hm.fn)⟩
/-- the own method runs, in any place -/
theorem run_own {A' : Around} {pins : List (Addr × Obj)} {σ : L2.St} {H : Hp} {s : Shared} {Q : Value → Shared → Prop} {Er : Value → Shared → Prop} {us : List Value} {vs : List V} (F : FnOk X.prog X.w X.K X.mg X.base (L2.CX X.prog X.w) k f fd ps sp) (hr : Room k A') (e0 : Env0 X.prog X.w X.K X.mg X.base A' X.stack s H) (hb : Binds X.K fd ps [])
    (I : Inv X pins σ H s) (r : Vals vs us) {Z : VK} (h : sp vs H Z E0) (q : ∀ v u H' s', Inv X pins σ H' s' → RelV v u → Z v H' → Q u s') : wpAny (model X.prog X.w) A' (call (.ref f) us) Q Er s := by
  have hl : us.length = ps.length := by rw [← r.length]; exact F.len _ _ _ _ h
  have b := hb s us I.kIn (by rw [List.append_nil]; exact hl)
  rw [List.append_nil] at b
  refine wpAny_call (codeAny_mono (F.run A' X.stack s H ⟨us, []⟩ us vs Z E0 hr e0 b r h) fun r s' hq => ?_)
  cases r with
  | error e =>
    obtain ⟨_, _, _, _, _, _, _, _, _, _, _, _, z⟩ := hq
    exact z.elim
  | ok fl =>
    cases fl with
    | ret u =>
      obtain ⟨v, H', I3, rv, q3⟩ := I.after hq
      exact q v u H' s' I3 rv q3
    | next => exact False.elim hq
    | brk => exact False.elim hq
    | cont => exact False.elim hq
/-- len(an object with an own __len__) -/
def rLenO (C : Addr) (sp : Sp) : List V → Hp → VK → Prop := fun xs H Q => ∃ (a dx : Addr) (fs : List (Str × V)), xs = [.ref a] ∧ H a = some (.ins C dx fs) ∧ sp [.ref a] H (fun v H' => ∃ n : Nat, v = .int (n : Nat) ∧ n < 2 ^ 62 ∧ Q (.int (n : Nat)) H') E0
theorem call_lenO (hm : Meth X.K C "__len__" f) (F : FnOk X.prog X.w X.K X.mg X.base (L2.CX X.prog X.w) k f fd ps sp) (hr : Room (k + 1) X.A) (hb : Binds X.K fd ps []) : CallR X (.builtin "len") (rLenO C sp) := by
  intro pins s σ H xs us Q I r h
  obtain ⟨a, dx, fs, rfl, e, h⟩ := h
  obtain ⟨u, rfl, ru⟩ := vals1 r
  obtain rfl : u = Value.ref a := ru
  obtain ⟨L1, L2⟩ := special_at (M := model X.prog X.w) I e hm
  refine Calls.call_function_entry kind_len plain_len entry_len (args_len1 _) ?_
  unfold Builtin.«len»
  refine wpAny_bind (m := oneArg "len" _) (wpAny_pure ?_)
  refine wpAny_bind (m := callSpecial? (.ref a) (PySem.Str.ofString "__len__")) (cspecO L1 L2 (run_own F hr.in1 I.env0.in1 hb I (.cons (show RelV (.ref a) (.ref a) from rfl) .nil) h fun v u H' s' I' rv q => ?_))
  obtain ⟨n, rfl, hn, q⟩ := q
  obtain ⟨t, rfl⟩ := rv
  refine wpAny_bind (wpAny_holding (wpAny_pure ?_))
  refine wpAny_bind (wpAny_letGo ?_)
  show wpAny _ _ (if ((n : Nat) : Int) < 0 then _ else _) _ _ _
  rw [if_neg (by omega)]
  show wpAny _ _ (if ((n : Nat) : Int) ≥ 2 ^ 63 then _ else _) _ _ _
  rw [if_neg (by omega)]
  exact wpAny_bind (wpAny_mkInt (wpAny_pure ⟨_, rfl, .int (n : Nat), H', I'.tok _, ⟨_, rfl⟩, q⟩))
/-- x in an object with an own __contains__ -/
def rInO (C : Addr) (sp : Sp) (neg : Bool) : V → V → Hp → VK → Prop := fun x y H Q => ∃ (a dx : Addr) (fs : List (Str × V)), y = .ref a ∧ H a = some (.ins C dx fs) ∧ sp [.ref a, x] H (fun v H' => ∃ b, v = .bl b ∧ Q (.bl (b != neg)) H') E0
theorem contains_own {pins : List (Addr × Obj)} {σ : L2.St} {H : Hp} {s : Shared} {a dx : Addr} {fs : List (Str × V)} {x : V} {u : Value} {Z : VK} {Er : Value → Shared → Prop} {Q : Bool → Shared → Prop} (hm : Meth X.K C "__contains__" f) (F : FnOk X.prog X.w X.K X.mg X.base (L2.CX X.prog X.w) k f fd ps sp) (hr : Room k X.A) (hb : Binds X.K fd ps [])
    (I : Inv X pins σ H s) (e : H a = some (.ins C dx fs)) (rx : RelV x u) (h : sp [.ref a, x] H Z E0) (q : ∀ v H' s', Inv X pins σ H' s' → Z v H' → ∃ b, v = .bl b ∧ Q b s') : wpAny (model X.prog X.w) X.A (contains (.ref a) u) Q Er s := by
  obtain ⟨L1, L2⟩ := special_at (M := model X.prog X.w) I e hm
  unfold contains
  refine wpAny_holding ?_
  rw [stdlibNamesSay?_ref]
  refine wpAny_bind (L1.here ?_)
  show wpAny _ _ (if (some (Value.ref f) == some Value.none) = true then _ else _) _ _ _
  rw [if_neg (by simp)]
  refine wpAny_bind (cspecU L1 L2 (run_own F hr I.env0 hb I (.cons (show RelV (.ref a) (.ref a) from rfl) (.cons rx .nil)) h fun v u' H' s' I' rv z => ?_))
  obtain ⟨b, rfl, q⟩ := q v H' s' I' z
  obtain rfl : u' = Value.bool b := rv
  exact wpAny_truthy_bool q
theorem op_inO (hm : Meth X.K C "__contains__" f) (F : FnOk X.prog X.w X.K X.mg X.base (L2.CX X.prog X.w) k f fd ps sp) (hr : Room k X.A) (hb : Binds X.K fd ps []) : OpR X (compareOp .In) (rInO C sp false) := by
  intro pins s σ H x y v u Q I rx ry h
  obtain ⟨a, dx, fs, rfl, e, h⟩ := h
  obtain rfl : u = Value.ref a := ry
  show wpAny _ _ (do return Value.bool (← contains (.ref a) v)) _ _ _
  refine wpAny_bind (contains_own hm F hr hb I e rx h fun v' H' s' I' z => ?_)
  obtain ⟨b, rfl, q⟩ := z
  refine ⟨b, rfl, wpAny_pure ⟨.bl (b != false), H', I', ?_, q⟩⟩
  cases b <;> exact (rfl : Value.bool _ = _)
theorem op_niO (hm : Meth X.K C "__contains__" f) (F : FnOk X.prog X.w X.K X.mg X.base (L2.CX X.prog X.w) k f fd ps sp) (hr : Room k X.A) (hb : Binds X.K fd ps []) : OpR X (compareOp .NotIn) (rInO C sp true) := by
  intro pins s σ H x y v u Q I rx ry h
  obtain ⟨a, dx, fs, rfl, e, h⟩ := h
  obtain rfl : u = Value.ref a := ry
  show wpAny _ _ (do return Value.bool (!(← contains (.ref a) v))) _ _ _
  refine wpAny_bind (contains_own hm F hr hb I e rx h fun v' H' s' I' z => ?_)
  obtain ⟨b, rfl, q⟩ := z
  refine ⟨b, rfl, wpAny_pure ⟨.bl (b != true), H', I', ?_, q⟩⟩
  cases b <;> exact (rfl : Value.bool _ = _)
end
end Nt

namespace Nt
open PySem PySem.Spec PyProof.Rows L2
/-- the j-th statement of a class body -/
def mem (s : Stmt) (j : Nat) : Stmt := match s with
  | .ClassDef _ _ _ body .. => body.getD j (.Pass ⟨0, 0, 0, 0⟩)
  | _ => .Pass ⟨0, 0, 0, 0⟩
/-! ### methods, classes, aliases -/
structure AtM (K : PySem.W.Frag) (c m q : Str) (st : Stmt) (ps : List Str) (dvs : List V) : Prop where
  meth : Meth K (He.ga K c) m (He.ma K (He.ga K c) m)
  ex : ∃ fd dfl kws, FunD K m q (defArgs st) (defBody st) (defScope st) dfl kws (He.ma K (He.ga K c) m) fd ∧ ∃ ds, Vals dvs ds ∧ Binds K fd ps ds
structure DfM (P : Program) (w : World) (K : PySem.W.Frag) (mg : Str → Option Value) (base : Heap) (k : Nat) (c m : Str) (ps : List Str) (dvs : List V) (sp : Sp) : Prop where
  meth : Meth K (He.ga K c) m (He.ma K (He.ga K c) m)
  ok : ∃ fd, FnOk P w K mg base (L2.CX P w) k (He.ma K (He.ga K c) m) fd ps sp ∧ ∃ ds, Vals dvs ds ∧ Binds K fd ps ds
structure AtI (K : PySem.W.Frag) (mg : Str → Option Value) (c q : Str) (st : Stmt) (ps : List Str) (dvs : List V) : Prop where
  mgx : mg c = some (.ref (He.ga K c))
  mkr : Mk K (He.ga K c) (He.ma K (He.ga K c) "__init__")
  ex : ∃ fd dfl kws, FunD K "__init__" q (defArgs st) (defBody st) (defScope st) dfl kws (He.ma K (He.ga K c) "__init__") fd ∧ ∃ ds, Vals dvs ds ∧ Binds K fd ps ds
structure DfI (P : Program) (w : World) (K : PySem.W.Frag) (mg : Str → Option Value) (base : Heap) (k : Nat) (c : Str) (ps : List Str) (dvs : List V) (sp : Sp) : Prop where
  mgx : mg c = some (.ref (He.ga K c))
  mkr : Mk K (He.ga K c) (He.ma K (He.ga K c) "__init__")
  ok : ∃ fd, FnOk P w K mg base (L2.CX P w) k (He.ma K (He.ga K c) "__init__") fd ps sp ∧ ∃ ds, Vals dvs ds ∧ Binds K fd ps ds
/-- a name that stands for a def of another name -/
structure AtA (K : PySem.W.Frag) (mg : Str → Option Value) (x y : Str) (st : Stmt) (ps : List Str) (dfl : List V) : Prop where
  mgx : mg x = some (.ref (He.ga K x))
  ex : ∃ fd, FunD K y y (defArgs st) (defBody st) (defScope st) dfl [] (He.ga K x) fd ∧ ∀ j, j ≤ dfl.length → ∃ ds, Vals (dfl.drop j) ds ∧ Binds K fd ps ds
/-- a class whose instances have these fields -/
structure ClsF (K : PySem.W.Frag) (c : Str) (fields : List Str) : Prop where
  cls : Cls K (He.ga K c)
  na : ∀ f ∈ fields, NoAttr K (He.ga K c) f
section
variable {P : Program} {w : World} {K : PySem.W.Frag} {mg : Str → Option Value} {base : Heap} {k : Nat} {x y c m q : Str} {ps : List Str} {dfl dvs : List V} {sp : Sp} {st : Stmt} {N : List Str}
theorem AtM.df (F : AtM K c m q st ps dvs) (S : FnScope N ps (defScope st)) (len : ∀ vs H Q E, sp vs H Q E → vs.length = ps.length)
    (hbody : ∀ (f : Addr) (cdv : Value) (A : Around) (outer : List Env) (s : Shared) (H : Hp) (vs : List V) (Q : VK) (E : XK), Room k (A.deeper (envOfC q (defScope st) s.heap.objs.size f cdv)) → sp vs H Q E →
      ∃ t, PSs (cxOf (L2.CX P w) P w K mg base N q (defScope st) f cdv A outer s H E).nox (defBody st) t ∧ t { nx := fun _ H' => Q .non H', rt := Q } (start N vs) H) : DfM P w K mg base (k + 1) c m ps dvs sp := by
  obtain ⟨fd, dfl, kws, F1, F2⟩ := F.ex
  refine ⟨F.meth, fd, F1.ok S len fun cdv A outer s H vs Q E hr h => ?_, F2⟩
  obtain ⟨t, h1, h2⟩ := hbody _ cdv A outer s H vs Q E hr h
  exact ⟨t, h1.nox, h2⟩
theorem AtI.df (F : AtI K mg c q st ps dvs) (S : FnScope N ps (defScope st)) (len : ∀ vs H Q E, sp vs H Q E → vs.length = ps.length)
    (hbody : ∀ (f : Addr) (cdv : Value) (A : Around) (outer : List Env) (s : Shared) (H : Hp) (vs : List V) (Q : VK) (E : XK), Room k (A.deeper (envOfC q (defScope st) s.heap.objs.size f cdv)) → sp vs H Q E →
      ∃ t, PSs (cxOf (L2.CX P w) P w K mg base N q (defScope st) f cdv A outer s H E).nox (defBody st) t ∧ t { nx := fun _ H' => Q .non H', rt := Q } (start N vs) H) : DfI P w K mg base (k + 1) c ps dvs sp := by
  obtain ⟨fd, dfl, kws, F1, F2⟩ := F.ex
  refine ⟨F.mgx, F.mkr, fd, F1.ok S len fun cdv A outer s H vs Q E hr h => ?_, F2⟩
  obtain ⟨t, h1, h2⟩ := hbody _ cdv A outer s H vs Q E hr h
  exact ⟨t, h1.nox, h2⟩
theorem AtA.df (F : AtA K mg x y st ps dfl) (S : FnScope N ps (defScope st)) (len : ∀ vs H Q E, sp vs H Q E → vs.length = ps.length)
    (hbody : ∀ (f : Addr) (cdv : Value) (A : Around) (outer : List Env) (s : Shared) (H : Hp) (vs : List V) (Q : VK) (E : XK), Room k (A.deeper (envOfC y (defScope st) s.heap.objs.size f cdv)) → sp vs H Q E →
      ∃ t, PSs (cxOf (L2.CX P w) P w K mg base N y (defScope st) f cdv A outer s H E).nox (defBody st) t ∧ t { nx := fun _ H' => Q .non H', rt := Q } (start N vs) H) : Df P w K mg base (k + 1) x ps dfl sp := by
  obtain ⟨fd, F1, F2⟩ := F.ex
  refine ⟨F.mgx, ⟨fd, F1.ok S len fun cdv A outer s H vs Q E hr h => ?_, F2⟩, F1.kp⟩
  obtain ⟨t, h1, h2⟩ := hbody _ cdv A outer s H vs Q E hr h
  exact ⟨t, h1.nox, h2⟩
end
section
variable {X : Cx} {k : Nat} {x c m : Str} {ps : List Str} {dvs : List V} {sp : Sp} {o e : Expr} {es : List Expr} {ta : TE} {t : TA} {p pos apos : Pos}
/-- o.m(e, ..) -/
theorem pe_dm {fl : List Str} (G : DfM X.prog X.w X.K X.mg X.base k c m ps dvs sp) (C : ClsF X.K c fl) (hr : Room k X.A) (he : PE X o ta) (ha : PA X (e :: es) t) {pl : Sem Bool}
    (hst : starEach (e :: es) X.env = (false, eval e X.env) :: starEach es X.env := by rfl) (hpl : (backTo pos (starEach es X.env)).any (·.1) = false := by rfl)
    (ht : eval (.Call (.Attribute o m apos) (e :: es) [] pos) X.env = (do
      let ov ← eval o X.env
      standAt apos.atName
      let (f, first) ← holding [ov] (getMethod ov m pl)
      callWith pos f first (backTo pos (starEach (e :: es) X.env)) (backToKw pos (keywordEach [] X.env))) := by rfl) :
    PE X (.Call (.Attribute o m apos) (e :: es) [] pos) (tMeth (He.ga X.K c) m sp dvs E0 ta t) := by
  obtain ⟨fd, F, ds, hd, b⟩ := G.ok
  exact pe_meth he C.cls G.meth F hr b hd passL ha hst hpl ht
theorem pe_dm0 {fl : List Str} (G : DfM X.prog X.w X.K X.mg X.base k c m ps dvs sp) (C : ClsF X.K c fl) (hr : Room k X.A) (he : PE X o ta) {pl : Sem Bool}
    (ht : eval (.Call (.Attribute o m apos) [] [] pos) X.env = (do
      let ov ← eval o X.env
      standAt apos.atName
      let (f, first) ← holding [ov] (getMethod ov m pl)
      callWith pos f first (backTo pos (starEach [] X.env)) (backToKw pos (keywordEach [] X.env))) := by rfl) :
    PE X (.Call (.Attribute o m apos) [] [] pos) (tMeth (He.ga X.K c) m sp dvs E0 ta tNil) := by
  obtain ⟨fd, F, ds, hd, b⟩ := G.ok
  exact pe_meth0 he C.cls G.meth F hr b hd passL ht
/-- C(e, ..) -/
theorem pe_di (G : DfI X.prog X.w X.K X.mg X.base k c ps dvs sp) (hr : Room (k + 1) X.A) (hg : Gl X c) (ha : PA X (e :: es) t) (hdb : (c == ("__debug__" : Str)) = false := by decide) (he : starEach (e :: es) X.env = (false, eval e X.env) :: starEach es X.env := by rfl) (hpl : (backTo pos (starEach es X.env)).any (·.1) = false := by rfl) :
    PE X (.Call (.Name c p) (e :: es) [] pos) (tMake (He.ga X.K c) sp dvs E0 t) := by
  obtain ⟨fd, F, ds, hd, b⟩ := G.ok
  exact pe_make G.mkr F hr hg G.mgx b hd passL ha hdb he hpl
theorem call_lenD (G : DfM X.prog X.w X.K X.mg X.base k c "__len__" ps [] sp) (hr : Room (k + 1) X.A) : CallR X (.builtin "len") (rLenO (He.ga X.K c) sp) := by
  obtain ⟨fd, F, ds, hd, b⟩ := G.ok
  cases hd
  exact call_lenO G.meth F hr b
theorem op_inD2 (G : DfM X.prog X.w X.K X.mg X.base k c "__contains__" ps [] sp) (hr : Room k X.A) : OpR X (compareOp .In) (rInO (He.ga X.K c) sp false) := by
  obtain ⟨fd, F, ds, hd, b⟩ := G.ok
  cases hd
  exact op_inO G.meth F hr b
theorem op_niD2 (G : DfM X.prog X.w X.K X.mg X.base k c "__contains__" ps [] sp) (hr : Room k X.A) : OpR X (compareOp .NotIn) (rInO (He.ga X.K c) sp true) := by
  obtain ⟨fd, F, ds, hd, b⟩ := G.ok
  cases hd
  exact op_niO G.meth F hr b
end
/-! ### objects, as data -/
section
variable {K : PySem.W.Frag} {M : Addr → Prop} {I : Hp → Prop} {H H' : Hp} {v : V} {c f : Str} {ds : List (Str × D)} {fl : List Str} {Q : VK}
/-- an object whose fields stay -/
def Ob (K : PySem.W.Frag) (M : Addr → Prop) (H : Hp) (v : V) (c : Str) (ds : List (Str × D)) : Prop := ∃ (a dx : Addr) (fs : List (Str × V)), v = .ref a ∧ ¬ M a ∧ H a = some (.ins (He.ga K c) dx fs) ∧ (∀ f d, ds.lookup f = some d → ∃ u, fs.lookup f = some u ∧ Rep K M H u d) ∧ ∀ f, ds.lookup f = none → fs.lookup f = none
theorem Ob.ex (e : Ex M H H') (h : Ob K M H v c ds) : Ob K M H' v c ds := by
  obtain ⟨a, dx, fs, e1, n, e2, h1, h2⟩ := h
  exact ⟨a, dx, fs, e1, n, e a _ n e2, fun f d hf => by obtain ⟨u, l, r⟩ := h1 f d hf; exact ⟨u, l, r.ex e⟩, h2⟩
theorem Ob.off {q : Addr} (e : H q = none) (h : Ob K M H v c ds) : Ob K (Mq M q) H v c ds := by
  obtain ⟨a, dx, fs, e1, n, e2, h1, h2⟩ := h
  have nq : ¬ Mq M q a := fun m => m.elim n fun z => by rw [z, e] at e2; cases e2
  exact ⟨a, dx, fs, e1, nq, e2, fun f d hf => by obtain ⟨u, l, r⟩ := h1 f d hf; exact ⟨u, l, r.off e⟩, h2⟩
/-- o.f -/
theorem Ob.fld {d : D} {Z : V → Prop} (h : Ob K M H v c ds) (C : ClsF K c fl) (hf : f ∈ fl) (hd : ds.lookup f = some d) (q : ∀ u, Rep K M H u d → Z u) : ∃ a C dx fs u, v = V.ref a ∧ H a = some (.ins C dx fs) ∧ Cls K C ∧ NoAttr K C f ∧ fs.lookup f = some u ∧ Z u := by
  obtain ⟨a, dx, fs, e1, n, e2, h1, h2⟩ := h
  obtain ⟨u, l, r⟩ := h1 f d hd
  exact ⟨a, _, dx, fs, u, e1, e2, C.cls, C.na f hf, l, q u r⟩
theorem Ob.meth (h : Ob K M H v c ds) (hm : ds.lookup f = none) {Z : Prop} (q : Z) : ∃ a dx fs, v = V.ref a ∧ H a = some (.ins (He.ga K c) dx fs) ∧ fs.lookup f = none ∧ Z := by
  obtain ⟨a, dx, fs, e1, n, e2, h1, h2⟩ := h
  exact ⟨a, dx, fs, e1, e2, h2 f hm, q⟩
theorem sx_fld {ta : TE} {σ : L2.St} (h : ta σ H fun x H1 => ∃ a C dx fs v, x = .ref a ∧ H1 a = some (.ins C dx fs) ∧ Cls K C ∧ NoAttr K C f ∧ fs.lookup f = some v ∧ Q v H1) : tFld K ta f σ H Q := h
theorem sx_meth {C : Addr} {m : Str} {sp : Sp} {dvs : List V} {E : XK} {ta : TE} {t : TA} {σ : L2.St} (h : ta σ H fun x H1 => ∃ a dx fs, x = .ref a ∧ H1 a = some (.ins C dx fs) ∧ fs.lookup m = none ∧ t σ H1 fun vs H2 => sp (x :: (vs ++ dvs)) H2 Q E) : tMeth C m sp dvs E ta t σ H Q := h
theorem sx_make {C : Addr} {sp : Sp} {dvs : List V} {E : XK} {t : TA} {σ : L2.St} (h : t σ H fun vs H1 => ∀ x dx, H1 x = none → H1 dx = none → dx ≠ x → sp (.ref x :: (vs ++ dvs)) (upd (upd H1 dx (.own x)) x (.ins C dx [])) (fun v H2 => v = .non ∧ Q (.ref x) H2) E) : tMake C sp dvs E t σ H Q := h
theorem sx_sfld {ta tv : TE} {σ : L2.St} {D : Ends} (h : tv σ H fun y H1 => ta σ H1 fun x H2 => ∃ a C dx fs, x = .ref a ∧ H2 a = some (.ins C dx fs) ∧ Cls K C ∧ NoAttr K C f ∧ fs.length < 1000 ∧ D.nx σ (upd H2 a (.ins C dx (putF f y fs)))) : sFld K ta tv f D σ H := h
/-- self.f = y, self new -/
theorem set_fld {a dx : Addr} {fs : List (Str × V)} {y : V} {Z : Hp → Prop} (hw : Wf M I) (np : ¬ M a) (i : Iq I a (.ins (He.ga K c) dx fs) H) (C : ClsF K c fl) (hf : f ∈ fl) (hl : fs.length < 1000) (q : ∀ H', Ex (Mq M a) H H' → Iq I a (.ins (He.ga K c) dx (putF f y fs)) H' → Z H') :
    ∃ a' C dx fs, V.ref a = .ref a' ∧ H a' = some (.ins C dx fs) ∧ Cls K C ∧ NoAttr K C f ∧ fs.length < 1000 ∧ Z (upd H a' (.ins C dx (putF f y fs))) := by
  refine ⟨a, _, dx, fs, rfl, i.2, C.cls, C.na f hf, hl, ?_⟩
  obtain ⟨u1, u2⟩ := hw.put (o' := .ins (He.ga K c) dx (putF f y fs)) np i
  exact q _ u2 u1
/-- a new object comes to be -/
theorem made (hw : Wf M I) (hI : I H) {x dx : Addr} (C : Addr) (hx : H x = none) (hdx : H dx = none) (ne : dx ≠ x) : ¬ M x ∧ Ex M H (upd (upd H dx (.own x)) x (.ins C dx [])) ∧ Iq I x (.ins C dx []) (upd (upd H dx (.own x)) x (.ins C dx [])) := by
  have s1 := same_upd (o := .own x) hdx
  have hx1 : upd H dx (.own x) x = none := by rw [upd_ne (Ne.symm ne)]; exact hx
  have s2 := same_upd (o := .ins C dx []) hx1
  exact ⟨hw.fresh hI hx, (Ex.of s1).trans (Ex.of s2), hw.same s2 (hw.same s1 hI), upd_same⟩
end
end Nt

namespace Nt
open PySem PySem.Spec PyProof.Rows L2
/-- list(a text) -/
def rListStr : List V → Hp → VK → Prop := fun xs H Q => ∃ z : Str, xs = [.str z] ∧ z.cps.size ≤ 100000 ∧ ∀ l, H l = none → Q (.ref l) (upd H l (.lst (signs z)))
theorem call_listStr {X : Cx} (hc : X.calm = true) : CallR X (.type "list") rListStr := by
  intro pins s σ H xs us Q I r h
  obtain ⟨z, rfl, hz, q⟩ := h
  obtain ⟨u, rfl, t, rfl⟩ := vals1 r
  refine call_list_str (I.ok.hd hc) z t (hn := by rw [sizeLine_eq]; omega) fun h' tk acc' c' kp hS hacc => ?_
  refine ⟨.ref s.heap.objs.size, upd H s.heap.objs.size (.lst (signs z)), I.laid kp (Nat.le_refl _) (show ObjOk X.prog X.w _ _ _ (.lst (signs z)) from ⟨?_, acc'.toList, c', ?_, ?_⟩), rfl, q _ (I.hok.fresh (Nat.le_refl _))⟩
  · unfold signs; simp; rw [sizeLine_eq]; omega
  · have el : acc'.toList.length = acc'.size := by simp
    refine vals_of_at (by rw [el, hacc.1]; simp [signs]) fun j x w h1 h2 => ?_
    have h3 := hacc.2 j w (by rw [← Array.getElem?_toList]; exact h2)
    obtain ⟨c, u, e1, rfl⟩ := h3
    unfold signs at h1
    rw [List.getElem?_map, Array.getElem?_toList, e1] at h1
    cases h1
    exact ⟨u, rfl⟩
  · rw [Array.toArray_toList]; exact hS
/-- .. as data -/
theorem list_T {M : Addr → Prop} {K : PySem.W.Frag} {I : Hp → Prop} {H : Hp} {l : List Nat} {Q : VK} (hw : Wf M I) (hI : I H) (hl : l.length ≤ 100000) (q : ∀ v H', Ex M H H' → I H' → Rep K M H' v (.lst (l.map fun c => .str (T [c]))) → Q v H') : rListStr [.str (T l)] H Q := by
  refine ⟨T l, rfl, by show l.toArray.size ≤ _; simpa using hl, fun p hp => ?_⟩
  have sm := same_upd (o := .lst (signs (T l))) hp
  refine q _ _ (Ex.of sm) (hw.same sm hI) (.lst upd_same (hw.fresh hI hp) ?_)
  have e : signs (T l) = l.map fun c => V.str (T [c]) := by unfold signs; rw [T_cps]; rfl
  rw [e]
  exact Reps.scal (f := fun c => V.str (T [c])) (g := fun c => D.str (T [c])) (fun a => .str _) l
section
variable {K : PySem.W.Frag} {M : Addr → Prop} {I : Hp → Prop} {α : Type} {as : List α} {σ : L2.St} {H1 : Hp} {enc : α → D}
/-- for i, x in enumerate(s) -/
theorem for_enum {i j : Nat} {x : V} {d : D} {tb : TS} {E : Ends} (hx : Rep K M H1 x d) (hd : d.elems = some (as.map enc)) (Pv : Nat → L2.St → Hp → Prop) (h0 : Pv 0 σ H1) (hG : ∀ k σ H, Pv k σ H → Ex M H1 H)
    (hs : ∀ k a v σ H H', as[k]? = some a → Pv k σ H → L2.Same H H' → Rep K M H' v (enc a) → tb { E with nx := Pv (k + 1), ct := Pv (k + 1), bk := E.nx } ((σ.set i (some (.int (k : Nat)))).set j (some v)) H') (hq : ∀ σ H, Pv as.length σ H → E.nx σ H) : enumR K (ForR (gTup K 2 (gCons (gName i) (gCons (gName j) gNil))) tb E σ) [x] H1 := by
  obtain ⟨S1, xs, rfl, r, hS⟩ := src_of hx hd
  have hl := reps_len r
  refine ⟨S1, xs, rfl, hS _ (Ex.refl _), ?_⟩
  have w := walk_enumS (K := K) (S := S1) (xs := xs)
  rw [hl] at w
  refine for_it w Pv h0 (fun k σ H _ h => hS H (hG k σ H h)) (fun k x σ H H' hk h y => ?_) hq
  have ha : as[k]? = some as[k] := by simp [hk]
  obtain ⟨T, u, v, e1, e2, e3, e4, e5⟩ := y
  subst e1 e3
  cases e4
  obtain ⟨v2, hv, rv⟩ := reps_at r ha
  have e5 : xs[k]? = some v := e5
  rw [hv] at e5
  cases e5
  have sm := same_upd (o := .tup [.int (k : Nat), v]) e2
  exact ⟨T, [.int (k : Nat), v], rfl, SqT.of upd_same, rfl, _, [v], rfl, v, [], rfl, rfl, hs k _ v σ H _ ha h sm ((rv.ex (hG _ _ _ h)).same sm)⟩
end
end Nt

namespace Nt
open PySem PySem.Spec PyProof.Rows L2
/-! ### a dict comprehension -/
def DcR (g : TG) (tt : TT) (tk tv : TE) (vs : List Nat) (σ : L2.St) (Q : VK) : It → Hp → Prop := fun J H1 => ∀ D, H1 D = none → ∃ W : Nat → Nat → Hp → Prop, (∃ m, W 0 m (upd H1 D (.dK []))) ∧ ∀ i m H, W i m H →
  (J.stop i H ∧ Q (.ref D) H) ∨ (J.go i H ∧ ∃ Nx : Hp → Prop, (∀ H', Nx H' → ∃ m', m' < m ∧ W (i + 1) m' H') ∧ ∀ x H', J.yld i H x H' → g x (wipe σ vs) H' fun σ2 H2 => wipe σ2 vs = wipe σ vs ∧ tt σ2 H2 fun b H3 =>
    if b = true then tk σ2 H3 fun y H4 => tv σ2 H4 fun z H5 => ∃ kvs k, y = kV k ∧ H5 D = some (.dK kvs) ∧ kvs.length < sizeLine ∧ Nx (upd H5 D (.dK (putK kvs k z))) else Nx H3)
theorem sx_dc {wi : TI} {g : TG} {tt : TT} {tk tv : TE} {vs : List Nat} {σ : L2.St} {H : Hp} {Q : VK} (h : wi σ H (DcR g tt tk tv vs σ Q)) : tDc wi g tt tk tv vs σ H Q := h
section
variable {K : PySem.W.Frag} {M : Addr → Prop} {I : Hp → Prop} {H1 : Hp} {Q : VK} {σ : L2.St} {vs : List Nat} {i : Nat}
/-- {x: True for x in texts}, the texts distinct -/
theorem dc_true {x : V} {d : D} {F : List (List Nat)} (hw : Wf M I) (hI : I H1) (hx : Rep K M H1 x d) (hd : d.elems = some (F.map fun l => .str (T l))) (hn : F.Nodup) (hlen : F.length ≤ 100000) (hwp : ∀ v, wipe ((wipe σ vs).set i (some v)) vs = wipe σ vs) (hi : ∀ v, ((wipe σ vs).set i (some v))[i]? = some (some v))
    (hq : ∀ D H', H1 D = none → ¬ M D → H' D = some (.dK (F.map fun l => ((.inr (T l) : Key), V.bl true))) → Ex M H1 H' → I H' → Q (.ref D) H') : srcR K (DcR (gName i) tYes (tVar i) (tC (.bl true)) vs σ Q) x H1 := by
  obtain ⟨S, xs, rfl, r, hS⟩ := src_of hx hd
  have hxs : xs = F.map fun l => V.str (T l) := Reps.scal_inv (f := fun l => V.str (T l)) (g := fun l => D.str (T l)) (fun a v h => rep_str h) r
  have key : ∀ {J : It} {G : Hp → Prop} {Y : Nat → Hp → V → Hp → Prop}, L2.Walk J F.length G Y → (∀ H', Ex M H1 H' → G H') → (∀ k H x H', Y k H x H' → H' = H ∧ xs[k]? = some x) → DcR (gName i) tYes (tVar i) (tC (.bl true)) vs σ Q J H1 := fun {J G Y} w hG hY => by
    intro D hD
    have nM : ¬ M D := hw.fresh hI hD
    let St : Nat → Hp → Prop := fun k H => H D = some (.dK ((F.take k).map fun l => ((.inr (T l) : Key), V.bl true))) ∧ Ex (Mq M D) H1 H ∧ I H
    have hG2 : ∀ {k : Nat} {H : Hp}, St k H → G H := fun {k H} h => hG _ (h.2.1.shut hD)
    refine ⟨fun k m H => m = F.length - k ∧ k ≤ F.length ∧ St k H, ⟨F.length, by simp, Nat.zero_le _, upd_same, Ex.of (same_upd hD), hw.same (same_upd hD) hI⟩, ?_⟩
    rintro k m H ⟨rfl, hk, h⟩
    by_cases hlt : k < F.length
    · refine .inr ⟨w.goes k H hlt (hG2 h), St (k + 1), fun H' h' => ⟨F.length - (k + 1), by omega, rfl, hlt, h'⟩, fun y H' hy => ?_⟩
      obtain ⟨e, ey⟩ := hY k H y H' (w.yields k H y H' hlt (hG2 h) hy)
      subst e
      have ha : F[k]? = some F[k] := by simp [hlt]
      have ey2 : y = V.str (T F[k]) := by
        rw [hxs, List.getElem?_map, ha] at ey
        cases ey
        rfl
      subst ey2
      refine ⟨hwp _, sx_yes ?_⟩
      refine ifT ?_
      refine sx_var (hi _) ?_
      refine sx_c ?_
      have hni : T F[k] ∉ (F.take k).map T := fun hm => by
        obtain ⟨l, hl, e⟩ := List.mem_map.mp hm
        have e := T_inj e
        subst e
        have e2 : F = F.take k ++ F[k] :: F.drop (k + 1) := by rw [List.getElem_cons_drop, List.take_append_drop]
        rw [e2] at hn
        exact (List.nodup_append.mp hn).2.2 _ hl _ List.mem_cons_self rfl
      have hp : putK ((F.take k).map fun l => ((.inr (T l) : Key), V.bl true)) (.inr (T F[k])) (.bl true) = (F.take (k + 1)).map fun l => ((.inr (T l) : Key), V.bl true) := by
        have h2 : (((F.take k).map fun l => ((.inr (T l) : Key), V.bl true)).any fun kv => decide (kv.1 = (Sum.inr (T F[k]) : Key))) = false := by
          rw [List.any_eq_false]
          intro kv hkv
          obtain ⟨a, ha, rfl⟩ := List.mem_map.mp hkv
          simp only [decide_eq_true_eq, Sum.inr.injEq]
          intro e
          exact hni (List.mem_map.mpr ⟨a, ha, e⟩)
        unfold putK
        rw [if_neg (by rw [h2]; exact Bool.false_ne_true), take_snoc ha, List.map_append]
        rfl
      refine ⟨_, .inr (T F[k]), rfl, h.1, Nat.lt_of_lt_of_le (show _ < 100001 by rw [List.length_map, List.length_take]; omega) (by decide), ?_⟩
      rw [hp]
      refine ⟨upd_same, h.2.1.trans (fun a o n z => by rw [upd_ne fun e => n (.inr e)]; exact z), ?_⟩
      exact (hw.put (o := .dK ((F.take k).map fun l => ((.inr (T l) : Key), V.bl true))) nM ⟨h.2.2, h.1⟩).1.1
    · have e : k = F.length := by omega
      subst e
      refine .inl ⟨w.stops H (hG2 h), ?_⟩
      obtain ⟨h1, h2, h3⟩ := h
      rw [List.take_length] at h1
      exact hq D H hD nM h1 (h2.shut hD) h3
  have hl : xs.length = F.length := by rw [hxs]; simp
  cases S with
  | lst a =>
    refine .inl ⟨a, rfl, ⟨xs, hS H1 (Ex.refl _)⟩, ?_⟩
    have w := walk_list (K := K) (a := a) (xs := xs)
    rw [hl] at w
    exact key w hS fun k H x H' y => y
  | tup a =>
    refine .inr (.inl ⟨a, rfl, ⟨xs, hS H1 (Ex.refl _)⟩, ?_⟩)
    have w := walk_tup (K := K) (a := a) (xs := xs)
    rw [hl] at w
    exact key w hS fun k H x H' y => y
  | txt z =>
    refine .inr (.inr ⟨z, rfl, ?_⟩)
    have hxs2 : xs = signs z := hS H1 (Ex.refl _)
    have w := walk_str (z := z)
    have hz : z.cps.size = F.length := by rw [← hl, hxs2]; simp [signs]
    rw [hz] at w
    refine key w (fun _ _ => trivial) fun k H x H' y => ⟨y.1, ?_⟩
    obtain ⟨_, c, e1, e2⟩ := y
    rw [hxs2, e2]
    simp [signs, e1]
end
end Nt

namespace Nt
open PySem PySem.Spec PyProof.Rows L2
/-! ### quicker steps: the slots are kept as a written list -/
theorem gs_nameN {n : Nat} {σ σ' : L2.St} {H : Hp} {v : V} {G : L2.St → Hp → Prop} (e : σ.set n (some v) = σ') (h : G σ' H) : gName n v σ H G := by subst e; exact h
theorem st_eq {t : TS} {E : Ends} {σ σ' : L2.St} {H : Hp} (e : σ = σ') (h : t E σ' H) : t E σ H := by subst e; exact h
theorem tupK_id {Q : VK} {xs : List V} {H : Hp} (h : TupK Q xs H) : TupK Q xs H := h
theorem lstK_id {Q : VK} {xs : List V} {H : Hp} (h : LstK Q xs H) : LstK Q xs H := h
theorem two {M : Addr → Prop} {I : Hp → Prop} {H : Hp} {P : Hp → Prop} {G : Prop} (h1 : (∀ H', Ex M H H' → I H' → P H') → G) (h2 : ∀ H', Ex M H H' → I H' → P H') : G := h1 h2
end Nt

namespace Nt
open PySem PySem.Spec PyProof.Rows
/-! ### the head's facts, read off few objects -/
def propP (K : PySem.W.Frag) (C : Addr) (f : Str) : Addr := match PySem.W.findIn K (.ref C) f with
  | some (some (.ref p)) => p
  | _ => 0
def propG (K : PySem.W.Frag) (p : Addr) : Addr := match PySem.W.recIn K p "property" with
  | some (.ref g :: _) => g
  | _ => 0
/-- a def, its address by a rule -/
structure DefX where
  adr : PySem.W.Frag → Addr
  name : Str
  qual : Str
  params : Arguments
  body : List Stmt
  scope : Scope
  dfl : List He.Dv := []
  kwd : List (Str × He.Dv) := []
def DefX.val (d : DefX) : He.FnW := some (d.name, d.qual, d.params, .stmts d.body, d.scope, mainGlobals, [], builtinsNs)
def DefX.dvs (K : PySem.W.Frag) (d : DefX) : List L2.V := d.dfl.map (He.Dv.v K)
def DefX.kws (K : PySem.W.Frag) (d : DefX) : List (Str × L2.V) := d.kwd.map fun q => (q.1, q.2.v K)
def fnX (K : PySem.W.Frag) (a : Addr) : He.FnW := match K.lookup a with
  | some ⟨_, _, .func fd, _⟩ => some (fd.name, fd.qualname, fd.params, fd.body, fd.scope, fd.globals, fd.closure, fd.builtins)
  | _ => none
def DefX.ok (K : PySem.W.Frag) (d : DefX) : Bool := PySem.W.keepIn K (.ref (d.adr K)) && (match K.lookup (d.adr K) with
  | some ⟨_, _, .func fd, _⟩ => PySem.W.codeIn K fd.code d.qual && (He.dflB K fd.defaults (d.dvs K) && He.kwdB K fd.kwdefaults (d.kws K))
  | _ => false)
theorem DefX.funD {K : PySem.W.Frag} {d : DefX} (e : fnX K (d.adr K) = d.val) (c : d.ok K = true) : ∃ fd, L2.FunD K d.name d.qual d.params d.body d.scope (d.dvs K) (d.kws K) (d.adr K) fd := by
  obtain ⟨kp, c2⟩ := He.ba c
  unfold fnX at e
  cases q : K.lookup (d.adr K) with
  | none =>
    rw [q] at c2
    cases c2
  | some o =>
    obtain ⟨oc, od, dt, osl⟩ := o
    rw [q] at c2 e
    cases dt with
    | func fd =>
      obtain ⟨n1, n2, n3, n4, n5, n6, n7, n8, n9, n10, n11, n12, n13, n14, n15⟩ := fd
      have e2 : (some (n1, n2, n3, n4, n5, n6, n7, n15) : He.FnW) = some (d.name, d.qual, d.params, .stmts d.body, d.scope, mainGlobals, [], builtinsNs) := e
      simp only [Option.some.injEq, Prod.mk.injEq] at e2
      obtain ⟨h1, h2, h3, h4, h5, h6, h7, h8⟩ := e2
      subst h1 h2 h3 h4 h5 h6 h7 h8
      have c3 : (PySem.W.codeIn K n13 d.qual && (He.dflB K n8 (d.dvs K) && He.kwdB K n9 (d.kws K))) = true := c2
      obtain ⟨k1, k2⟩ := He.ba c3
      obtain ⟨k3, k4⟩ := He.ba k2
      exact ⟨_, ⟨oc, od, n8, n9, n10, n11, n12, n13, n14, osl, rfl, q, k1, He.dflB_ok k3, He.kwdB_ok k4⟩, kp⟩
    | _ => cases c2
inductive FaX where
  | he (f : He.Fa)
  | prop (c f : Str)
def FaX.ok (K : PySem.W.Frag) : FaX → Bool
  | .he f => f.ok K
  | .prop c f => He.eqO (PySem.W.findIn K (.ref (He.ga K c)) f) (some (some (.ref (propP K (He.ga K c) f)))) && (He.eqO (PySem.W.specialIn K (.ref (propP K (He.ga K c) f)) "__get__") (some (some (.builtin "property.__get__"))) &&
      (decide (PySem.W.takesIn K (.ref (propP K (He.ga K c) f)) = some true) && (match PySem.W.recIn K (propP K (He.ga K c) f) "property" with
        | some (.ref g :: _) => decide (g = propG K (propP K (He.ga K c) f))
        | _ => false)))
theorem prop_ok {K : PySem.W.Frag} {c f : Str} (h : (FaX.prop c f).ok K = true) : L2.PropOf K (He.ga K c) f (propP K (He.ga K c) f) (propG K (propP K (He.ga K c) f)) := by
  obtain ⟨h1, h⟩ := He.ba h
  obtain ⟨h2, h⟩ := He.ba h
  obtain ⟨h3, h4⟩ := He.ba h
  refine ⟨He.eqO_ok h1, He.eqO_ok h2, of_decide_eq_true h3, ?_⟩
  cases e : PySem.W.recIn K (propP K (He.ga K c) f) "property" with
  | none => rw [e] at h4; cases h4
  | some l =>
    rw [e] at h4
    cases l with
    | nil => cases h4
    | cons v l =>
      cases v with
      | ref g => exact ⟨l, by rw [of_decide_eq_true h4]⟩
      | _ => cases h4
/-- lists of addresses, told out -/
def forceL {α : Type} : List Nat → (List Nat → α) → α
  | [], k => k []
  | a :: as, k => Nat.casesOn (motive := fun _ => α) a (forceL as fun l => k (0 :: l)) fun m => forceL as fun l => k (Nat.succ m :: l)
theorem forceL_eq {α : Type} : ∀ (as : List Nat) (k : List Nat → α), forceL as k = k as
  | [], _ => rfl
  | 0 :: as, k => forceL_eq as _
  | (m + 1) :: as, k => forceL_eq as _
def refsA (g : Addr → Option Obj) (a : Addr) : List Addr := match g a with
  | some o => He.refsD o
  | none => []
/-- the functions' code and defaults -/
def refsF (g : Addr → Option Obj) (a : Addr) : List Addr := match g a with
  | some o => (match o.data with
    | .func fd => He.refV fd.code ++ (He.refV fd.defaults ++ He.refV fd.kwdefaults)
    | _ => [])
  | none => []
def refsC (g : Addr → Option Obj) (a : Addr) : List Addr := match g a with
  | some o => (match o.data with
    | .cls cd => cd.ns :: cd.mro.flatMap He.refV
    | _ => [])
  | none => []
abbrev CM : Type := Str × List Str × List Str
/-- what is read: the names' objects, the classes' parts, the methods, what functions lean on -/
def withA {α : Type} (g : Addr → Option Obj) (glo : List Str) (cls : List CM) (k : List Addr → α) : α :=
  forceL (glo.map (He.ga (He.frG g [mainGlobals]))) fun A1 =>
  forceL (cls.flatMap fun c => let a := He.ga (He.frG g [mainGlobals]) c.1; a :: refsC g a) fun A2 =>
  forceL (cls.flatMap fun c => let K1 := He.frG g (mainGlobals :: A2); let a := He.ga K1 c.1; c.2.1.map (He.ma K1 a) ++ c.2.2.map (propP K1 a)) fun A3 =>
  forceL (A3.map (propG (He.frG g A3))) fun A4 =>
  forceL ((A1 ++ (A3 ++ A4)).flatMap (refsF g)) fun A5 =>
  k (mainGlobals :: (A2 ++ (A3 ++ (A4 ++ (A1 ++ A5)))))
theorem withA_eq {α : Type} (g : Addr → Option Obj) (glo : List Str) (cls : List CM) : ∃ as, ∀ k : List Addr → α, withA g glo cls k = k as := by
  unfold withA
  simp only [forceL_eq]
  exact ⟨_, fun k => rfl⟩
def obsX (fa : List FaX) (fn : List DefX) (K : PySem.W.Frag) : He.AlD := ((fa.all fun f => f.ok K) && fn.all fun d => d.ok K, fn.map fun d => fnX K (d.adr K))
def valX (fn : List DefX) : He.AlD := (true, fn.map DefX.val)
def SaysX (fa : List FaX) (fn : List DefX) (K : PySem.W.Frag) : Prop := obsX fa fn K = valX fn
def obsXG (glo : List Str) (cls : List CM) (fa : List FaX) (fn : List DefX) (g : Addr → Option Obj) : He.AlD := withA g glo cls fun as => obsX fa fn (He.frG g as)
def hookX (glo : List Str) (cls : List CM) (fa : List FaX) (fn : List DefX) : PySem.W.Hook where
  α := He.AlD
  obs := fun s => obsXG glo cls fa fn s.heap.get?
  val := fun _ => valX fn
  says := fun _ h => ∃ K : PySem.W.Frag, K.In h ∧ SaysX fa fn K
  of := fun _ s e => by
    obtain ⟨as, h⟩ := withA_eq (α := He.AlD) s.heap.get? glo cls
    exact ⟨_, He.frG_in, (h _).symm.trans e⟩
  keeps := fun _ _ _ ⟨K, hK, c⟩ k => ⟨K, PySem.W.Frag.In.keeps hK k, c⟩
theorem obsXG_eq {glo : List Str} {cls : List CM} {fa : List FaX} {fn : List DefX} {g : Addr → Option Obj} {s : Shared} (h : ∀ a, g a = s.heap.get? a) : obsXG glo cls fa fn g = (hookX glo cls fa fn).obs s := by
  have e : g = s.heap.get? := funext h
  rw [e] <;> rfl
section
variable {fa : List FaX} {fn : List DefX} {K : PySem.W.Frag}
theorem SaysX.factX (c : SaysX fa fn K) (i : Nat) {f : FaX} (h : fa[i]? = some f := by rfl) : f.ok K = true := by
  have c1 := (He.ba (show ((fa.all fun f => f.ok K) && fn.all fun d => d.ok K) = true from congrArg (fun z : He.AlD => z.1) c)).1
  exact List.all_eq_true.mp c1 f (List.mem_of_getElem? h)
theorem SaysX.fact (c : SaysX fa fn K) (i : Nat) {f : He.Fa} (h : fa[i]? = some (.he f) := by rfl) : f.ok K = true := c.factX i (f := .he f) h
theorem SaysX.def_ (c : SaysX fa fn K) (i : Nat) {d : DefX} (h : fn[i]? = some d := by rfl) : ∃ fd, L2.FunD K d.name d.qual d.params d.body d.scope (d.dvs K) (d.kws K) (d.adr K) fd := by
  have c2 := (He.ba (show ((fa.all fun f => f.ok K) && fn.all fun d => d.ok K) = true from congrArg (fun z : He.AlD => z.1) c)).2
  have e : fn.map (fun d => fnX K (d.adr K)) = fn.map DefX.val := congrArg (fun z : He.AlD => z.2) c
  have e2 : (fn.map fun d => fnX K (d.adr K))[i]? = (fn.map DefX.val)[i]? := by rw [e]
  rw [List.getElem?_map, List.getElem?_map, h] at e2
  exact DefX.funD (Option.some.inj e2) (List.all_eq_true.mp c2 d (List.mem_of_getElem? h))
end
end Nt

set_option maxHeartbeats 2000000
namespace G08
open PySem PySem.Spec PyProof.Rows Nt
open L2 hiding rLen

theorem units1 {k : Nat} {A : Around} (r : Room k A) : A.units + 1 < cLine := by have := r.un; omega

def top (i : Nat) : Stmt := PySem.Challenge.pw_newesttells_k08_whole_rows_by_closure.main.body.getD i (.Pass ⟨0, 0, 0, 0⟩)

structure Bl (mg : Str → Option Value) : Prop where
  f_abs : mg "abs" = none
  f_all : mg "all" = none
  f_bool : mg "bool" = none
  f_dict : mg "dict" = none
  f_enumerate : mg "enumerate" = none
  f_int : mg "int" = none
  f_isinstance : mg "isinstance" = none
  f_len : mg "len" = none
  f_list : mg "list" = none
  f_range : mg "range" = none
  f_set : mg "set" = none
  f_sorted : mg "sorted" = none
  f_str : mg "str" = none
  f_tuple : mg "tuple" = none
  f_zip : mg "zip" = none
  c_LETTERS : ∃ t, mg "LETTERS" = some (.str (T [97, 98, 99, 100, 101, 102, 103, 104, 105, 106, 107, 108, 109, 110, 111, 112, 113, 114, 115, 116, 117, 118, 119, 120, 121, 122]) t)
  c_MOST_ROWS : ∃ t, mg "MOST_ROWS" = some (.int 800 t)
  c_MOST_SEEDS : ∃ t, mg "MOST_SEEDS" = some (.int 30 t)
  c_MOST_CELLS : ∃ t, mg "MOST_CELLS" = some (.int 12 t)
  c_MOST_VALUES : ∃ t, mg "MOST_VALUES" = some (.int 4 t)

abbrev fl_Band : List Str := ["cell_list", "seed_list", "row_list", "known_rows", "lot_list"]

abbrev s_is_name : Stmt := top 3
abbrev n_is_name : List Str := ["value", "sign"]
theorem sc_is_name : FnScope n_is_name ["value"] (defScope s_is_name) := ⟨rfl, rfl, rfl, by decide +kernel, rfl, by decide +kernel, by decide +kernel⟩

abbrev s_is_number : Stmt := top 4
abbrev n_is_number : List Str := ["value", "least", "most"]
theorem sc_is_number : FnScope n_is_number ["value", "least", "most"] (defScope s_is_number) := ⟨rfl, rfl, rfl, by decide +kernel, rfl, by decide +kernel, by decide +kernel⟩

abbrev s_check_cells : Stmt := top 25
abbrev n_check_cells : List Str := ["cells", "names", "at", "cell", "name", "many"]
theorem sc_check_cells : FnScope n_check_cells ["cells"] (defScope s_check_cells) := ⟨rfl, rfl, rfl, by decide +kernel, rfl, by decide +kernel, by decide +kernel⟩

abbrev s_is_row : Stmt := top 26
abbrev n_is_row : List Str := ["cells", "value", "sign", "cell"]
theorem sc_is_row : FnScope n_is_row ["cells", "value"] (defScope s_is_row) := ⟨rfl, rfl, rfl, by decide +kernel, rfl, by decide +kernel, by decide +kernel⟩

abbrev s_over : Stmt := top 27
abbrev n_over : List Str := ["newer", "older", "sign", "below"]
theorem sc_over : FnScope n_over ["newer", "older"] (defScope s_over) := ⟨rfl, rfl, rfl, by decide +kernel, rfl, by decide +kernel, by decide +kernel⟩

abbrev s_lot_of : Stmt := top 28
abbrev n_lot_of : List Str := ["row", "sign"]
theorem sc_lot_of : FnScope n_lot_of ["row"] (defScope s_lot_of) := ⟨rfl, rfl, rfl, by decide +kernel, rfl, by decide +kernel, by decide +kernel⟩

abbrev s_blank : Stmt := top 29
abbrev n_blank : List Str := ["many"]
theorem sc_blank : FnScope n_blank ["many"] (defScope s_blank) := ⟨rfl, rfl, rfl, by decide +kernel, rfl, by decide +kernel, by decide +kernel⟩

abbrev s_union : Stmt := top 30
abbrev n_union : List Str := ["one", "other", "sign", "second"]
theorem sc_union : FnScope n_union ["one", "other"] (defScope s_union) := ⟨rfl, rfl, rfl, by decide +kernel, rfl, by decide +kernel, by decide +kernel⟩

abbrev s_lot_size : Stmt := top 31
abbrev n_lot_size : List Str := ["lot"]
theorem sc_lot_size : FnScope n_lot_size ["lot"] (defScope s_lot_size) := ⟨rfl, rfl, rfl, by decide +kernel, rfl, by decide +kernel, by decide +kernel⟩

abbrev s_ordered_lots : Stmt := top 32
abbrev n_ordered_lots : List Str := ["lots"]
theorem sc_ordered_lots : FnScope n_ordered_lots ["lots"] (defScope s_ordered_lots) := ⟨rfl, rfl, rfl, by decide +kernel, rfl, by decide +kernel, by decide +kernel⟩

abbrev s_new_places : Stmt := top 34
abbrev n_new_places : List Str := ["seed", "told", "at", "sign"]
theorem sc_new_places : FnScope n_new_places ["seed", "told"] (defScope s_new_places) := ⟨rfl, rfl, rfl, by decide +kernel, rfl, by decide +kernel, by decide +kernel⟩

abbrev s_can_take : Stmt := top 35
abbrev n_can_take : List Str := ["seed", "told", "row", "places", "at"]
theorem sc_can_take : FnScope n_can_take ["seed", "told", "row"] (defScope s_can_take) := ⟨rfl, rfl, rfl, by decide +kernel, rfl, by decide +kernel, by decide +kernel⟩

abbrev s_first_to_take : Stmt := top 36
abbrev n_first_to_take : List Str := ["seeds", "told", "row", "seed"]
theorem sc_first_to_take : FnScope n_first_to_take ["seeds", "told", "row"] (defScope s_first_to_take) := ⟨rfl, rfl, rfl, by decide +kernel, rfl, by decide +kernel, by decide +kernel⟩

abbrev s_taking : Stmt := top 37
abbrev n_taking : List Str := ["seeds", "row", "taken", "told", "seed"]
theorem sc_taking : FnScope n_taking ["seeds", "row"] (defScope s_taking) := ⟨rfl, rfl, rfl, by decide +kernel, rfl, by decide +kernel, by decide +kernel⟩

abbrev s_bar_lines : Stmt := top 38
abbrev n_bar_lines : List Str := ["cells", "seeds", "row", "told", "lines", "seed", "unlike", "at"]
theorem sc_bar_lines : FnScope n_bar_lines ["cells", "seeds", "row", "told"] (defScope s_bar_lines) := ⟨rfl, rfl, rfl, by decide +kernel, rfl, by decide +kernel, by decide +kernel⟩

abbrev s_come : Stmt := top 39
abbrev n_come : List Str := ["cells", "seeds", "row", "taken", "told", "lines", "seed"]
theorem sc_come : FnScope n_come ["cells", "seeds", "row"] (defScope s_come) := ⟨rfl, rfl, rfl, by decide +kernel, rfl, by decide +kernel, by decide +kernel⟩

abbrev s_is_made : Stmt := top 41
abbrev n_is_made : List Str := ["cells", "seeds", "row"]
theorem sc_is_made : FnScope n_is_made ["cells", "seeds", "row"] (defScope s_is_made) := ⟨rfl, rfl, rfl, by decide +kernel, rfl, by decide +kernel, by decide +kernel⟩

abbrev s_has_form : Stmt := top 42
abbrev n_has_form : List Str := ["line", "word", "many"]
theorem sc_has_form : FnScope n_has_form ["line", "word", "many"] (defScope s_has_form) := ⟨rfl, rfl, rfl, by decide +kernel, rfl, by decide +kernel, by decide +kernel⟩

abbrev s_next_to_bar : Stmt := top 43
abbrev n_next_to_bar : List Str := ["seeds", "told", "passed", "at"]
theorem sc_next_to_bar : FnScope n_next_to_bar ["seeds", "told", "passed"] (defScope s_next_to_bar) := ⟨rfl, rfl, rfl, by decide +kernel, rfl, by decide +kernel, by decide +kernel⟩

abbrev s_take_holds : Stmt := top 44
abbrev n_take_holds : List Str := ["seeds", "row", "told", "line", "seed"]
theorem sc_take_holds : FnScope n_take_holds ["seeds", "row", "told", "line"] (defScope s_take_holds) := ⟨rfl, rfl, rfl, by decide +kernel, rfl, by decide +kernel, by decide +kernel⟩

abbrev s_bar_holds : Stmt := top 45
abbrev n_bar_holds : List Str := ["cells", "seed", "row", "told", "line", "at"]
theorem sc_bar_holds : FnScope n_bar_holds ["cells", "seed", "row", "told", "line"] (defScope s_bar_holds) := ⟨rfl, rfl, rfl, by decide +kernel, rfl, by decide +kernel, by decide +kernel⟩

abbrev s_last_holds : Stmt := top 46
abbrev n_last_holds : List Str := ["seeds", "row", "told", "passed", "line"]
theorem sc_last_holds : FnScope n_last_holds ["seeds", "row", "told", "passed", "line"] (defScope s_last_holds) := ⟨rfl, rfl, rfl, by decide +kernel, rfl, by decide +kernel, by decide +kernel⟩

abbrev s_look : Stmt := top 47
abbrev n_look : List Str := ["cells", "seeds", "paper", "row", "told", "passed", "at", "line", "seed_at"]
theorem sc_look : FnScope n_look ["cells", "seeds", "paper"] (defScope s_look) := ⟨rfl, rfl, rfl, by decide +kernel, rfl, by decide +kernel, by decide +kernel⟩

abbrev s_check_seeds : Stmt := top 49
abbrev n_check_seeds : List Str := ["cells", "seeds", "at", "seed", "cell"]
theorem sc_check_seeds : FnScope n_check_seeds ["cells", "seeds"] (defScope s_check_seeds) := ⟨rfl, rfl, rfl, by decide +kernel, rfl, by decide +kernel, by decide +kernel⟩

abbrev s_grown_rows : Stmt := top 50
abbrev n_grown_rows : List Str := ["seeds", "first", "most", "rows", "known", "at", "seed", "row"]
theorem sc_grown_rows : FnScope n_grown_rows ["seeds", "first", "most"] (defScope s_grown_rows) := ⟨rfl, rfl, rfl, by decide +kernel, rfl, by decide +kernel, by decide +kernel⟩

abbrev s_Band___init__ : Stmt := mem (top 51) 0
abbrev n_Band___init__ : List Str := ["self", "cells", "seeds", "most", "rows", "row"]
theorem sc_Band___init__ : FnScope n_Band___init__ ["self", "cells", "seeds", "most"] (defScope s_Band___init__) := ⟨rfl, rfl, rfl, by decide +kernel, rfl, by decide +kernel, by decide +kernel⟩

abbrev s_Band_rows : Stmt := mem (top 51) 4
abbrev n_Band_rows : List Str := ["self"]
theorem sc_Band_rows : FnScope n_Band_rows ["self"] (defScope s_Band_rows) := ⟨rfl, rfl, rfl, by decide +kernel, rfl, by decide +kernel, by decide +kernel⟩

abbrev s_Band_full_rows : Stmt := mem (top 51) 5
abbrev n_Band_full_rows : List Str := ["self", "row"]
theorem sc_Band_full_rows : FnScope n_Band_full_rows ["self"] (defScope s_Band_full_rows) := ⟨rfl, rfl, rfl, by decide +kernel, rfl, by decide +kernel, by decide +kernel⟩

abbrev s_Band_lots : Stmt := mem (top 51) 6
abbrev n_Band_lots : List Str := ["self"]
theorem sc_Band_lots : FnScope n_Band_lots ["self"] (defScope s_Band_lots) := ⟨rfl, rfl, rfl, by decide +kernel, rfl, by decide +kernel, by decide +kernel⟩

abbrev s_Band_come : Stmt := mem (top 51) 9
abbrev n_Band_come : List Str := ["self", "row", "seeds"]
theorem sc_Band_come : FnScope n_Band_come ["self", "row", "seeds"] (defScope s_Band_come) := ⟨rfl, rfl, rfl, by decide +kernel, rfl, by decide +kernel, by decide +kernel⟩

abbrev s_Band___contains__ : Stmt := mem (top 51) 21
abbrev n_Band___contains__ : List Str := ["self", "row"]
theorem sc_Band___contains__ : FnScope n_Band___contains__ ["self", "row"] (defScope s_Band___contains__) := ⟨rfl, rfl, rfl, by decide +kernel, rfl, by decide +kernel, by decide +kernel⟩

abbrev s_Band___len__ : Stmt := mem (top 51) 23
abbrev n_Band___len__ : List Str := ["self"]
theorem sc_Band___len__ : FnScope n_Band___len__ ["self"] (defScope s_Band___len__) := ⟨rfl, rfl, rfl, by decide +kernel, rfl, by decide +kernel, by decide +kernel⟩

abbrev s__law_bag : Stmt := top 53
abbrev n__law_bag : List Str := ["_law_script", "_law_mixed", "_law_piece"]
theorem sc__law_bag : FnScope n__law_bag ["_law_script"] (defScope s__law_bag) := ⟨rfl, rfl, rfl, by decide +kernel, rfl, by decide +kernel, by decide +kernel⟩

abbrev s__law_draw : Stmt := top 54
abbrev n__law_draw : List Str := ["_law_bag_here", "_law_sides", "_law_piece", "_law_digit", "_law_state"]
theorem sc__law_draw : FnScope n__law_draw ["_law_bag_here", "_law_sides"] (defScope s__law_draw) := ⟨rfl, rfl, rfl, by decide +kernel, rfl, by decide +kernel, by decide +kernel⟩

abbrev s__law_of : Stmt := top 55
abbrev n__law_of : List Str := ["_law_bag_here", "_law_things"]
theorem sc__law_of : FnScope n__law_of ["_law_bag_here", "_law_things"] (defScope s__law_of) := ⟨rfl, rfl, rfl, by decide +kernel, rfl, by decide +kernel, by decide +kernel⟩

abbrev s__law_same : Stmt := top 56
abbrev n__law_same : List Str := ["_law_found", "_law_due", "_law_mark", "_law_x", "_law_y"]
theorem sc__law_same : FnScope n__law_same ["_law_found", "_law_due"] (defScope s__law_same) := ⟨rfl, rfl, rfl, by decide +kernel, rfl, by decide +kernel, by decide +kernel⟩

abbrev s__law_title : Stmt := top 57
abbrev n__law_title : List Str := ["_law_bag_here", "_law_taken", "_law_title_here", "_law_k", "_law_sign"]
theorem sc__law_title : FnScope n__law_title ["_law_bag_here", "_law_taken"] (defScope s__law_title) := ⟨rfl, rfl, rfl, by decide +kernel, rfl, by decide +kernel, by decide +kernel⟩

abbrev s__law_frame : Stmt := top 58
abbrev n__law_frame : List Str := ["_law_bag_here", "_law_size_here", "_law_widest", "_law_frame_here", "_law_taken", "_law_k"]
theorem sc__law_frame : FnScope n__law_frame ["_law_bag_here", "_law_size_here", "_law_widest"] (defScope s__law_frame) := ⟨rfl, rfl, rfl, by decide +kernel, rfl, by decide +kernel, by decide +kernel⟩

abbrev s__law_row : Stmt := top 59
abbrev n__law_row : List Str := ["_law_bag_here", "_law_frame_here", "_law_thin", "_law_pair"]
theorem sc__law_row : FnScope n__law_row ["_law_bag_here", "_law_frame_here", "_law_thin"] (defScope s__law_row) := ⟨rfl, rfl, rfl, by decide +kernel, rfl, by decide +kernel, by decide +kernel⟩

abbrev s__law_once : Stmt := top 60
abbrev n__law_once : List Str := ["_law_things", "_law_found", "_law_thing"]
theorem sc__law_once : FnScope n__law_once ["_law_things"] (defScope s__law_once) := ⟨rfl, rfl, rfl, by decide +kernel, rfl, by decide +kernel, by decide +kernel⟩

abbrev s__law_stack : Stmt := top 61
abbrev n__law_stack : List Str := ["_law_bag_here", "_law_frame_here", "_law_size_here", "_law_found", "_law_thin", "_law_k", "_law_r", "_law_spot", "_law_last"]
theorem sc__law_stack : FnScope n__law_stack ["_law_bag_here", "_law_frame_here", "_law_size_here"] (defScope s__law_stack) := ⟨rfl, rfl, rfl, by decide +kernel, rfl, by decide +kernel, by decide +kernel⟩

abbrev s__law_size : Stmt := top 62
abbrev n__law_size : List Str := ["_law_bag_here"]
theorem sc__law_size : FnScope n__law_size ["_law_bag_here"] (defScope s__law_size) := ⟨rfl, rfl, rfl, by decide +kernel, rfl, by decide +kernel, by decide +kernel⟩

abbrev s__law_lay : Stmt := top 63
abbrev n__law_lay : List Str := ["_law_newer_row", "_law_older_row", "_law_x", "_law_y"]
theorem sc__law_lay : FnScope n__law_lay ["_law_newer_row", "_law_older_row"] (defScope s__law_lay) := ⟨rfl, rfl, rfl, by decide +kernel, rfl, by decide +kernel, by decide +kernel⟩

abbrev s__law_lot : Stmt := top 64
abbrev n__law_lot : List Str := ["_law_r", "_law_sign"]
theorem sc__law_lot : FnScope n__law_lot ["_law_r"] (defScope s__law_lot) := ⟨rfl, rfl, rfl, by decide +kernel, rfl, by decide +kernel, by decide +kernel⟩

abbrev s__law_join : Stmt := top 65
abbrev n__law_join : List Str := ["_law_x", "_law_y", "_law_a", "_law_b"]
theorem sc__law_join : FnScope n__law_join ["_law_x", "_law_y"] (defScope s__law_join) := ⟨rfl, rfl, rfl, by decide +kernel, rfl, by decide +kernel, by decide +kernel⟩

abbrev s__law_lots : Stmt := top 66
abbrev n__law_lots : List Str := ["_law_told", "_law_found", "_law_x", "_law_size_here"]
theorem sc__law_lots : FnScope n__law_lots ["_law_told"] (defScope s__law_lots) := ⟨rfl, rfl, rfl, by decide +kernel, rfl, by decide +kernel, by decide +kernel⟩

abbrev s__law_rows : Stmt := top 67
abbrev n__law_rows : List Str := ["_law_stack_here", "_law_wide", "_law_cap", "_law_found", "_law_known", "_law_k", "_law_r", "_law_s"]
theorem sc__law_rows : FnScope n__law_rows ["_law_stack_here", "_law_wide", "_law_cap"] (defScope s__law_rows) := ⟨rfl, rfl, rfl, by decide +kernel, rfl, by decide +kernel, by decide +kernel⟩

abbrev s__law_fresh : Stmt := top 68
abbrev n__law_fresh : List Str := ["_law_s", "_law_told", "_law_k"]
theorem sc__law_fresh : FnScope n__law_fresh ["_law_s", "_law_told"] (defScope s__law_fresh) := ⟨rfl, rfl, rfl, by decide +kernel, rfl, by decide +kernel, by decide +kernel⟩

abbrev s__law_fits : Stmt := top 69
abbrev n__law_fits : List Str := ["_law_s", "_law_r", "_law_told", "_law_fresh_here", "_law_k"]
theorem sc__law_fits : FnScope n__law_fits ["_law_s", "_law_r", "_law_told"] (defScope s__law_fits) := ⟨rfl, rfl, rfl, by decide +kernel, rfl, by decide +kernel, by decide +kernel⟩

abbrev s__law_greedy : Stmt := top 70
abbrev n__law_greedy : List Str := ["_law_stack_here", "_law_r", "_law_taken", "_law_told", "_law_k", "_law_ready", "_law_s"]
theorem sc__law_greedy : FnScope n__law_greedy ["_law_stack_here", "_law_r"] (defScope s__law_greedy) := ⟨rfl, rfl, rfl, by decide +kernel, rfl, by decide +kernel, by decide +kernel⟩

abbrev s__law_lines : Stmt := top 71
abbrev n__law_lines : List Str := ["_law_frame_here", "_law_stack_here", "_law_r", "_law_taken", "_law_told", "_law_found", "_law_s", "_law_bad", "_law_k"]
theorem sc__law_lines : FnScope n__law_lines ["_law_frame_here", "_law_stack_here", "_law_r"] (defScope s__law_lines) := ⟨rfl, rfl, rfl, by decide +kernel, rfl, by decide +kernel, by decide +kernel⟩

abbrev s__law_fillings : Stmt := top 72
abbrev n__law_fillings : List Str := ["_law_frame_here", "_law_found", "_law_pair", "_law_signs", "_law_longer", "_law_ahead", "_law_sign"]
theorem sc__law_fillings : FnScope n__law_fillings ["_law_frame_here"] (defScope s__law_fillings) := ⟨rfl, rfl, rfl, by decide +kernel, rfl, by decide +kernel, by decide +kernel⟩

abbrev s__law_paper_so : Stmt := top 73
abbrev n__law_paper_so : List Str := ["_law_band", "_law_frame_here", "_law_stack_here", "_law_r", "_law_made", "_law_answer"]
theorem sc__law_paper_so : FnScope n__law_paper_so ["_law_band", "_law_frame_here", "_law_stack_here", "_law_r", "_law_made"] (defScope s__law_paper_so) := ⟨rfl, rfl, rfl, by decide +kernel, rfl, by decide +kernel, by decide +kernel⟩

abbrev s_law : Stmt := top 74
abbrev n_law : List Str := ["_law_script", "_law_bag_here", "_law_frame_here", "_law_stack_here", "_law_made", "_law_band", "_law_full", "_law_lots_due", "_law_every", "_law_step", "_law_skip", "_law_asked", "_law_known", "_law_k", "_law_turn", "_law_x", "_law_y", "_law_a", "_law_b", "_law_r"]
theorem sc_law : FnScope n_law ["_law_script"] (defScope s_law) := ⟨rfl, rfl, rfl, by decide +kernel, rfl, by decide +kernel, by decide +kernel⟩

section
variable {P : Program} {w : World} {K : PySem.W.Frag} {mg : Str → Option Value} {base : Heap}

def t_is_name (K : PySem.W.Frag) : TS := (tSeq (tIfS (tOr (tNot (tB (tCB (rIsi K) (tCons (tVar 0) (tCons (tC (.ty "str")) tNil))))) (tNot (tTest (tChain rLeU rLeU (tC (.int 1)) (tCB (rLen K) (tCons (tVar 0) tNil)) (tC (.int 6)))))) (tRet (tC (.bl false))) tNext)
    (tRet (tCB (rAll K) (tCons (tLc (iSrc K (tVar 0)) (gName 1) tYes (tOp (rInU K) (tVar 1) (tC (.str (T [97, 98, 99, 100, 101, 102, 103, 104, 105, 106, 107, 108, 109, 110, 111, 112, 113, 114, 115, 116, 117, 118, 119, 120, 121, 122])))) [1]) tNil))))

theorem w_is_name (B : Bl mg)   {f : Addr} {cdv : Value} {A : Around} {outer : List Env} {s : Shared} {H : Hp} {E : XK} (hr : Room 0 (A.deeper (envOfC "is_name" (defScope s_is_name) s.heap.objs.size f cdv))) :
    PSs (cxOf (L2.CX P w) P w K mg base n_is_name "is_name" (defScope s_is_name) f cdv A outer s H E).nox (defBody s_is_name) (t_is_name K ) := by
  have nd := sc_is_name.nd
  have hu := hr.units
  have hv := units5 hr
  have h1 := units1 hr
  exact (pss_cons (ps_if (PW.pt (pw_or (pt_not (pt_val (pe_callB call_isi (by rfl) B.f_isinstance (by decide +kernel) (pa_cons (pv 0) (pa_cons (pe_bltn (by rfl) B.f_str (by decide +kernel) rfl) pa_nil))))) (pw_or1 (pt_not (pt_chain op_leU op_leU pe_int (pe_callB call_lenU (by rfl) B.f_len (by decide +kernel) (pa_cons (pv 0) pa_nil)) pe_int))))) (pss_one (ps_ret pe_bl)) pss_nil)
    (pss_one (ps_ret (pe_callB (cr_all rfl) (by rfl) B.f_all (by decide +kernel) (pa_cons (pe_lc (own := [("sign", 1)]) rfl nd (pi_src (pv 0)) (blkOk_by (own := [("sign", 1)]) (N := n_is_name) (sc := defScope s_is_name) (by decide +kernel)) (fun _ _ _ _ _ => (pg_name (i := 1) nd rfl (Or.inl rfl))) (fun _ _ _ _ _ => pts_nil) (fun _ _ _ _ _ => (pe_cmpR (op_inU hv) (pv 1) (pe_globS rfl B.c_LETTERS) (by rfl)))) pa_nil)))))

def t_is_number (K : PySem.W.Frag) : TS := (tRet (tAndV (tCB (rIsi K) (tCons (tVar 0) (tCons (tC (.ty "int")) tNil))) (tAndV (tNotV (tCB (rIsi K) (tCons (tVar 0) (tCons (tC (.ty "bool")) tNil)))) (tChain rLeU rLeU (tVar 1) (tVar 0) (tVar 2)))))

theorem w_is_number (B : Bl mg)   {f : Addr} {cdv : Value} {A : Around} {outer : List Env} {s : Shared} {H : Hp} {E : XK} (hr : Room 0 (A.deeper (envOfC "is_number" (defScope s_is_number) s.heap.objs.size f cdv))) :
    PSs (cxOf (L2.CX P w) P w K mg base n_is_number "is_number" (defScope s_is_number) f cdv A outer s H E).nox (defBody s_is_number) (t_is_number K ) := by
  have nd := sc_is_number.nd
  have hu := hr.units
  have hv := units5 hr
  have h1 := units1 hr
  exact (pss_one (ps_ret (pe_and (pe_callB call_isi (by rfl) B.f_isinstance (by decide +kernel) (pa_cons (pv 0) (pa_cons (pe_bltn (by rfl) B.f_int (by decide +kernel) rfl) pa_nil))) (pe_and (pe_not (pe_callB call_isi (by rfl) B.f_isinstance (by decide +kernel) (pa_cons (pv 0) (pa_cons (pe_bltn (by rfl) B.f_bool (by decide +kernel) rfl) pa_nil)))) (pe_one (pe_chain op_leU op_leU (pv 1) (pv 0) (pv 2)))))))

def t_check_cells (K : PySem.W.Frag) (sp_is_name sp_is_number : Sp) : TS := (tSeq (tIfS (tOr (tNot (tB (tCB (rIsiT K) (tCons (tVar 0) (tCons (tTup (tCons (tC (.ty "list")) (tCons (tC (.ty "tuple")) tNil))) tNil))))) (tNot (tTest (tChain rLeU rLeU (tC (.int 1)) (tCB (rLen K) (tCons (tVar 0) tNil)) (tC (.int 12)))))) tNever tNext)
    (tSeq (tAsg (tLst tNil) (gName 1))
    (tFor (iEnumS K (tCons (tVar 0) tNil)) (gTup K 2 (gCons (gName 2) (gCons (gName 3) gNil)))
    (tSeq (tIfS (tOr (tNot (tB (tCB (rIsi K) (tCons (tVar 3) (tCons (tC (.ty "tuple")) tNil))))) (tTest (tOp (rNeU K) (tCB (rLen K) (tCons (tVar 3) tNil)) (tC (.int 2))))) tNever tNext)
    (tSeq (tAsg (tVar 3) (gTup K 2 (gCons (gName 4) (gCons (gName 5) gNil))))
    (tSeq (tIfS (tOr (tNot (tB (tCall sp_is_name (([] : List V).drop 0) E0 (tCons (tVar 4) tNil)))) (tOr (tNot (tB (tCall sp_is_number (([] : List V).drop 0) E0 (tCons (tVar 5) (tCons (tC (.int 1)) (tCons (tC (.int 4)) tNil)))))) (tTest (tOp (rInU K) (tVar 4) (tVar 1))))) tNever tNext)
    (tDrop (tBM K "list" rAppend (tVar 1) (tCons (tVar 4) tNil)))))))))

theorem w_check_cells (B : Bl mg)  {sp_is_name : Sp} (G_is_name : Df P w K mg base 1 "is_name" ["value"] [] sp_is_name) {sp_is_number : Sp} (G_is_number : Df P w K mg base 1 "is_number" ["value", "least", "most"] [] sp_is_number) {f : Addr} {cdv : Value} {A : Around} {outer : List Env} {s : Shared} {H : Hp} {E : XK} (hr : Room 1 (A.deeper (envOfC "check_cells" (defScope s_check_cells) s.heap.objs.size f cdv))) :
    PSs (cxOf (L2.CX P w) P w K mg base n_check_cells "check_cells" (defScope s_check_cells) f cdv A outer s H E).nox (defBody s_check_cells) (t_check_cells K sp_is_name sp_is_number) := by
  have nd := sc_check_cells.nd
  have hu := hr.units
  have hv := units5 hr
  have h1 := units1 hr
  exact (pss_cons (ps_if (PW.pt (pw_or (pt_not (pt_val (pe_callB call_isiT (by rfl) B.f_isinstance (by decide +kernel) (pa_cons (pv 0) (pa_cons (pe_tup (pa_cons (pe_bltn (by rfl) B.f_list (by decide +kernel) rfl) (pa_cons (pe_bltn (by rfl) B.f_tuple (by decide +kernel) rfl) pa_nil))) pa_nil))))) (pw_or1 (pt_not (pt_chain op_leU op_leU pe_int (pe_callB call_lenU (by rfl) B.f_len (by decide +kernel) (pa_cons (pv 0) pa_nil)) (pe_globI rfl B.c_MOST_CELLS)))))) (pss_one ps_never) pss_nil)
    (pss_cons (ps_set (i := 1) nd rfl (Or.inl rfl) (pe_lst pa_nil))
    (pss_one (ps_for PassesOwn.never rfl (pi_enumS (by rfl) B.f_enumerate (pa_cons (pv 0) pa_nil)) (pg_tup (by rfl) (pgs_cons (pg_name (i := 2) nd rfl (Or.inl rfl)) (pgs_cons (pg_name (i := 3) nd rfl (Or.inl rfl)) pgs_nil)))
    (pss_cons (ps_if (PW.pt (pw_or (pt_not (pt_val (pe_callB call_isi (by rfl) B.f_isinstance (by decide +kernel) (pa_cons (pv 3) (pa_cons (pe_bltn (by rfl) B.f_tuple (by decide +kernel) rfl) pa_nil))))) (pw_or1 (pt_cmpR (op_neU hu) (pe_callB call_lenU (by rfl) B.f_len (by decide +kernel) (pa_cons (pv 3) pa_nil)) pe_int (nomark _))))) (pss_one ps_never) pss_nil)
    (pss_cons (ps_asg (pv 3) (pg_tup (by rfl) (pgs_cons (pg_name (i := 4) nd rfl (Or.inl rfl)) (pgs_cons (pg_name (i := 5) nd rfl (Or.inl rfl)) pgs_nil))))
    (pss_cons (ps_if (PW.pt (pw_or (pt_not (pt_val (pe_df 0 G_is_name (hr.mono (by decide)) (by rfl) (pa_cons (pv 4) pa_nil)))) (pw_or (pt_not (pt_val (pe_df 0 G_is_number (hr.mono (by decide)) (by rfl) (pa_cons (pv 5) (pa_cons pe_int (pa_cons (pe_globI rfl B.c_MOST_VALUES) pa_nil)))))) (pw_or1 (pt_cmpR (op_inU hv) (pv 4) (pv 1) (by rfl)))))) (pss_one ps_never) pss_nil)
    (pss_one (ps_expr (pe_bm PySem.F.plainAttrs_list PySem.F.slot_list_append PySem.F.type_list_append mt_append (pv 1) (pa_cons (pv 4) pa_nil)))))))))))

def t_is_row (K : PySem.W.Frag) : TS := (tSeq (tIfS (tOr (tNot (tB (tCB (rIsi K) (tCons (tVar 1) (tCons (tC (.ty "str")) tNil))))) (tTest (tOp (rNeU K) (tCB (rLen K) (tCons (tVar 1) tNil)) (tCB (rLen K) (tCons (tVar 0) tNil))))) (tRet (tC (.bl false))) tNext)
    (tRet (tCB (rAll K) (tCons (tLc (iZipS K (tCons (tVar 1) (tCons (tVar 0) tNil))) (gTup K 2 (gCons (gName 2) (gCons (gName 3) gNil))) tYes (tOp (rInU K) (tVar 2) (tSl (rSlU K) (tC (.str (T [46, 48, 49, 50, 51]))) tNoPart (tPart (tOp (rAddU K) (tOp (rIx K) (tVar 3) (tC (.int 1))) (tC (.int 1)))))) [2, 3]) tNil))))

theorem w_is_row (B : Bl mg)   {f : Addr} {cdv : Value} {A : Around} {outer : List Env} {s : Shared} {H : Hp} {E : XK} (hr : Room 0 (A.deeper (envOfC "is_row" (defScope s_is_row) s.heap.objs.size f cdv))) :
    PSs (cxOf (L2.CX P w) P w K mg base n_is_row "is_row" (defScope s_is_row) f cdv A outer s H E).nox (defBody s_is_row) (t_is_row K ) := by
  have nd := sc_is_row.nd
  have hu := hr.units
  have hv := units5 hr
  have h1 := units1 hr
  exact (pss_cons (ps_if (PW.pt (pw_or (pt_not (pt_val (pe_callB call_isi (by rfl) B.f_isinstance (by decide +kernel) (pa_cons (pv 1) (pa_cons (pe_bltn (by rfl) B.f_str (by decide +kernel) rfl) pa_nil))))) (pw_or1 (pt_cmpR (op_neU hu) (pe_callB call_lenU (by rfl) B.f_len (by decide +kernel) (pa_cons (pv 1) pa_nil)) (pe_callB call_lenU (by rfl) B.f_len (by decide +kernel) (pa_cons (pv 0) pa_nil)) (nomark _))))) (pss_one (ps_ret pe_bl)) pss_nil)
    (pss_one (ps_ret (pe_callB (cr_all rfl) (by rfl) B.f_all (by decide +kernel) (pa_cons (pe_lc (own := [("sign", 2), ("cell", 3)]) rfl nd (pi_zipS (by rfl) B.f_zip (pa_cons (pv 1) (pa_cons (pv 0) pa_nil))) (blkOk_by (own := [("sign", 2), ("cell", 3)]) (N := n_is_row) (sc := defScope s_is_row) (by decide +kernel)) (fun _ _ _ _ _ => (pg_tup (by rfl) (pgs_cons (pg_name (i := 2) nd rfl (Or.inl rfl)) (pgs_cons (pg_name (i := 3) nd rfl (Or.inl rfl)) pgs_nil)))) (fun _ _ _ _ _ => pts_nil) (fun _ _ _ _ _ => (pe_cmpR (op_inU hv) (pv 2) (pe_slice sl_U (pe_strT (by decide +kernel)) po_none (po_some (pe_op op_addU (pe_ix ix_seq (pv 3) pe_int (fun _ _ => rfl)) pe_int))) (by rfl)))) pa_nil)))))

def t_over (K : PySem.W.Frag) : TS := (tRet (tM1 (rJoin K) (tC (.str (T []))) (tLc (iZipS K (tCons (tVar 0) (tCons (tVar 1) tNil))) (gTup K 2 (gCons (gName 2) (gCons (gName 3) gNil))) tYes (tIf (tTest (tOp (rEqU K) (tVar 2) (tC (.str (T [46]))))) (tVar 3) (tVar 2)) [2, 3])))

theorem w_over (B : Bl mg)   {f : Addr} {cdv : Value} {A : Around} {outer : List Env} {s : Shared} {H : Hp} {E : XK} (hr : Room 0 (A.deeper (envOfC "over" (defScope s_over) s.heap.objs.size f cdv))) :
    PSs (cxOf (L2.CX P w) P w K mg base n_over "over" (defScope s_over) f cdv A outer s H E).nox (defBody s_over) (t_over K ) := by
  have nd := sc_over.nd
  have hu := hr.units
  have hv := units5 hr
  have h1 := units1 hr
  exact (pss_one (ps_ret (pe_joinU (pe_strT (by decide +kernel)) (pe_lc (own := [("sign", 2), ("below", 3)]) rfl nd (pi_zipS (by rfl) B.f_zip (pa_cons (pv 0) (pa_cons (pv 1) pa_nil))) (blkOk_by (own := [("sign", 2), ("below", 3)]) (N := n_over) (sc := defScope s_over) (by decide +kernel)) (fun _ _ _ _ _ => (pg_tup (by rfl) (pgs_cons (pg_name (i := 2) nd rfl (Or.inl rfl)) (pgs_cons (pg_name (i := 3) nd rfl (Or.inl rfl)) pgs_nil)))) (fun _ _ _ _ _ => pts_nil) (fun _ _ _ _ _ => (pe_ifExp (pt_cmpR (op_eqU hu) (pv 2) (pe_strT (by decide +kernel)) (nomark _)) (pv 3) (pv 2)))))))

def t_lot_of (K : PySem.W.Frag) : TS := (tRet (tM1 (rJoin K) (tC (.str (T []))) (tLc (iSrc K (tVar 0)) (gName 1) tYes (tIf (tTest (tOp (rEqU K) (tVar 1) (tC (.str (T [46]))))) (tC (.str (T [46]))) (tC (.str (T [43])))) [1])))

theorem w_lot_of (B : Bl mg)   {f : Addr} {cdv : Value} {A : Around} {outer : List Env} {s : Shared} {H : Hp} {E : XK} (hr : Room 0 (A.deeper (envOfC "lot_of" (defScope s_lot_of) s.heap.objs.size f cdv))) :
    PSs (cxOf (L2.CX P w) P w K mg base n_lot_of "lot_of" (defScope s_lot_of) f cdv A outer s H E).nox (defBody s_lot_of) (t_lot_of K ) := by
  have nd := sc_lot_of.nd
  have hu := hr.units
  have hv := units5 hr
  have h1 := units1 hr
  exact (pss_one (ps_ret (pe_joinU (pe_strT (by decide +kernel)) (pe_lc (own := [("sign", 1)]) rfl nd (pi_src (pv 0)) (blkOk_by (own := [("sign", 1)]) (N := n_lot_of) (sc := defScope s_lot_of) (by decide +kernel)) (fun _ _ _ _ _ => (pg_name (i := 1) nd rfl (Or.inl rfl))) (fun _ _ _ _ _ => pts_nil) (fun _ _ _ _ _ => (pe_ifExp (pt_cmpR (op_eqU hu) (pv 1) (pe_strT (by decide +kernel)) (nomark _)) (pe_strT (by decide +kernel)) (pe_strT (by decide +kernel))))))))

def t_blank (K : PySem.W.Frag) : TS := (tRet (tOp rMulU (tC (.str (T [46]))) (tVar 0)))

theorem w_blank (B : Bl mg)   {f : Addr} {cdv : Value} {A : Around} {outer : List Env} {s : Shared} {H : Hp} {E : XK} (hr : Room 0 (A.deeper (envOfC "blank" (defScope s_blank) s.heap.objs.size f cdv))) :
    PSs (cxOf (L2.CX P w) P w K mg base n_blank "blank" (defScope s_blank) f cdv A outer s H E).nox (defBody s_blank) (t_blank K ) := by
  have nd := sc_blank.nd
  have hu := hr.units
  have hv := units5 hr
  have h1 := units1 hr
  exact (pss_one (ps_ret (pe_op op_mulU (pe_strT (by decide +kernel)) (pv 0))))

def t_union (K : PySem.W.Frag) : TS := (tRet (tM1 (rJoin K) (tC (.str (T []))) (tLc (iZipS K (tCons (tVar 0) (tCons (tVar 1) tNil))) (gTup K 2 (gCons (gName 2) (gCons (gName 3) gNil))) tYes (tIf (tTest (tOp (rInU K) (tC (.str (T [43]))) (tTup (tCons (tVar 2) (tCons (tVar 3) tNil))))) (tC (.str (T [43]))) (tC (.str (T [46])))) [2, 3])))

theorem w_union (B : Bl mg)   {f : Addr} {cdv : Value} {A : Around} {outer : List Env} {s : Shared} {H : Hp} {E : XK} (hr : Room 0 (A.deeper (envOfC "union" (defScope s_union) s.heap.objs.size f cdv))) :
    PSs (cxOf (L2.CX P w) P w K mg base n_union "union" (defScope s_union) f cdv A outer s H E).nox (defBody s_union) (t_union K ) := by
  have nd := sc_union.nd
  have hu := hr.units
  have hv := units5 hr
  have h1 := units1 hr
  exact (pss_one (ps_ret (pe_joinU (pe_strT (by decide +kernel)) (pe_lc (own := [("sign", 2), ("second", 3)]) rfl nd (pi_zipS (by rfl) B.f_zip (pa_cons (pv 0) (pa_cons (pv 1) pa_nil))) (blkOk_by (own := [("sign", 2), ("second", 3)]) (N := n_union) (sc := defScope s_union) (by decide +kernel)) (fun _ _ _ _ _ => (pg_tup (by rfl) (pgs_cons (pg_name (i := 2) nd rfl (Or.inl rfl)) (pgs_cons (pg_name (i := 3) nd rfl (Or.inl rfl)) pgs_nil)))) (fun _ _ _ _ _ => pts_nil) (fun _ _ _ _ _ => (pe_ifExp (pt_cmpR (op_inU hv) (pe_strT (by decide +kernel)) (pe_tup (pa_cons (pv 2) (pa_cons (pv 3) pa_nil))) (by rfl)) (pe_strT (by decide +kernel)) (pe_strT (by decide +kernel))))))))

def t_lot_size (K : PySem.W.Frag) : TS := (tRet (tM1 rCount (tVar 0) (tC (.str (T [43])))))

theorem w_lot_size (B : Bl mg)   {f : Addr} {cdv : Value} {A : Around} {outer : List Env} {s : Shared} {H : Hp} {E : XK} (hr : Room 0 (A.deeper (envOfC "lot_size" (defScope s_lot_size) s.heap.objs.size f cdv))) :
    PSs (cxOf (L2.CX P w) P w K mg base n_lot_size "lot_size" (defScope s_lot_size) f cdv A outer s H E).nox (defBody s_lot_size) (t_lot_size K ) := by
  have nd := sc_lot_size.nd
  have hu := hr.units
  have hv := units5 hr
  have h1 := units1 hr
  exact (pss_one (ps_ret (pe_countU (pv 0) (pe_strT (by decide +kernel)))))

def t_new_places (K : PySem.W.Frag) : TS := (tRet (tLc (iEnumS K (tCons (tVar 0) tNil)) (gTup K 2 (gCons (gName 2) (gCons (gName 3) gNil))) (tAnd (tTest (tOp (rNeU K) (tVar 3) (tC (.str (T [46]))))) (tTest (tOp (rNeU K) (tOp (rIx K) (tVar 1) (tVar 2)) (tC (.str (T [43])))))) (tVar 2) [2, 3]))

theorem w_new_places (B : Bl mg)   {f : Addr} {cdv : Value} {A : Around} {outer : List Env} {s : Shared} {H : Hp} {E : XK} (hr : Room 0 (A.deeper (envOfC "new_places" (defScope s_new_places) s.heap.objs.size f cdv))) :
    PSs (cxOf (L2.CX P w) P w K mg base n_new_places "new_places" (defScope s_new_places) f cdv A outer s H E).nox (defBody s_new_places) (t_new_places K ) := by
  have nd := sc_new_places.nd
  have hu := hr.units
  have hv := units5 hr
  have h1 := units1 hr
  exact (pss_one (ps_ret (pe_lc (own := [("at", 2), ("sign", 3)]) rfl nd (pi_enumS (by rfl) B.f_enumerate (pa_cons (pv 0) pa_nil)) (blkOk_by (own := [("at", 2), ("sign", 3)]) (N := n_new_places) (sc := defScope s_new_places) (by decide +kernel)) (fun _ _ _ _ _ => (pg_tup (by rfl) (pgs_cons (pg_name (i := 2) nd rfl (Or.inl rfl)) (pgs_cons (pg_name (i := 3) nd rfl (Or.inl rfl)) pgs_nil)))) (fun _ _ _ _ _ => (pts_one (PW.pt (pw_and (pt_cmpR (op_neU hu) (pv 3) (pe_strT (by decide +kernel)) (nomark _)) (pw_and1 (pt_cmpR (op_neU hu) (pe_ix ix_seq (pv 1) (pv 2) (fun _ _ => rfl)) (pe_strT (by decide +kernel)) (nomark _))))))) (fun _ _ _ _ _ => (pv 2)))))

def t_can_take (K : PySem.W.Frag) (sp_new_places : Sp) : TS := (tSeq (tAsg (tCall sp_new_places (([] : List V).drop 0) E0 (tCons (tVar 0) (tCons (tVar 1) tNil))) (gName 3))
    (tRet (tAndV (tOp (rNeU K) (tVar 3) (tLst tNil)) (tCB (rAll K) (tCons (tLc (iSrc K (tVar 3)) (gName 4) tYes (tOp (rEqU K) (tOp (rIx K) (tVar 2) (tVar 4)) (tOp (rIx K) (tVar 0) (tVar 4))) [4]) tNil)))))

theorem w_can_take (B : Bl mg)  {sp_new_places : Sp} (G_new_places : Df P w K mg base 1 "new_places" ["seed", "told"] [] sp_new_places) {f : Addr} {cdv : Value} {A : Around} {outer : List Env} {s : Shared} {H : Hp} {E : XK} (hr : Room 1 (A.deeper (envOfC "can_take" (defScope s_can_take) s.heap.objs.size f cdv))) :
    PSs (cxOf (L2.CX P w) P w K mg base n_can_take "can_take" (defScope s_can_take) f cdv A outer s H E).nox (defBody s_can_take) (t_can_take K sp_new_places) := by
  have nd := sc_can_take.nd
  have hu := hr.units
  have hv := units5 hr
  have h1 := units1 hr
  exact (pss_cons (ps_set (i := 3) nd rfl (Or.inl rfl) (pe_df 0 G_new_places (hr.mono (by decide)) (by rfl) (pa_cons (pv 0) (pa_cons (pv 1) pa_nil))))
    (pss_one (ps_ret (pe_and (pe_cmpR (op_neU hu) (pv 3) (pe_lst pa_nil) (nomark _)) (pe_one (pe_callB (cr_all rfl) (by rfl) B.f_all (by decide +kernel) (pa_cons (pe_lc (own := [("at", 4)]) rfl nd (pi_src (pv 3)) (blkOk_by (own := [("at", 4)]) (N := n_can_take) (sc := defScope s_can_take) (by decide +kernel)) (fun _ _ _ _ _ => (pg_name (i := 4) nd rfl (Or.inl rfl))) (fun _ _ _ _ _ => pts_nil) (fun _ _ _ _ _ => (pe_cmpR (op_eqU hu) (pe_ix ix_seq (pv 2) (pv 4) (fun _ _ => rfl)) (pe_ix ix_seq (pv 0) (pv 4) (fun _ _ => rfl)) (nomark _)))) pa_nil)))))))

def t_first_to_take (K : PySem.W.Frag) (sp_can_take : Sp) : TS := (tSeq (tFor (iSrc K (tVar 0)) (gName 3)
    (tIfS (tB (tCall sp_can_take (([] : List V).drop 0) E0 (tCons (tVar 3) (tCons (tVar 1) (tCons (tVar 2) tNil))))) (tRet (tVar 3)) tNext))
    (tRet (tC .non)))

theorem w_first_to_take (B : Bl mg)  {sp_can_take : Sp} (G_can_take : Df P w K mg base 2 "can_take" ["seed", "told", "row"] [] sp_can_take) {f : Addr} {cdv : Value} {A : Around} {outer : List Env} {s : Shared} {H : Hp} {E : XK} (hr : Room 2 (A.deeper (envOfC "first_to_take" (defScope s_first_to_take) s.heap.objs.size f cdv))) :
    PSs (cxOf (L2.CX P w) P w K mg base n_first_to_take "first_to_take" (defScope s_first_to_take) f cdv A outer s H E).nox (defBody s_first_to_take) (t_first_to_take K sp_can_take) := by
  have nd := sc_first_to_take.nd
  have hu := hr.units
  have hv := units5 hr
  have h1 := units1 hr
  exact (pss_cons (ps_for PassesOwn.never rfl (pi_src (pv 0)) (pg_name (i := 3) nd rfl (Or.inl rfl))
    (pss_one (ps_if (pt_val (pe_df 0 G_can_take (hr.mono (by decide)) (by rfl) (pa_cons (pv 3) (pa_cons (pv 1) (pa_cons (pv 2) pa_nil))))) (pss_one (ps_ret (pv 3))) pss_nil)))
    (pss_one (ps_ret pe_non)))

def t_taking (K : PySem.W.Frag) (sp_blank sp_first_to_take sp_lot_of sp_union : Sp) : TS := (tSeq (tAsg (tLst tNil) (gName 2))
    (tSeq (tAsg (tCall sp_blank (([] : List V).drop 0) E0 (tCons (tCB (rLen K) (tCons (tVar 1) tNil)) tNil)) (gName 3))
    (tSeq (tAsg (tCall sp_first_to_take (([] : List V).drop 0) E0 (tCons (tVar 0) (tCons (tVar 3) (tCons (tVar 1) tNil)))) (gName 4))
    (tSeq (tWhile (tTest (tOp rNotN (tVar 4) (tC .non))) (tSeq (tDrop (tBM K "list" rAppend (tVar 2) (tCons (tVar 4) tNil)))
    (tSeq (tAsg (tCall sp_union (([] : List V).drop 0) E0 (tCons (tVar 3) (tCons (tCall sp_lot_of (([] : List V).drop 0) E0 (tCons (tVar 4) tNil)) tNil))) (gName 3))
    (tAsg (tCall sp_first_to_take (([] : List V).drop 0) E0 (tCons (tVar 0) (tCons (tVar 3) (tCons (tVar 1) tNil)))) (gName 4)))))
    (tRet (tTup (tCons (tVar 2) (tCons (tVar 3) tNil))))))))

theorem w_taking (B : Bl mg)  {sp_blank : Sp} (G_blank : Df P w K mg base 1 "blank" ["many"] [] sp_blank) {sp_first_to_take : Sp} (G_first_to_take : Df P w K mg base 3 "first_to_take" ["seeds", "told", "row"] [] sp_first_to_take) {sp_lot_of : Sp} (G_lot_of : Df P w K mg base 1 "lot_of" ["row"] [] sp_lot_of) {sp_union : Sp} (G_union : Df P w K mg base 1 "union" ["one", "other"] [] sp_union) {f : Addr} {cdv : Value} {A : Around} {outer : List Env} {s : Shared} {H : Hp} {E : XK} (hr : Room 3 (A.deeper (envOfC "taking" (defScope s_taking) s.heap.objs.size f cdv))) :
    PSs (cxOf (L2.CX P w) P w K mg base n_taking "taking" (defScope s_taking) f cdv A outer s H E).nox (defBody s_taking) (t_taking K sp_blank sp_first_to_take sp_lot_of sp_union) := by
  have nd := sc_taking.nd
  have hu := hr.units
  have hv := units5 hr
  have h1 := units1 hr
  exact (pss_cons (ps_set (i := 2) nd rfl (Or.inl rfl) (pe_lst pa_nil))
    (pss_cons (ps_set (i := 3) nd rfl (Or.inl rfl) (pe_df 0 G_blank (hr.mono (by decide)) (by rfl) (pa_cons (pe_callB call_lenU (by rfl) B.f_len (by decide +kernel) (pa_cons (pv 1) pa_nil)) pa_nil)))
    (pss_cons (ps_set (i := 4) nd rfl (Or.inl rfl) (pe_df 0 G_first_to_take (hr.mono (by decide)) (by rfl) (pa_cons (pv 0) (pa_cons (pv 3) (pa_cons (pv 1) pa_nil)))))
    (pss_cons (ps_while PassesOwn.never (pt_cmpR op_notN1 (pv 4) pe_non (nomark _)) (pss_cons (ps_expr (pe_bm PySem.F.plainAttrs_list PySem.F.slot_list_append PySem.F.type_list_append mt_append (pv 2) (pa_cons (pv 4) pa_nil)))
    (pss_cons (ps_set (i := 3) nd rfl (Or.inl rfl) (pe_df 0 G_union (hr.mono (by decide)) (by rfl) (pa_cons (pv 3) (pa_cons (pe_df 0 G_lot_of (hr.mono (by decide)) (by rfl) (pa_cons (pv 4) pa_nil)) pa_nil))))
    (pss_one (ps_set (i := 4) nd rfl (Or.inl rfl) (pe_df 0 G_first_to_take (hr.mono (by decide)) (by rfl) (pa_cons (pv 0) (pa_cons (pv 3) (pa_cons (pv 1) pa_nil)))))))))
    (pss_one (ps_ret (pe_tup (pa_cons (pv 2) (pa_cons (pv 3) pa_nil)))))))))

def t_bar_lines (K : PySem.W.Frag) (sp_new_places : Sp) : TS := (tSeq (tAsg (tLst tNil) (gName 4))
    (tSeq (tFor (iSrc K (tVar 1)) (gName 5)
    (tSeq (tAsg (tLc (iSrc K (tCall sp_new_places (([] : List V).drop 0) E0 (tCons (tVar 5) (tCons (tVar 3) tNil)))) (gName 7) (tTest (tOp (rNeU K) (tOp (rIx K) (tVar 2) (tVar 7)) (tOp (rIx K) (tVar 5) (tVar 7)))) (tVar 7) [7]) (gName 6))
    (tIfS (tTest (tOp (rNeU K) (tVar 6) (tLst tNil))) (tDrop (tBM K "list" rAppend (tVar 4) (tCons (tTup (tCons (tC (.str (T [98, 97, 114]))) (tCons (tVar 5) (tCons (tOp (rIx K) (tOp (rIx K) (tVar 0) (tOp (rIx K) (tVar 6) (tC (.int 0)))) (tC (.int 0))) tNil)))) tNil))) tNext)))
    (tRet (tVar 4))))

theorem w_bar_lines (B : Bl mg)  {sp_new_places : Sp} (G_new_places : Df P w K mg base 1 "new_places" ["seed", "told"] [] sp_new_places) {f : Addr} {cdv : Value} {A : Around} {outer : List Env} {s : Shared} {H : Hp} {E : XK} (hr : Room 1 (A.deeper (envOfC "bar_lines" (defScope s_bar_lines) s.heap.objs.size f cdv))) :
    PSs (cxOf (L2.CX P w) P w K mg base n_bar_lines "bar_lines" (defScope s_bar_lines) f cdv A outer s H E).nox (defBody s_bar_lines) (t_bar_lines K sp_new_places) := by
  have nd := sc_bar_lines.nd
  have hu := hr.units
  have hv := units5 hr
  have h1 := units1 hr
  exact (pss_cons (ps_set (i := 4) nd rfl (Or.inl rfl) (pe_lst pa_nil))
    (pss_cons (ps_for PassesOwn.never rfl (pi_src (pv 1)) (pg_name (i := 5) nd rfl (Or.inr rfl))
    (pss_cons (ps_setLc (i := 6) (own := [("at", 7)]) rfl nd rfl rfl (sw_true rfl rfl rfl (by decide +kernel)) (pi_src (pe_df 0 G_new_places (hr.mono (by decide)) (by rfl) (pa_cons (pv 5) (pa_cons (pv 3) pa_nil)))) (blkOk_by (own := [("at", 7)]) (N := n_bar_lines) (sc := defScope s_bar_lines) (by decide +kernel)) (fun _ _ _ _ _ => (pg_name (i := 7) nd rfl (Or.inl rfl))) (fun _ _ _ _ _ => (pts_one (pt_cmpR (op_neU hu) (pe_ix ix_seq (pv 2) (pv 7) (fun _ _ => rfl)) (pe_ix ix_seq (pv 5) (pv 7) (fun _ _ => rfl)) (nomark _)))) (fun _ _ _ _ _ => (pv 7)))
    (pss_one (ps_if (pt_cmpR (op_neU hu) (pv 6) (pe_lst pa_nil) (nomark _)) (pss_one (ps_expr (pe_bm PySem.F.plainAttrs_list PySem.F.slot_list_append PySem.F.type_list_append mt_append (pv 4) (pa_cons (pe_tup (pa_cons (pe_strT (by decide +kernel)) (pa_cons (pv 5) (pa_cons (pe_ix ix_seq (pe_ix ix_seq (pv 0) (pe_ix ix_seq (pv 6) pe_int (fun _ _ => rfl)) (fun _ _ => rfl)) pe_int (fun _ _ => rfl)) pa_nil)))) pa_nil)))) pss_nil))))
    (pss_one (ps_ret (pv 4)))))

def t_come (K : PySem.W.Frag) (sp_bar_lines sp_is_row sp_lot_of sp_taking : Sp) : TS := (tSeq (tIfS (tNot (tB (tCall sp_is_row (([] : List V).drop 0) E0 (tCons (tVar 0) (tCons (tVar 2) tNil))))) tNever tNext)
    (tSeq (tAsg (tCall sp_taking (([] : List V).drop 0) E0 (tCons (tVar 1) (tCons (tVar 2) tNil))) (gTup K 2 (gCons (gName 3) (gCons (gName 4) gNil))))
    (tSeq (tAsg (tOp (rAddU K) (tLst (tCons (tTup (tCons (tC (.str (T [114, 111, 119]))) (tCons (tVar 2) tNil))) tNil)) (tLc (iSrc K (tVar 3)) (gName 6) tYes (tTup (tCons (tC (.str (T [116, 97, 107, 101]))) (tCons (tVar 6) tNil))) [6])) (gName 5))
    (tSeq (tIfS (tTest (tOp (rEqU K) (tVar 4) (tCall sp_lot_of (([] : List V).drop 0) E0 (tCons (tVar 2) tNil)))) (tRet (tOp (rAddU K) (tVar 5) (tLst (tCons (tTup (tCons (tC (.str (T [109, 97, 100, 101]))) tNil)) tNil)))) tNext)
    (tRet (tOp (rAddU K) (tOp (rAddU K) (tVar 5) (tCall sp_bar_lines (([] : List V).drop 0) E0 (tCons (tVar 0) (tCons (tVar 1) (tCons (tVar 2) (tCons (tVar 4) tNil)))))) (tLst (tCons (tTup (tCons (tC (.str (T [98, 97, 114, 114, 101, 100]))) tNil)) tNil))))))))

theorem w_come (B : Bl mg)  {sp_bar_lines : Sp} (G_bar_lines : Df P w K mg base 2 "bar_lines" ["cells", "seeds", "row", "told"] [] sp_bar_lines) {sp_is_row : Sp} (G_is_row : Df P w K mg base 1 "is_row" ["cells", "value"] [] sp_is_row) {sp_lot_of : Sp} (G_lot_of : Df P w K mg base 1 "lot_of" ["row"] [] sp_lot_of) {sp_taking : Sp} (G_taking : Df P w K mg base 4 "taking" ["seeds", "row"] [] sp_taking) {f : Addr} {cdv : Value} {A : Around} {outer : List Env} {s : Shared} {H : Hp} {E : XK} (hr : Room 4 (A.deeper (envOfC "come" (defScope s_come) s.heap.objs.size f cdv))) :
    PSs (cxOf (L2.CX P w) P w K mg base n_come "come" (defScope s_come) f cdv A outer s H E).nox (defBody s_come) (t_come K sp_bar_lines sp_is_row sp_lot_of sp_taking) := by
  have nd := sc_come.nd
  have hu := hr.units
  have hv := units5 hr
  have h1 := units1 hr
  exact (pss_cons (ps_if (pt_not (pt_val (pe_df 0 G_is_row (hr.mono (by decide)) (by rfl) (pa_cons (pv 0) (pa_cons (pv 2) pa_nil))))) (pss_one ps_never) pss_nil)
    (pss_cons (ps_asg (pe_df 0 G_taking (hr.mono (by decide)) (by rfl) (pa_cons (pv 1) (pa_cons (pv 2) pa_nil))) (pg_tup (by rfl) (pgs_cons (pg_name (i := 3) nd rfl (Or.inl rfl)) (pgs_cons (pg_name (i := 4) nd rfl (Or.inl rfl)) pgs_nil))))
    (pss_cons (ps_set (i := 5) nd rfl (Or.inl rfl) (pe_op op_addU (pe_lst (pa_cons (pe_tup (pa_cons (pe_strT (by decide +kernel)) (pa_cons (pv 2) pa_nil))) pa_nil)) (pe_lc (own := [("seed", 6)]) rfl nd (pi_src (pv 3)) (blkOk_by (own := [("seed", 6)]) (N := n_come) (sc := defScope s_come) (by decide +kernel)) (fun _ _ _ _ _ => (pg_name (i := 6) nd rfl (Or.inl rfl))) (fun _ _ _ _ _ => pts_nil) (fun _ _ _ _ _ => (pe_tup (pa_cons (pe_strT (by decide +kernel)) (pa_cons (pv 6) pa_nil)))))))
    (pss_cons (ps_if (pt_cmpR (op_eqU hu) (pv 4) (pe_df 0 G_lot_of (hr.mono (by decide)) (by rfl) (pa_cons (pv 2) pa_nil)) (nomark _)) (pss_one (ps_ret (pe_op op_addU (pv 5) (pe_lst (pa_cons (pe_tup (pa_cons (pe_strT (by decide +kernel)) pa_nil)) pa_nil))))) pss_nil)
    (pss_one (ps_ret (pe_op op_addU (pe_op op_addU (pv 5) (pe_df 0 G_bar_lines (hr.mono (by decide)) (by rfl) (pa_cons (pv 0) (pa_cons (pv 1) (pa_cons (pv 2) (pa_cons (pv 4) pa_nil)))))) (pe_lst (pa_cons (pe_tup (pa_cons (pe_strT (by decide +kernel)) pa_nil)) pa_nil)))))))))

def t_is_made (K : PySem.W.Frag) (sp_is_row sp_lot_of sp_taking : Sp) : TS := (tRet (tAndV (tCall sp_is_row (([] : List V).drop 0) E0 (tCons (tVar 0) (tCons (tVar 2) tNil))) (tOp (rEqU K) (tOp (rIx K) (tCall sp_taking (([] : List V).drop 0) E0 (tCons (tVar 1) (tCons (tVar 2) tNil))) (tC (.int 1))) (tCall sp_lot_of (([] : List V).drop 0) E0 (tCons (tVar 2) tNil)))))

theorem w_is_made (B : Bl mg)  {sp_is_row : Sp} (G_is_row : Df P w K mg base 1 "is_row" ["cells", "value"] [] sp_is_row) {sp_lot_of : Sp} (G_lot_of : Df P w K mg base 1 "lot_of" ["row"] [] sp_lot_of) {sp_taking : Sp} (G_taking : Df P w K mg base 4 "taking" ["seeds", "row"] [] sp_taking) {f : Addr} {cdv : Value} {A : Around} {outer : List Env} {s : Shared} {H : Hp} {E : XK} (hr : Room 4 (A.deeper (envOfC "is_made" (defScope s_is_made) s.heap.objs.size f cdv))) :
    PSs (cxOf (L2.CX P w) P w K mg base n_is_made "is_made" (defScope s_is_made) f cdv A outer s H E).nox (defBody s_is_made) (t_is_made K sp_is_row sp_lot_of sp_taking) := by
  have nd := sc_is_made.nd
  have hu := hr.units
  have hv := units5 hr
  have h1 := units1 hr
  exact (pss_one (ps_ret (pe_and (pe_df 0 G_is_row (hr.mono (by decide)) (by rfl) (pa_cons (pv 0) (pa_cons (pv 2) pa_nil))) (pe_one (pe_cmpR (op_eqU hu) (pe_ix ix_seq (pe_df 0 G_taking (hr.mono (by decide)) (by rfl) (pa_cons (pv 1) (pa_cons (pv 2) pa_nil))) pe_int (fun _ _ => rfl)) (pe_df 0 G_lot_of (hr.mono (by decide)) (by rfl) (pa_cons (pv 2) pa_nil)) (nomark _))))))

def t_has_form (K : PySem.W.Frag) : TS := (tRet (tAndV (tCB (rIsi K) (tCons (tVar 0) (tCons (tC (.ty "tuple")) tNil))) (tAndV (tOp (rEqU K) (tCB (rLen K) (tCons (tVar 0) tNil)) (tVar 2)) (tAndV (tCB (rIsi K) (tCons (tOp (rIx K) (tVar 0) (tC (.int 0))) (tCons (tC (.ty "str")) tNil))) (tOp (rEqU K) (tOp (rIx K) (tVar 0) (tC (.int 0))) (tVar 1))))))

theorem w_has_form (B : Bl mg)   {f : Addr} {cdv : Value} {A : Around} {outer : List Env} {s : Shared} {H : Hp} {E : XK} (hr : Room 0 (A.deeper (envOfC "has_form" (defScope s_has_form) s.heap.objs.size f cdv))) :
    PSs (cxOf (L2.CX P w) P w K mg base n_has_form "has_form" (defScope s_has_form) f cdv A outer s H E).nox (defBody s_has_form) (t_has_form K ) := by
  have nd := sc_has_form.nd
  have hu := hr.units
  have hv := units5 hr
  have h1 := units1 hr
  exact (pss_one (ps_ret (pe_and (pe_callB call_isi (by rfl) B.f_isinstance (by decide +kernel) (pa_cons (pv 0) (pa_cons (pe_bltn (by rfl) B.f_tuple (by decide +kernel) rfl) pa_nil))) (pe_and (pe_cmpR (op_eqU hu) (pe_callB call_lenU (by rfl) B.f_len (by decide +kernel) (pa_cons (pv 0) pa_nil)) (pv 2) (nomark _)) (pe_and (pe_callB call_isi (by rfl) B.f_isinstance (by decide +kernel) (pa_cons (pe_ix ix_seq (pv 0) pe_int (fun _ _ => rfl)) (pa_cons (pe_bltn (by rfl) B.f_str (by decide +kernel) rfl) pa_nil))) (pe_one (pe_cmpR (op_eqU hu) (pe_ix ix_seq (pv 0) pe_int (fun _ _ => rfl)) (pv 1) (nomark _))))))))

def t_next_to_bar (K : PySem.W.Frag) (sp_new_places : Sp) : TS := (tSeq (tFor (iRng2 (tCons (tVar 2) (tCons (tCB (rLen K) (tCons (tVar 0) tNil)) tNil))) (gName 3)
    (tIfS (tTest (tOp (rNeU K) (tCall sp_new_places (([] : List V).drop 0) E0 (tCons (tOp (rIx K) (tVar 0) (tVar 3)) (tCons (tVar 1) tNil))) (tLst tNil))) (tRet (tVar 3)) tNext))
    (tRet (tC .non)))

theorem w_next_to_bar (B : Bl mg)  {sp_new_places : Sp} (G_new_places : Df P w K mg base 1 "new_places" ["seed", "told"] [] sp_new_places) {f : Addr} {cdv : Value} {A : Around} {outer : List Env} {s : Shared} {H : Hp} {E : XK} (hr : Room 1 (A.deeper (envOfC "next_to_bar" (defScope s_next_to_bar) s.heap.objs.size f cdv))) :
    PSs (cxOf (L2.CX P w) P w K mg base n_next_to_bar "next_to_bar" (defScope s_next_to_bar) f cdv A outer s H E).nox (defBody s_next_to_bar) (t_next_to_bar K sp_new_places) := by
  have nd := sc_next_to_bar.nd
  have hu := hr.units
  have hv := units5 hr
  have h1 := units1 hr
  exact (pss_cons (ps_for PassesOwn.never rfl (pi_range2 (by rfl) B.f_range (pa_cons (pv 2) (pa_cons (pe_callB call_lenU (by rfl) B.f_len (by decide +kernel) (pa_cons (pv 0) pa_nil)) pa_nil))) (pg_name (i := 3) nd rfl (Or.inl rfl))
    (pss_one (ps_if (pt_cmpR (op_neU hu) (pe_df 0 G_new_places (hr.mono (by decide)) (by rfl) (pa_cons (pe_ix ix_seq (pv 0) (pv 3) (fun _ _ => rfl)) (pa_cons (pv 1) pa_nil))) (pe_lst pa_nil) (nomark _)) (pss_one (ps_ret (pv 3))) pss_nil)))
    (pss_one (ps_ret pe_non)))

def t_take_holds (K : PySem.W.Frag) (sp_can_take : Sp) : TS := (tSeq (tAsg (tOp (rIx K) (tVar 3) (tC (.int 1))) (gName 4))
    (tRet (tAndV (tCB (rIsi K) (tCons (tVar 4) (tCons (tC (.ty "str")) tNil))) (tAndV (tOp (rInU K) (tVar 4) (tVar 0)) (tCall sp_can_take (([] : List V).drop 0) E0 (tCons (tVar 4) (tCons (tVar 2) (tCons (tVar 1) tNil))))))))

theorem w_take_holds (B : Bl mg)  {sp_can_take : Sp} (G_can_take : Df P w K mg base 2 "can_take" ["seed", "told", "row"] [] sp_can_take) {f : Addr} {cdv : Value} {A : Around} {outer : List Env} {s : Shared} {H : Hp} {E : XK} (hr : Room 2 (A.deeper (envOfC "take_holds" (defScope s_take_holds) s.heap.objs.size f cdv))) :
    PSs (cxOf (L2.CX P w) P w K mg base n_take_holds "take_holds" (defScope s_take_holds) f cdv A outer s H E).nox (defBody s_take_holds) (t_take_holds K sp_can_take) := by
  have nd := sc_take_holds.nd
  have hu := hr.units
  have hv := units5 hr
  have h1 := units1 hr
  exact (pss_cons (ps_set (i := 4) nd rfl (Or.inl rfl) (pe_ix ix_seq (pv 3) pe_int (fun _ _ => rfl)))
    (pss_one (ps_ret (pe_and (pe_callB call_isi (by rfl) B.f_isinstance (by decide +kernel) (pa_cons (pv 4) (pa_cons (pe_bltn (by rfl) B.f_str (by decide +kernel) rfl) pa_nil))) (pe_and (pe_cmpR (op_inU hv) (pv 4) (pv 0) (by rfl)) (pe_one (pe_df 0 G_can_take (hr.mono (by decide)) (by rfl) (pa_cons (pv 4) (pa_cons (pv 2) (pa_cons (pv 1) pa_nil))))))))))

def t_bar_holds (K : PySem.W.Frag) (sp_new_places : Sp) : TS := (tSeq (tIfS (tOr (tNot (tB (tCB (rIsi K) (tCons (tOp (rIx K) (tVar 4) (tC (.int 1))) (tCons (tC (.ty "str")) tNil))))) (tOr (tNot (tB (tCB (rIsi K) (tCons (tOp (rIx K) (tVar 4) (tC (.int 2))) (tCons (tC (.ty "str")) tNil))))) (tTest (tOp (rNeU K) (tOp (rIx K) (tVar 4) (tC (.int 1))) (tVar 1))))) (tRet (tC (.bl false))) tNext)
    (tRet (tOp (rInU K) (tOp (rIx K) (tVar 4) (tC (.int 2))) (tLc (iSrc K (tCall sp_new_places (([] : List V).drop 0) E0 (tCons (tVar 1) (tCons (tVar 3) tNil)))) (gName 5) (tTest (tOp (rNeU K) (tOp (rIx K) (tVar 2) (tVar 5)) (tOp (rIx K) (tVar 1) (tVar 5)))) (tOp (rIx K) (tOp (rIx K) (tVar 0) (tVar 5)) (tC (.int 0))) [5]))))

theorem w_bar_holds (B : Bl mg)  {sp_new_places : Sp} (G_new_places : Df P w K mg base 1 "new_places" ["seed", "told"] [] sp_new_places) {f : Addr} {cdv : Value} {A : Around} {outer : List Env} {s : Shared} {H : Hp} {E : XK} (hr : Room 1 (A.deeper (envOfC "bar_holds" (defScope s_bar_holds) s.heap.objs.size f cdv))) :
    PSs (cxOf (L2.CX P w) P w K mg base n_bar_holds "bar_holds" (defScope s_bar_holds) f cdv A outer s H E).nox (defBody s_bar_holds) (t_bar_holds K sp_new_places) := by
  have nd := sc_bar_holds.nd
  have hu := hr.units
  have hv := units5 hr
  have h1 := units1 hr
  exact (pss_cons (ps_if (PW.pt (pw_or (pt_not (pt_val (pe_callB call_isi (by rfl) B.f_isinstance (by decide +kernel) (pa_cons (pe_ix ix_seq (pv 4) pe_int (fun _ _ => rfl)) (pa_cons (pe_bltn (by rfl) B.f_str (by decide +kernel) rfl) pa_nil))))) (pw_or (pt_not (pt_val (pe_callB call_isi (by rfl) B.f_isinstance (by decide +kernel) (pa_cons (pe_ix ix_seq (pv 4) pe_int (fun _ _ => rfl)) (pa_cons (pe_bltn (by rfl) B.f_str (by decide +kernel) rfl) pa_nil))))) (pw_or1 (pt_cmpR (op_neU hu) (pe_ix ix_seq (pv 4) pe_int (fun _ _ => rfl)) (pv 1) (nomark _)))))) (pss_one (ps_ret pe_bl)) pss_nil)
    (pss_one (ps_ret (pe_cmpR (op_inU hv) (pe_ix ix_seq (pv 4) pe_int (fun _ _ => rfl)) (pe_lc (own := [("at", 5)]) rfl nd (pi_src (pe_df 0 G_new_places (hr.mono (by decide)) (by rfl) (pa_cons (pv 1) (pa_cons (pv 3) pa_nil)))) (blkOk_by (own := [("at", 5)]) (N := n_bar_holds) (sc := defScope s_bar_holds) (by decide +kernel)) (fun _ _ _ _ _ => (pg_name (i := 5) nd rfl (Or.inl rfl))) (fun _ _ _ _ _ => (pts_one (pt_cmpR (op_neU hu) (pe_ix ix_seq (pv 2) (pv 5) (fun _ _ => rfl)) (pe_ix ix_seq (pv 1) (pv 5) (fun _ _ => rfl)) (nomark _)))) (fun _ _ _ _ _ => (pe_ix ix_seq (pe_ix ix_seq (pv 0) (pv 5) (fun _ _ => rfl)) pe_int (fun _ _ => rfl)))) (by rfl)))))

def t_last_holds (K : PySem.W.Frag) (sp_has_form sp_lot_of sp_next_to_bar : Sp) : TS := (tSeq (tIfS (tB (tCall sp_has_form (([] : List V).drop 0) E0 (tCons (tVar 4) (tCons (tC (.str (T [109, 97, 100, 101]))) (tCons (tC (.int 1)) tNil))))) (tRet (tAndV (tOp (rEqU K) (tVar 3) (tC (.int 0))) (tOp (rEqU K) (tVar 2) (tCall sp_lot_of (([] : List V).drop 0) E0 (tCons (tVar 1) tNil))))) tNext)
    (tSeq (tIfS (tB (tCall sp_has_form (([] : List V).drop 0) E0 (tCons (tVar 4) (tCons (tC (.str (T [98, 97, 114, 114, 101, 100]))) (tCons (tC (.int 1)) tNil))))) (tRet (tAndV (tOp (rNeU K) (tVar 2) (tCall sp_lot_of (([] : List V).drop 0) E0 (tCons (tVar 1) tNil))) (tOp rIsN (tCall sp_next_to_bar (([] : List V).drop 0) E0 (tCons (tVar 0) (tCons (tVar 2) (tCons (tVar 3) tNil)))) (tC .non)))) tNext)
    (tRet (tC (.bl false)))))

theorem w_last_holds (B : Bl mg)  {sp_has_form : Sp} (G_has_form : Df P w K mg base 1 "has_form" ["line", "word", "many"] [] sp_has_form) {sp_lot_of : Sp} (G_lot_of : Df P w K mg base 1 "lot_of" ["row"] [] sp_lot_of) {sp_next_to_bar : Sp} (G_next_to_bar : Df P w K mg base 2 "next_to_bar" ["seeds", "told", "passed"] [] sp_next_to_bar) {f : Addr} {cdv : Value} {A : Around} {outer : List Env} {s : Shared} {H : Hp} {E : XK} (hr : Room 2 (A.deeper (envOfC "last_holds" (defScope s_last_holds) s.heap.objs.size f cdv))) :
    PSs (cxOf (L2.CX P w) P w K mg base n_last_holds "last_holds" (defScope s_last_holds) f cdv A outer s H E).nox (defBody s_last_holds) (t_last_holds K sp_has_form sp_lot_of sp_next_to_bar) := by
  have nd := sc_last_holds.nd
  have hu := hr.units
  have hv := units5 hr
  have h1 := units1 hr
  exact (pss_cons (ps_if (pt_val (pe_df 0 G_has_form (hr.mono (by decide)) (by rfl) (pa_cons (pv 4) (pa_cons (pe_strT (by decide +kernel)) (pa_cons pe_int pa_nil))))) (pss_one (ps_ret (pe_and (pe_cmpR (op_eqU hu) (pv 3) pe_int (nomark _)) (pe_one (pe_cmpR (op_eqU hu) (pv 2) (pe_df 0 G_lot_of (hr.mono (by decide)) (by rfl) (pa_cons (pv 1) pa_nil)) (nomark _)))))) pss_nil)
    (pss_cons (ps_if (pt_val (pe_df 0 G_has_form (hr.mono (by decide)) (by rfl) (pa_cons (pv 4) (pa_cons (pe_strT (by decide +kernel)) (pa_cons pe_int pa_nil))))) (pss_one (ps_ret (pe_and (pe_cmpR (op_neU hu) (pv 2) (pe_df 0 G_lot_of (hr.mono (by decide)) (by rfl) (pa_cons (pv 1) pa_nil)) (nomark _)) (pe_one (pe_cmpR op_isN1 (pe_df 0 G_next_to_bar (hr.mono (by decide)) (by rfl) (pa_cons (pv 0) (pa_cons (pv 2) (pa_cons (pv 3) pa_nil)))) pe_non (nomark _)))))) pss_nil)
    (pss_one (ps_ret pe_bl))))

def t_look (K : PySem.W.Frag) (sp_bar_holds sp_blank sp_has_form sp_is_row sp_last_holds sp_lot_of sp_next_to_bar sp_take_holds sp_union : Sp) : TS := (tSeq (tIfS (tOr (tNot (tB (tCB (rIsiT K) (tCons (tVar 2) (tCons (tTup (tCons (tC (.ty "list")) (tCons (tC (.ty "tuple")) tNil))) tNil))))) (tTest (tOp (rEqU K) (tCB (rLen K) (tCons (tVar 2) tNil)) (tC (.int 0))))) (tRet (tC (.int 0))) tNext)
    (tSeq (tIfS (tOr (tNot (tB (tCall sp_has_form (([] : List V).drop 0) E0 (tCons (tOp (rIx K) (tVar 2) (tC (.int 0))) (tCons (tC (.str (T [114, 111, 119]))) (tCons (tC (.int 2)) tNil)))))) (tNot (tB (tCall sp_is_row (([] : List V).drop 0) E0 (tCons (tVar 0) (tCons (tOp (rIx K) (tOp (rIx K) (tVar 2) (tC (.int 0))) (tC (.int 1))) tNil)))))) (tRet (tC (.int 0))) tNext)
    (tSeq (tAsg (tOp (rIx K) (tOp (rIx K) (tVar 2) (tC (.int 0))) (tC (.int 1))) (gName 3))
    (tSeq (tAsg (tCall sp_blank (([] : List V).drop 0) E0 (tCons (tCB (rLen K) (tCons (tVar 0) tNil)) tNil)) (gName 4))
    (tSeq (tAsg (tC (.int 0)) (gName 5))
    (tSeq (tFor (iRng2 (tCons (tC (.int 1)) (tCons (tCB (rLen K) (tCons (tVar 2) tNil)) tNil))) (gName 6)
    (tSeq (tAsg (tOp (rIx K) (tVar 2) (tVar 6)) (gName 7))
    (tSeq (tAsg (tCall sp_next_to_bar (([] : List V).drop 0) E0 (tCons (tVar 1) (tCons (tVar 4) (tCons (tVar 5) tNil)))) (gName 8))
    (tIfS (tAnd (tB (tCall sp_has_form (([] : List V).drop 0) E0 (tCons (tVar 7) (tCons (tC (.str (T [116, 97, 107, 101]))) (tCons (tC (.int 2)) tNil))))) (tAnd (tTest (tOp (rEqU K) (tVar 5) (tC (.int 0)))) (tB (tCall sp_take_holds (([] : List V).drop 0) E0 (tCons (tVar 1) (tCons (tVar 3) (tCons (tVar 4) (tCons (tVar 7) tNil)))))))) (tAsg (tCall sp_union (([] : List V).drop 0) E0 (tCons (tVar 4) (tCons (tCall sp_lot_of (([] : List V).drop 0) E0 (tCons (tOp (rIx K) (tVar 7) (tC (.int 1))) tNil)) tNil))) (gName 4)) (tIfS (tAnd (tB (tCall sp_has_form (([] : List V).drop 0) E0 (tCons (tVar 7) (tCons (tC (.str (T [98, 97, 114]))) (tCons (tC (.int 3)) tNil))))) (tAnd (tTest (tOp rNotN (tVar 8) (tC .non))) (tB (tCall sp_bar_holds (([] : List V).drop 0) E0 (tCons (tVar 0) (tCons (tOp (rIx K) (tVar 1) (tVar 8)) (tCons (tVar 3) (tCons (tVar 4) (tCons (tVar 7) tNil))))))))) (tAsg (tOp (rAddU K) (tVar 8) (tC (.int 1))) (gName 5)) (tIfS (tB (tCall sp_last_holds (([] : List V).drop 0) E0 (tCons (tVar 1) (tCons (tVar 3) (tCons (tVar 4) (tCons (tVar 5) (tCons (tVar 7) tNil))))))) (tRet (tIf (tTest (tOp rLtU (tOp (rAddU K) (tVar 6) (tC (.int 1))) (tCB (rLen K) (tCons (tVar 2) tNil)))) (tOp (rAddU K) (tVar 6) (tC (.int 1))) (tC .non))) (tRet (tVar 6))))))))
    (tRet (tCB (rLen K) (tCons (tVar 2) tNil)))))))))

theorem w_look (B : Bl mg)  {sp_bar_holds : Sp} (G_bar_holds : Df P w K mg base 2 "bar_holds" ["cells", "seed", "row", "told", "line"] [] sp_bar_holds) {sp_blank : Sp} (G_blank : Df P w K mg base 1 "blank" ["many"] [] sp_blank) {sp_has_form : Sp} (G_has_form : Df P w K mg base 1 "has_form" ["line", "word", "many"] [] sp_has_form) {sp_is_row : Sp} (G_is_row : Df P w K mg base 1 "is_row" ["cells", "value"] [] sp_is_row) {sp_last_holds : Sp} (G_last_holds : Df P w K mg base 3 "last_holds" ["seeds", "row", "told", "passed", "line"] [] sp_last_holds) {sp_lot_of : Sp} (G_lot_of : Df P w K mg base 1 "lot_of" ["row"] [] sp_lot_of) {sp_next_to_bar : Sp} (G_next_to_bar : Df P w K mg base 2 "next_to_bar" ["seeds", "told", "passed"] [] sp_next_to_bar) {sp_take_holds : Sp} (G_take_holds : Df P w K mg base 3 "take_holds" ["seeds", "row", "told", "line"] [] sp_take_holds) {sp_union : Sp} (G_union : Df P w K mg base 1 "union" ["one", "other"] [] sp_union) {f : Addr} {cdv : Value} {A : Around} {outer : List Env} {s : Shared} {H : Hp} {E : XK} (hr : Room 3 (A.deeper (envOfC "look" (defScope s_look) s.heap.objs.size f cdv))) :
    PSs (cxOf (L2.CX P w) P w K mg base n_look "look" (defScope s_look) f cdv A outer s H E).nox (defBody s_look) (t_look K sp_bar_holds sp_blank sp_has_form sp_is_row sp_last_holds sp_lot_of sp_next_to_bar sp_take_holds sp_union) := by
  have nd := sc_look.nd
  have hu := hr.units
  have hv := units5 hr
  have h1 := units1 hr
  exact (pss_cons (ps_if (PW.pt (pw_or (pt_not (pt_val (pe_callB call_isiT (by rfl) B.f_isinstance (by decide +kernel) (pa_cons (pv 2) (pa_cons (pe_tup (pa_cons (pe_bltn (by rfl) B.f_list (by decide +kernel) rfl) (pa_cons (pe_bltn (by rfl) B.f_tuple (by decide +kernel) rfl) pa_nil))) pa_nil))))) (pw_or1 (pt_cmpR (op_eqU hu) (pe_callB call_lenU (by rfl) B.f_len (by decide +kernel) (pa_cons (pv 2) pa_nil)) pe_int (nomark _))))) (pss_one (ps_ret pe_int)) pss_nil)
    (pss_cons (ps_if (PW.pt (pw_or (pt_not (pt_val (pe_df 0 G_has_form (hr.mono (by decide)) (by rfl) (pa_cons (pe_ix ix_seq (pv 2) pe_int (fun _ _ => rfl)) (pa_cons (pe_strT (by decide +kernel)) (pa_cons pe_int pa_nil)))))) (pw_or1 (pt_not (pt_val (pe_df 0 G_is_row (hr.mono (by decide)) (by rfl) (pa_cons (pv 0) (pa_cons (pe_ix ix_seq (pe_ix ix_seq (pv 2) pe_int (fun _ _ => rfl)) pe_int (fun _ _ => rfl)) pa_nil)))))))) (pss_one (ps_ret pe_int)) pss_nil)
    (pss_cons (ps_set (i := 3) nd rfl (Or.inl rfl) (pe_ix ix_seq (pe_ix ix_seq (pv 2) pe_int (fun _ _ => rfl)) pe_int (fun _ _ => rfl)))
    (pss_cons (ps_set (i := 4) nd rfl (Or.inl rfl) (pe_df 0 G_blank (hr.mono (by decide)) (by rfl) (pa_cons (pe_callB call_lenU (by rfl) B.f_len (by decide +kernel) (pa_cons (pv 0) pa_nil)) pa_nil)))
    (pss_cons (ps_set (i := 5) nd rfl (Or.inl rfl) pe_int)
    (pss_cons (ps_for PassesOwn.never rfl (pi_range2 (by rfl) B.f_range (pa_cons pe_int (pa_cons (pe_callB call_lenU (by rfl) B.f_len (by decide +kernel) (pa_cons (pv 2) pa_nil)) pa_nil))) (pg_name (i := 6) nd rfl (Or.inl rfl))
    (pss_cons (ps_set (i := 7) nd rfl (Or.inl rfl) (pe_ix ix_seq (pv 2) (pv 6) (fun _ _ => rfl)))
    (pss_cons (ps_set (i := 8) nd rfl (Or.inl rfl) (pe_df 0 G_next_to_bar (hr.mono (by decide)) (by rfl) (pa_cons (pv 1) (pa_cons (pv 4) (pa_cons (pv 5) pa_nil)))))
    (pss_one (ps_if (PW.pt (pw_and (pt_val (pe_df 0 G_has_form (hr.mono (by decide)) (by rfl) (pa_cons (pv 7) (pa_cons (pe_strT (by decide +kernel)) (pa_cons pe_int pa_nil))))) (pw_and (pt_cmpR (op_eqU hu) (pv 5) pe_int (nomark _)) (pw_and1 (pt_val (pe_df 0 G_take_holds (hr.mono (by decide)) (by rfl) (pa_cons (pv 1) (pa_cons (pv 3) (pa_cons (pv 4) (pa_cons (pv 7) pa_nil)))))))))) (pss_one (ps_set (i := 4) nd rfl (Or.inl rfl) (pe_df 0 G_union (hr.mono (by decide)) (by rfl) (pa_cons (pv 4) (pa_cons (pe_df 0 G_lot_of (hr.mono (by decide)) (by rfl) (pa_cons (pe_ix ix_seq (pv 7) pe_int (fun _ _ => rfl)) pa_nil)) pa_nil))))) (pss_one (ps_if (PW.pt (pw_and (pt_val (pe_df 0 G_has_form (hr.mono (by decide)) (by rfl) (pa_cons (pv 7) (pa_cons (pe_strT (by decide +kernel)) (pa_cons pe_int pa_nil))))) (pw_and (pt_cmpR op_notN1 (pv 8) pe_non (nomark _)) (pw_and1 (pt_val (pe_df 0 G_bar_holds (hr.mono (by decide)) (by rfl) (pa_cons (pv 0) (pa_cons (pe_ix ix_seq (pv 1) (pv 8) (fun _ _ => rfl)) (pa_cons (pv 3) (pa_cons (pv 4) (pa_cons (pv 7) pa_nil))))))))))) (pss_one (ps_set (i := 5) nd rfl (Or.inl rfl) (pe_op op_addU (pv 8) pe_int))) (pss_one (ps_if (pt_val (pe_df 0 G_last_holds (hr.mono (by decide)) (by rfl) (pa_cons (pv 1) (pa_cons (pv 3) (pa_cons (pv 4) (pa_cons (pv 5) (pa_cons (pv 7) pa_nil))))))) (pss_one (ps_ret (pe_ifExp (pt_cmpR op_ltU (pe_op op_addU (pv 6) pe_int) (pe_callB call_lenU (by rfl) B.f_len (by decide +kernel) (pa_cons (pv 2) pa_nil)) (nomark _)) (pe_op op_addU (pv 6) pe_int) pe_non))) (pss_one (ps_ret (pv 6))))))))))))
    (pss_one (ps_ret (pe_callB call_lenU (by rfl) B.f_len (by decide +kernel) (pa_cons (pv 2) pa_nil))))))))))

def t_check_seeds (K : PySem.W.Frag) (sp_blank sp_is_row : Sp) : TS := (tSeq (tIfS (tNot (tB (tCB (rIsiT K) (tCons (tVar 1) (tCons (tTup (tCons (tC (.ty "list")) (tCons (tC (.ty "tuple")) tNil))) tNil))))) tNever tNext)
    (tSeq (tIfS (tTest (tOp rGtU (tCB (rLen K) (tCons (tVar 1) tNil)) (tC (.int 30)))) tNever tNext)
    (tSeq (tFor (iEnumS K (tCons (tVar 1) tNil)) (gTup K 2 (gCons (gName 2) (gCons (gName 3) gNil)))
    (tIfS (tOr (tNot (tB (tCall sp_is_row (([] : List V).drop 0) E0 (tCons (tVar 0) (tCons (tVar 3) tNil))))) (tOr (tTest (tOp (rEqU K) (tVar 3) (tCall sp_blank (([] : List V).drop 0) E0 (tCons (tCB (rLen K) (tCons (tVar 0) tNil)) tNil)))) (tTest (tOp (rInU K) (tVar 3) (tSl (rSlU K) (tVar 1) tNoPart (tPart (tVar 2))))))) tNever tNext))
    (tFor (iEnumS K (tCons (tVar 0) tNil)) (gTup K 2 (gCons (gName 2) (gCons (gName 4) gNil)))
    (tIfS (tB (tCB (rAll K) (tCons (tLc (iSrc K (tVar 1)) (gName 3) tYes (tOp (rEqU K) (tOp (rIx K) (tVar 3) (tVar 2)) (tC (.str (T [46])))) [3]) tNil))) tNever tNext)))))

theorem w_check_seeds (B : Bl mg)  {sp_blank : Sp} (G_blank : Df P w K mg base 1 "blank" ["many"] [] sp_blank) {sp_is_row : Sp} (G_is_row : Df P w K mg base 1 "is_row" ["cells", "value"] [] sp_is_row) {f : Addr} {cdv : Value} {A : Around} {outer : List Env} {s : Shared} {H : Hp} {E : XK} (hr : Room 1 (A.deeper (envOfC "check_seeds" (defScope s_check_seeds) s.heap.objs.size f cdv))) :
    PSs (cxOf (L2.CX P w) P w K mg base n_check_seeds "check_seeds" (defScope s_check_seeds) f cdv A outer s H E).nox (defBody s_check_seeds) (t_check_seeds K sp_blank sp_is_row) := by
  have nd := sc_check_seeds.nd
  have hu := hr.units
  have hv := units5 hr
  have h1 := units1 hr
  exact (pss_cons (ps_if (pt_not (pt_val (pe_callB call_isiT (by rfl) B.f_isinstance (by decide +kernel) (pa_cons (pv 1) (pa_cons (pe_tup (pa_cons (pe_bltn (by rfl) B.f_list (by decide +kernel) rfl) (pa_cons (pe_bltn (by rfl) B.f_tuple (by decide +kernel) rfl) pa_nil))) pa_nil))))) (pss_one ps_never) pss_nil)
    (pss_cons (ps_if (pt_cmpR op_gtU (pe_callB call_lenU (by rfl) B.f_len (by decide +kernel) (pa_cons (pv 1) pa_nil)) (pe_globI rfl B.c_MOST_SEEDS) (nomark _)) (pss_one ps_never) pss_nil)
    (pss_cons (ps_for PassesOwn.never rfl (pi_enumS (by rfl) B.f_enumerate (pa_cons (pv 1) pa_nil)) (pg_tup (by rfl) (pgs_cons (pg_name (i := 2) nd rfl (Or.inr rfl)) (pgs_cons (pg_name (i := 3) nd rfl (Or.inl rfl)) pgs_nil)))
    (pss_one (ps_if (PW.pt (pw_or (pt_not (pt_val (pe_df 0 G_is_row (hr.mono (by decide)) (by rfl) (pa_cons (pv 0) (pa_cons (pv 3) pa_nil))))) (pw_or (pt_cmpR (op_eqU hu) (pv 3) (pe_df 0 G_blank (hr.mono (by decide)) (by rfl) (pa_cons (pe_callB call_lenU (by rfl) B.f_len (by decide +kernel) (pa_cons (pv 0) pa_nil)) pa_nil)) (nomark _)) (pw_or1 (pt_cmpR (op_inU hv) (pv 3) (pe_slice sl_U (pv 1) po_none (po_some (pv 2))) (by rfl)))))) (pss_one ps_never) pss_nil)))
    (pss_one (ps_for PassesOwn.never rfl (pi_enumS (by rfl) B.f_enumerate (pa_cons (pv 0) pa_nil)) (pg_tup (by rfl) (pgs_cons (pg_name (i := 2) nd rfl (Or.inr rfl)) (pgs_cons (pg_name (i := 4) nd rfl (Or.inl rfl)) pgs_nil)))
    (pss_one (ps_if (pt_val (pe_callB (cr_all rfl) (by rfl) B.f_all (by decide +kernel) (pa_cons (pe_lc (own := [("seed", 3)]) rfl nd (pi_src (pv 1)) (blkOk_by (own := [("seed", 3)]) (N := n_check_seeds) (sc := defScope s_check_seeds) (by decide +kernel)) (fun _ _ _ _ _ => (pg_name (i := 3) nd rfl (Or.inl rfl))) (fun _ _ _ _ _ => pts_nil) (fun _ _ _ _ _ => (pe_cmpR (op_eqU hu) (pe_ix ix_seq (pv 3) (pv 2) (fun _ _ => rfl)) (pe_strT (by decide +kernel)) (nomark _)))) pa_nil))) (pss_one ps_never) pss_nil)))))))

def t_grown_rows (K : PySem.W.Frag) (sp_over : Sp) : TS := (tSeq (tAsg (tLst (tCons (tVar 1) tNil)) (gName 3))
    (tSeq (tAsg (tDisp [((tVar 1), (tC (.bl true)))]) (gName 4))
    (tSeq (tAsg (tC (.int 0)) (gName 5))
    (tSeq (tWhile (tAnd (tTest (tOp rLtU (tVar 5) (tCB (rLen K) (tCons (tVar 3) tNil)))) (tTest (tOp rLeU (tCB (rLen K) (tCons (tVar 3) tNil)) (tVar 2)))) (tSeq (tFor (iSrc K (tVar 0)) (gName 6)
    (tSeq (tAsg (tCall sp_over (([] : List V).drop 0) E0 (tCons (tVar 6) (tCons (tOp (rIx K) (tVar 3) (tVar 5)) tNil))) (gName 7))
    (tIfS (tB (tDNotIn (tVar 7) (tVar 4))) (tSeq (sDPut (tVar 4) (tVar 7) (tC (.bl true)))
    (tDrop (tBM K "list" rAppend (tVar 3) (tCons (tVar 7) tNil)))) tNext)))
    (tAsg (tOp (rAddU K) (tVar 5) (tC (.int 1))) (gName 5))))
    (tRet (tVar 3))))))

theorem w_grown_rows (B : Bl mg)  {sp_over : Sp} (G_over : Df P w K mg base 1 "over" ["newer", "older"] [] sp_over) {f : Addr} {cdv : Value} {A : Around} {outer : List Env} {s : Shared} {H : Hp} {E : XK} (hr : Room 1 (A.deeper (envOfC "grown_rows" (defScope s_grown_rows) s.heap.objs.size f cdv))) :
    PSs (cxOf (L2.CX P w) P w K mg base n_grown_rows "grown_rows" (defScope s_grown_rows) f cdv A outer s H E).nox (defBody s_grown_rows) (t_grown_rows K sp_over) := by
  have nd := sc_grown_rows.nd
  have hu := hr.units
  have hv := units5 hr
  have h1 := units1 hr
  exact (pss_cons (ps_set (i := 3) nd rfl (Or.inl rfl) (pe_lst (pa_cons (pv 1) pa_nil)))
    (pss_cons (ps_set (i := 4) nd rfl (Or.inl rfl) (pe_disp (pps_cons (pv 1) pe_bl pps_nil) (by rfl) (by rfl) nofun (by decide)))
    (pss_cons (ps_set (i := 5) nd rfl (Or.inl rfl) pe_int)
    (pss_cons (ps_while PassesOwn.never (PW.pt (pw_and (pt_cmpR op_ltU (pv 5) (pe_callB call_lenU (by rfl) B.f_len (by decide +kernel) (pa_cons (pv 3) pa_nil)) (nomark _)) (pw_and1 (pt_cmpR op_leU (pe_callB call_lenU (by rfl) B.f_len (by decide +kernel) (pa_cons (pv 3) pa_nil)) (pv 2) (nomark _))))) (pss_cons (ps_for PassesOwn.never rfl (pi_src (pv 0)) (pg_name (i := 6) nd rfl (Or.inl rfl))
    (pss_cons (ps_set (i := 7) nd rfl (Or.inl rfl) (pe_df 0 G_over (hr.mono (by decide)) (by rfl) (pa_cons (pv 6) (pa_cons (pe_ix ix_seq (pv 3) (pv 5) (fun _ _ => rfl)) pa_nil))))
    (pss_one (ps_if (pt_cmp (pc_dnotin h1 (pv 7) (pv 4)) (by rfl)) (pss_cons (ps_dput h1 (pv 4) (pv 7) pe_bl rfl)
    (pss_one (ps_expr (pe_bm PySem.F.plainAttrs_list PySem.F.slot_list_append PySem.F.type_list_append mt_append (pv 3) (pa_cons (pv 7) pa_nil))))) pss_nil))))
    (pss_one (ps_set (i := 5) nd rfl (Or.inl rfl) (pe_op op_addU (pv 5) pe_int)))))
    (pss_one (ps_ret (pv 3)))))))

def t_Band___init__ (K : PySem.W.Frag) (sp_blank sp_check_cells sp_check_seeds sp_grown_rows sp_is_number sp_lot_of sp_ordered_lots : Sp) : TS := (tSeq (tDrop (tCall sp_check_cells (([] : List V).drop 0) E0 (tCons (tVar 1) tNil)))
    (tSeq (tDrop (tCall sp_check_seeds (([] : List V).drop 0) E0 (tCons (tVar 1) (tCons (tVar 2) tNil))))
    (tSeq (tIfS (tNot (tB (tCall sp_is_number (([] : List V).drop 0) E0 (tCons (tVar 3) (tCons (tC (.int 1)) (tCons (tC (.int 800)) tNil)))))) tNever tNext)
    (tSeq (tAsg (tCall sp_grown_rows (([] : List V).drop 0) E0 (tCons (tVar 2) (tCons (tCall sp_blank (([] : List V).drop 0) E0 (tCons (tCB (rLen K) (tCons (tVar 1) tNil)) tNil)) (tCons (tVar 3) tNil)))) (gName 4))
    (tSeq (tIfS (tTest (tOp rGtU (tCB (rLen K) (tCons (tVar 4) tNil)) (tVar 3))) tNever tNext)
    (tSeq (sFld K (tVar 0) (tCB (rList1 K) (tCons (tVar 1) tNil)) "cell_list")
    (tSeq (sFld K (tVar 0) (tCB (rList1 K) (tCons (tVar 2) tNil)) "seed_list")
    (tSeq (sFld K (tVar 0) (tCB ((rSortedS K)) (tCons (tVar 4) tNil)) "row_list")
    (tSeq (sFld K (tVar 0) (tDc (iSrc K (tVar 4)) (gName 5) tYes (tVar 5) (tC (.bl true)) [5]) "known_rows")
    (sFld K (tVar 0) (tCall sp_ordered_lots (([] : List V).drop 0) E0 (tCons (tLc (iSrc K (tVar 4)) (gName 5) tYes (tCall sp_lot_of (([] : List V).drop 0) E0 (tCons (tVar 5) tNil)) [5]) tNil)) "lot_list"))))))))))

theorem w_Band___init__ (B : Bl mg) (C_Band : ClsF K "Band" fl_Band) {sp_blank : Sp} (G_blank : Df P w K mg base 1 "blank" ["many"] [] sp_blank) {sp_check_cells : Sp} (G_check_cells : Df P w K mg base 2 "check_cells" ["cells"] [] sp_check_cells) {sp_check_seeds : Sp} (G_check_seeds : Df P w K mg base 2 "check_seeds" ["cells", "seeds"] [] sp_check_seeds) {sp_grown_rows : Sp} (G_grown_rows : Df P w K mg base 2 "grown_rows" ["seeds", "first", "most"] [] sp_grown_rows) {sp_is_number : Sp} (G_is_number : Df P w K mg base 1 "is_number" ["value", "least", "most"] [] sp_is_number) {sp_lot_of : Sp} (G_lot_of : Df P w K mg base 1 "lot_of" ["row"] [] sp_lot_of) {sp_ordered_lots : Sp} (G_ordered_lots : Df P w K mg base 4 "ordered_lots" ["lots"] [] sp_ordered_lots) {f : Addr} {cdv : Value} {A : Around} {outer : List Env} {s : Shared} {H : Hp} {E : XK} (hr : Room 4 (A.deeper (envOfC "Band.__init__" (defScope s_Band___init__) s.heap.objs.size f cdv))) :
    PSs (cxOf (L2.CX P w) P w K mg base n_Band___init__ "Band.__init__" (defScope s_Band___init__) f cdv A outer s H E).nox (defBody s_Band___init__) (t_Band___init__ K sp_blank sp_check_cells sp_check_seeds sp_grown_rows sp_is_number sp_lot_of sp_ordered_lots) := by
  have nd := sc_Band___init__.nd
  have hu := hr.units
  have hv := units5 hr
  have h1 := units1 hr
  exact (pss_cons (ps_expr (pe_df 0 G_check_cells (hr.mono (by decide)) (by rfl) (pa_cons (pv 1) pa_nil)))
    (pss_cons (ps_expr (pe_df 0 G_check_seeds (hr.mono (by decide)) (by rfl) (pa_cons (pv 1) (pa_cons (pv 2) pa_nil))))
    (pss_cons (ps_if (pt_not (pt_val (pe_df 0 G_is_number (hr.mono (by decide)) (by rfl) (pa_cons (pv 3) (pa_cons pe_int (pa_cons (pe_globI rfl B.c_MOST_ROWS) pa_nil)))))) (pss_one ps_never) pss_nil)
    (pss_cons (ps_set (i := 4) nd rfl (Or.inl rfl) (pe_df 0 G_grown_rows (hr.mono (by decide)) (by rfl) (pa_cons (pv 2) (pa_cons (pe_df 0 G_blank (hr.mono (by decide)) (by rfl) (pa_cons (pe_callB call_lenU (by rfl) B.f_len (by decide +kernel) (pa_cons (pv 1) pa_nil)) pa_nil)) (pa_cons (pv 3) pa_nil)))))
    (pss_cons (ps_if (pt_cmpR op_gtU (pe_callB call_lenU (by rfl) B.f_len (by decide +kernel) (pa_cons (pv 4) pa_nil)) (pv 3) (nomark _)) (pss_one ps_never) pss_nil)
    (pss_cons (ps_fld (pv 0) (pe_callTy (call_listU rfl) (by rfl) B.f_list (by decide +kernel) (pa_cons (pv 1) pa_nil)) (by rfl))
    (pss_cons (ps_fld (pv 0) (pe_callTy (call_listU rfl) (by rfl) B.f_list (by decide +kernel) (pa_cons (pv 2) pa_nil)) (by rfl))
    (pss_cons (ps_fld (pv 0) (pe_callB cr_sortedS (by rfl) B.f_sorted (by decide +kernel) (pa_cons (pv 4) pa_nil)) (by rfl))
    (pss_cons (ps_fld (pv 0) (pe_dc (own := [("row", 5)]) rfl nd (pi_src (pv 4)) (blkOk_by (own := [("row", 5)]) (N := n_Band___init__) (sc := defScope s_Band___init__) (by decide +kernel)) (fun _ _ _ _ _ => (pg_name (i := 5) nd rfl (Or.inl rfl))) (fun _ _ _ _ _ => pts_nil) (fun _ _ _ _ _ => (pv 5)) (fun _ _ _ _ _ => pe_bl)) (by rfl))
    (pss_one (ps_fld (pv 0) (pe_df 0 G_ordered_lots (hr.mono (by decide)) (by rfl) (pa_cons (pe_lc (own := [("row", 5)]) rfl nd (pi_src (pv 4)) (blkOk_by (own := [("row", 5)]) (N := n_Band___init__) (sc := defScope s_Band___init__) (by decide +kernel)) (fun _ _ _ _ _ => (pg_name (i := 5) nd rfl (Or.inl rfl))) (fun _ _ _ _ _ => pts_nil) (fun _ _ _ _ _ => (pe_df 0 G_lot_of (hr.mono (by decide)) (by rfl) (pa_cons (pv 5) pa_nil)))) pa_nil)) (by rfl))))))))))))

def t_Band_rows (K : PySem.W.Frag) : TS := (tRet (tCB (rList1 K) (tCons (tFld K (tVar 0) "row_list") tNil)))

theorem w_Band_rows (B : Bl mg) (C_Band : ClsF K "Band" fl_Band)  {f : Addr} {cdv : Value} {A : Around} {outer : List Env} {s : Shared} {H : Hp} {E : XK} (hr : Room 0 (A.deeper (envOfC "Band.rows" (defScope s_Band_rows) s.heap.objs.size f cdv))) :
    PSs (cxOf (L2.CX P w) P w K mg base n_Band_rows "Band.rows" (defScope s_Band_rows) f cdv A outer s H E).nox (defBody s_Band_rows) (t_Band_rows K ) := by
  have nd := sc_Band_rows.nd
  have hu := hr.units
  have hv := units5 hr
  have h1 := units1 hr
  exact (pss_one (ps_ret (pe_callTy (call_listU rfl) (by rfl) B.f_list (by decide +kernel) (pa_cons (pe_fld (pv 0) (by rfl)) pa_nil))))

def t_Band_full_rows (K : PySem.W.Frag) : TS := (tRet (tLc (iSrc K (tFld K (tVar 0) "row_list")) (gName 1) (tTest (tOp (rNiU K) (tC (.str (T [46]))) (tVar 1))) (tVar 1) [1]))

theorem w_Band_full_rows (B : Bl mg) (C_Band : ClsF K "Band" fl_Band)  {f : Addr} {cdv : Value} {A : Around} {outer : List Env} {s : Shared} {H : Hp} {E : XK} (hr : Room 0 (A.deeper (envOfC "Band.full_rows" (defScope s_Band_full_rows) s.heap.objs.size f cdv))) :
    PSs (cxOf (L2.CX P w) P w K mg base n_Band_full_rows "Band.full_rows" (defScope s_Band_full_rows) f cdv A outer s H E).nox (defBody s_Band_full_rows) (t_Band_full_rows K ) := by
  have nd := sc_Band_full_rows.nd
  have hu := hr.units
  have hv := units5 hr
  have h1 := units1 hr
  exact (pss_one (ps_ret (pe_lc (own := [("row", 1)]) rfl nd (pi_src (pe_fld (pv 0) (by rfl))) (blkOk_by (own := [("row", 1)]) (N := n_Band_full_rows) (sc := defScope s_Band_full_rows) (by decide +kernel)) (fun _ _ _ _ _ => (pg_name (i := 1) nd rfl (Or.inl rfl))) (fun _ _ _ _ _ => (pts_one (pt_cmpR (op_niU hv) (pe_strT (by decide +kernel)) (pv 1) (by rfl)))) (fun _ _ _ _ _ => (pv 1)))))

def t_Band_lots (K : PySem.W.Frag) : TS := (tRet (tCB (rList1 K) (tCons (tFld K (tVar 0) "lot_list") tNil)))

theorem w_Band_lots (B : Bl mg) (C_Band : ClsF K "Band" fl_Band)  {f : Addr} {cdv : Value} {A : Around} {outer : List Env} {s : Shared} {H : Hp} {E : XK} (hr : Room 0 (A.deeper (envOfC "Band.lots" (defScope s_Band_lots) s.heap.objs.size f cdv))) :
    PSs (cxOf (L2.CX P w) P w K mg base n_Band_lots "Band.lots" (defScope s_Band_lots) f cdv A outer s H E).nox (defBody s_Band_lots) (t_Band_lots K ) := by
  have nd := sc_Band_lots.nd
  have hu := hr.units
  have hv := units5 hr
  have h1 := units1 hr
  exact (pss_one (ps_ret (pe_callTy (call_listU rfl) (by rfl) B.f_list (by decide +kernel) (pa_cons (pe_fld (pv 0) (by rfl)) pa_nil))))

def t_Band_come (K : PySem.W.Frag) (sp_come_coming : Sp) : TS := (tSeq (tIfS (tTest (tOp rIsN (tVar 2) (tC .non))) (tRet (tCall sp_come_coming (([] : List V).drop 0) E0 (tCons (tFld K (tVar 0) "cell_list") (tCons (tFld K (tVar 0) "seed_list") (tCons (tVar 1) tNil))))) tNext)
    (tRet (tCall sp_come_coming (([] : List V).drop 0) E0 (tCons (tFld K (tVar 0) "cell_list") (tCons (tVar 2) (tCons (tVar 1) tNil))))))

theorem w_Band_come (B : Bl mg) (C_Band : ClsF K "Band" fl_Band) {sp_come_coming : Sp} (G_come_coming : Df P w K mg base 5 "come_coming" ["cells", "seeds", "row"] [] sp_come_coming) {f : Addr} {cdv : Value} {A : Around} {outer : List Env} {s : Shared} {H : Hp} {E : XK} (hr : Room 5 (A.deeper (envOfC "Band.come" (defScope s_Band_come) s.heap.objs.size f cdv))) :
    PSs (cxOf (L2.CX P w) P w K mg base n_Band_come "Band.come" (defScope s_Band_come) f cdv A outer s H E).nox (defBody s_Band_come) (t_Band_come K sp_come_coming) := by
  have nd := sc_Band_come.nd
  have hu := hr.units
  have hv := units5 hr
  have h1 := units1 hr
  exact (pss_cons (ps_if (pt_cmpR op_isN1 (pv 2) pe_non (nomark _)) (pss_one (ps_ret (pe_df 0 G_come_coming (hr.mono (by decide)) (by rfl) (pa_cons (pe_fld (pv 0) (by rfl)) (pa_cons (pe_fld (pv 0) (by rfl)) (pa_cons (pv 1) pa_nil)))))) pss_nil)
    (pss_one (ps_ret (pe_df 0 G_come_coming (hr.mono (by decide)) (by rfl) (pa_cons (pe_fld (pv 0) (by rfl)) (pa_cons (pv 2) (pa_cons (pv 1) pa_nil)))))))

def t_Band___contains__ (K : PySem.W.Frag) : TS := (tRet (tAndV (tCB (rIsi K) (tCons (tVar 1) (tCons (tC (.ty "str")) tNil))) (tDIn (tVar 1) (tFld K (tVar 0) "known_rows"))))

theorem w_Band___contains__ (B : Bl mg) (C_Band : ClsF K "Band" fl_Band)  {f : Addr} {cdv : Value} {A : Around} {outer : List Env} {s : Shared} {H : Hp} {E : XK} (hr : Room 0 (A.deeper (envOfC "Band.__contains__" (defScope s_Band___contains__) s.heap.objs.size f cdv))) :
    PSs (cxOf (L2.CX P w) P w K mg base n_Band___contains__ "Band.__contains__" (defScope s_Band___contains__) f cdv A outer s H E).nox (defBody s_Band___contains__) (t_Band___contains__ K ) := by
  have nd := sc_Band___contains__.nd
  have hu := hr.units
  have hv := units5 hr
  have h1 := units1 hr
  exact (pss_one (ps_ret (pe_and (pe_callB call_isi (by rfl) B.f_isinstance (by decide +kernel) (pa_cons (pv 1) (pa_cons (pe_bltn (by rfl) B.f_str (by decide +kernel) rfl) pa_nil))) (pe_one (pe_cmp (pc_din h1 (pv 1) (pe_fld (pv 0) (by rfl))) (by rfl))))))

def t_Band___len__ (K : PySem.W.Frag) : TS := (tRet (tCB (rLen K) (tCons (tFld K (tVar 0) "row_list") tNil)))

theorem w_Band___len__ (B : Bl mg) (C_Band : ClsF K "Band" fl_Band)  {f : Addr} {cdv : Value} {A : Around} {outer : List Env} {s : Shared} {H : Hp} {E : XK} (hr : Room 0 (A.deeper (envOfC "Band.__len__" (defScope s_Band___len__) s.heap.objs.size f cdv))) :
    PSs (cxOf (L2.CX P w) P w K mg base n_Band___len__ "Band.__len__" (defScope s_Band___len__) f cdv A outer s H E).nox (defBody s_Band___len__) (t_Band___len__ K ) := by
  have nd := sc_Band___len__.nd
  have hu := hr.units
  have hv := units5 hr
  have h1 := units1 hr
  exact (pss_one (ps_ret (pe_callB call_lenU (by rfl) B.f_len (by decide +kernel) (pa_cons (pe_fld (pv 0) (by rfl)) pa_nil))))

def t__law_bag (K : PySem.W.Frag) : TS := (tSeq (tAsg (tC (.int 42012)) (gName 1))
    (tSeq (tFor (iSrc K (tSl (rSlU K) (tVar 0) tNoPart (tPart (tC (.int 63))))) (gName 2)
    (tAsg (tOp rModU (tCB (rInt1) (tCons (tOp (rAddU K) (tOp (rAddU K) (tOp rMulU (tVar 1) (tC (.int 40692))) (tOp rMulU (tOp rModU (tCB (rInt1) (tCons (tVar 2) tNil)) (tC (.int 999983))) (tC (.int 617)))) (tC (.int 71))) tNil)) (tC (.int 2147483399))) (gName 1)))
    (tRet (tLst (tCons (tCB (rList1 K) (tCons (tSl (rSlU K) (tVar 0) tNoPart (tPart (tC (.int 63)))) tNil)) (tCons (tC (.int 0)) (tCons (tC (.int 0)) (tCons (tVar 1) (tCons (tC (.int 0)) tNil)))))))))

theorem w__law_bag (B : Bl mg)   {f : Addr} {cdv : Value} {A : Around} {outer : List Env} {s : Shared} {H : Hp} {E : XK} (hr : Room 0 (A.deeper (envOfC "_law_bag" (defScope s__law_bag) s.heap.objs.size f cdv))) :
    PSs (cxOf (L2.CX P w) P w K mg base n__law_bag "_law_bag" (defScope s__law_bag) f cdv A outer s H E).nox (defBody s__law_bag) (t__law_bag K ) := by
  have nd := sc__law_bag.nd
  have hu := hr.units
  have hv := units5 hr
  have h1 := units1 hr
  exact (pss_cons (ps_set (i := 1) nd rfl (Or.inl rfl) pe_int)
    (pss_cons (ps_for PassesOwn.never rfl (pi_src (pe_slice sl_U (pv 0) po_none (po_some pe_int))) (pg_name (i := 2) nd rfl (Or.inl rfl))
    (pss_one (ps_set (i := 1) nd rfl (Or.inl rfl) (pe_op op_modU (pe_callTy call_intU (by rfl) B.f_int (by decide +kernel) (pa_cons (pe_op op_addU (pe_op op_addU (pe_op op_mulU (pv 1) pe_int) (pe_op op_mulU (pe_op op_modU (pe_callTy call_intU (by rfl) B.f_int (by decide +kernel) (pa_cons (pv 2) pa_nil)) pe_int) pe_int)) pe_int) pa_nil)) pe_int))))
    (pss_one (ps_ret (pe_lst (pa_cons (pe_callTy (call_listU rfl) (by rfl) B.f_list (by decide +kernel) (pa_cons (pe_slice sl_U (pv 0) po_none (po_some pe_int)) pa_nil)) (pa_cons pe_int (pa_cons pe_int (pa_cons (pv 1) (pa_cons pe_int pa_nil))))))))))

def t__law_draw (K : PySem.W.Frag) : TS := (tSeq (tAsg (tOp (rAddU K) (tOp (rIx K) (tVar 0) (tC (.int 4))) (tC (.int 1))) (gSub (tVar 0) (tC (.int 4)) rSetL))
    (tSeq (tIfS (tAnd (tTest (tOp (rEqU K) (tOp (rIx K) (tVar 0) (tC (.int 2))) (tC (.int 0)))) (tTest (tOp rLtU (tOp (rIx K) (tVar 0) (tC (.int 1))) (tCB (rLen K) (tCons (tOp (rIx K) (tVar 0) (tC (.int 0))) tNil))))) (tSeq (tAsg (tCB (rAbs) (tCons (tCB (rInt1) (tCons (tOp (rIx K) (tOp (rIx K) (tVar 0) (tC (.int 0))) (tOp (rIx K) (tVar 0) (tC (.int 1)))) tNil)) tNil)) (gName 2))
    (tSeq (tAsg (tOp (rAddU K) (tOp (rIx K) (tVar 0) (tC (.int 1))) (tC (.int 1))) (gSub (tVar 0) (tC (.int 1)) rSetL))
    (tIfS (tTest (tOp rGeU (tVar 2) (tOp rPowU (tC (.int 10)) (tC (.int 18))))) (tAsg (tVar 2) (gSub (tVar 0) (tC (.int 2)) rSetL)) (tAsg (tOp rModU (tCB (rInt1) (tCons (tOp (rAddU K) (tOp (rAddU K) (tOp rMulU (tOp (rIx K) (tVar 0) (tC (.int 3))) (tC (.int 39373))) (tOp rMulU (tOp rModU (tVar 2) (tC (.int 999983))) (tC (.int 823)))) (tC (.int 37))) tNil)) (tC (.int 2147483563))) (gSub (tVar 0) (tC (.int 3)) rSetL))))) tNext)
    (tSeq (tIfS (tTest (tOp rGtU (tOp (rIx K) (tVar 0) (tC (.int 2))) (tC (.int 0)))) (tSeq (tAsg (tOp rModU (tCB (rInt1) (tCons (tOp (rIx K) (tVar 0) (tC (.int 2))) tNil)) (tVar 1)) (gName 3))
    (tSeq (tAsg (tOp rDivU (tOp (rIx K) (tVar 0) (tC (.int 2))) (tVar 1)) (gSub (tVar 0) (tC (.int 2)) rSetL))
    (tRet (tVar 3)))) tNext)
    (tSeq (tAsg (tCB (rInt1) (tCons (tOp (rIx K) (tVar 0) (tC (.int 3))) tNil)) (gName 4))
    (tSeq (tAsg (tOp rModU (tCB (rInt1) (tCons (tOp (rAddU K) (tOp (rAddU K) (tOp (rAddU K) (tOp rMulU (tOp rMulU (tVar 4) (tVar 4)) (tC (.int 23))) (tOp rMulU (tVar 4) (tC (.int 46021)))) (tOp rMulU (tOp (rIx K) (tVar 0) (tC (.int 4))) (tC (.int 104729)))) (tC (.int 60013))) tNil)) (tC (.int 2147483543))) (gSub (tVar 0) (tC (.int 3)) rSetL))
    (tRet (tOp rModU (tCB (rInt1) (tCons (tOp (rAddU K) (tOp rDivU (tOp (rIx K) (tVar 0) (tC (.int 3))) (tC (.int 67))) (tOp rMulU (tOp rModU (tCB (rInt1) (tCons (tOp (rIx K) (tVar 0) (tC (.int 3))) tNil)) (tC (.int 8009))) (tC (.int 61)))) tNil)) (tVar 1))))))))

theorem w__law_draw (B : Bl mg)   {f : Addr} {cdv : Value} {A : Around} {outer : List Env} {s : Shared} {H : Hp} {E : XK} (hr : Room 0 (A.deeper (envOfC "_law_draw" (defScope s__law_draw) s.heap.objs.size f cdv))) :
    PSs (cxOf (L2.CX P w) P w K mg base n__law_draw "_law_draw" (defScope s__law_draw) f cdv A outer s H E).nox (defBody s__law_draw) (t__law_draw K ) := by
  have nd := sc__law_draw.nd
  have hu := hr.units
  have hv := units5 hr
  have h1 := units1 hr
  exact (pss_cons (ps_asg (pe_op op_addU (pe_ix ix_seq (pv 0) pe_int (fun _ _ => rfl)) pe_int) (pg_sub (pv 0) pe_int set_list))
    (pss_cons (ps_if (PW.pt (pw_and (pt_cmpR (op_eqU hu) (pe_ix ix_seq (pv 0) pe_int (fun _ _ => rfl)) pe_int (nomark _)) (pw_and1 (pt_cmpR op_ltU (pe_ix ix_seq (pv 0) pe_int (fun _ _ => rfl)) (pe_callB call_lenU (by rfl) B.f_len (by decide +kernel) (pa_cons (pe_ix ix_seq (pv 0) pe_int (fun _ _ => rfl)) pa_nil)) (nomark _))))) (pss_cons (ps_set (i := 2) nd rfl (Or.inl rfl) (pe_callB call_absU (by rfl) B.f_abs (by decide +kernel) (pa_cons (pe_callTy call_intU (by rfl) B.f_int (by decide +kernel) (pa_cons (pe_ix ix_seq (pe_ix ix_seq (pv 0) pe_int (fun _ _ => rfl)) (pe_ix ix_seq (pv 0) pe_int (fun _ _ => rfl)) (fun _ _ => rfl)) pa_nil)) pa_nil)))
    (pss_cons (ps_asg (pe_op op_addU (pe_ix ix_seq (pv 0) pe_int (fun _ _ => rfl)) pe_int) (pg_sub (pv 0) pe_int set_list))
    (pss_one (ps_if (pt_cmpR op_geU (pv 2) (pe_op op_powU pe_int pe_int) (nomark _)) (pss_one (ps_asg (pv 2) (pg_sub (pv 0) pe_int set_list))) (pss_one (ps_asg (pe_op op_modU (pe_callTy call_intU (by rfl) B.f_int (by decide +kernel) (pa_cons (pe_op op_addU (pe_op op_addU (pe_op op_mulU (pe_ix ix_seq (pv 0) pe_int (fun _ _ => rfl)) pe_int) (pe_op op_mulU (pe_op op_modU (pv 2) pe_int) pe_int)) pe_int) pa_nil)) pe_int) (pg_sub (pv 0) pe_int set_list))))))) pss_nil)
    (pss_cons (ps_if (pt_cmpR op_gtU (pe_ix ix_seq (pv 0) pe_int (fun _ _ => rfl)) pe_int (nomark _)) (pss_cons (ps_set (i := 3) nd rfl (Or.inl rfl) (pe_op op_modU (pe_callTy call_intU (by rfl) B.f_int (by decide +kernel) (pa_cons (pe_ix ix_seq (pv 0) pe_int (fun _ _ => rfl)) pa_nil)) (pv 1)))
    (pss_cons (ps_asg (pe_op op_divU (pe_ix ix_seq (pv 0) pe_int (fun _ _ => rfl)) (pv 1)) (pg_sub (pv 0) pe_int set_list))
    (pss_one (ps_ret (pv 3))))) pss_nil)
    (pss_cons (ps_set (i := 4) nd rfl (Or.inl rfl) (pe_callTy call_intU (by rfl) B.f_int (by decide +kernel) (pa_cons (pe_ix ix_seq (pv 0) pe_int (fun _ _ => rfl)) pa_nil)))
    (pss_cons (ps_asg (pe_op op_modU (pe_callTy call_intU (by rfl) B.f_int (by decide +kernel) (pa_cons (pe_op op_addU (pe_op op_addU (pe_op op_addU (pe_op op_mulU (pe_op op_mulU (pv 4) (pv 4)) pe_int) (pe_op op_mulU (pv 4) pe_int)) (pe_op op_mulU (pe_ix ix_seq (pv 0) pe_int (fun _ _ => rfl)) pe_int)) pe_int) pa_nil)) pe_int) (pg_sub (pv 0) pe_int set_list))
    (pss_one (ps_ret (pe_op op_modU (pe_callTy call_intU (by rfl) B.f_int (by decide +kernel) (pa_cons (pe_op op_addU (pe_op op_divU (pe_ix ix_seq (pv 0) pe_int (fun _ _ => rfl)) pe_int) (pe_op op_mulU (pe_op op_modU (pe_callTy call_intU (by rfl) B.f_int (by decide +kernel) (pa_cons (pe_ix ix_seq (pv 0) pe_int (fun _ _ => rfl)) pa_nil)) pe_int) pe_int)) pa_nil)) (pv 1)))))))))

def t__law_of (K : PySem.W.Frag) (sp__law_draw : Sp) : TS := (tRet (tOp (rIx K) (tVar 1) (tCall sp__law_draw (([] : List V).drop 0) E0 (tCons (tVar 0) (tCons (tCB (rLen K) (tCons (tVar 1) tNil)) tNil)))))

theorem w__law_of (B : Bl mg)  {sp__law_draw : Sp} (G__law_draw : Df P w K mg base 1 "_law_draw" ["_law_bag_here", "_law_sides"] [] sp__law_draw) {f : Addr} {cdv : Value} {A : Around} {outer : List Env} {s : Shared} {H : Hp} {E : XK} (hr : Room 1 (A.deeper (envOfC "_law_of" (defScope s__law_of) s.heap.objs.size f cdv))) :
    PSs (cxOf (L2.CX P w) P w K mg base n__law_of "_law_of" (defScope s__law_of) f cdv A outer s H E).nox (defBody s__law_of) (t__law_of K sp__law_draw) := by
  have nd := sc__law_of.nd
  have hu := hr.units
  have hv := units5 hr
  have h1 := units1 hr
  exact (pss_one (ps_ret (pe_ix ix_seq (pv 1) (pe_df 0 G__law_draw (hr.mono (by decide)) (by rfl) (pa_cons (pv 0) (pa_cons (pe_callB call_lenU (by rfl) B.f_len (by decide +kernel) (pa_cons (pv 1) pa_nil)) pa_nil))) (fun _ _ => rfl))))

def t__law_same (K : PySem.W.Frag) (sp__law_same : Sp) : TS := (tSeq (tIfS (tOr (tTest (tOp rIsN (tVar 1) (tC .non))) (tTest (tOp rIsN (tVar 0) (tC .non)))) (tRet (tAndV (tOp rIsN (tVar 1) (tC .non)) (tOp rIsN (tVar 0) (tC .non)))) tNext)
    (tSeq (tIfS (tB (tCB (rIsiT K) (tCons (tVar 1) (tCons (tTup (tCons (tC (.ty "list")) (tCons (tC (.ty "tuple")) tNil))) tNil)))) (tSeq (tIfS (tOr (tTest (tOp (rNeU K) (tCB (rIsi K) (tCons (tVar 0) (tCons (tC (.ty "list")) tNil))) (tCB (rIsi K) (tCons (tVar 1) (tCons (tC (.ty "list")) tNil))))) (tTest (tOp (rNeU K) (tCB (rIsi K) (tCons (tVar 0) (tCons (tC (.ty "tuple")) tNil))) (tCB (rIsi K) (tCons (tVar 1) (tCons (tC (.ty "tuple")) tNil)))))) (tRet (tC (.bl false))) tNext)
    (tRet (tAndV (tOp (rEqU K) (tCB (rLen K) (tCons (tVar 0) tNil)) (tCB (rLen K) (tCons (tVar 1) tNil))) (tCB (rAll K) (tCons (tLc (iZipS K (tCons (tVar 0) (tCons (tVar 1) tNil))) (gTup K 2 (gCons (gName 3) (gCons (gName 4) gNil))) tYes (tCall sp__law_same (([] : List V).drop 0) E0 (tCons (tVar 3) (tCons (tVar 4) tNil))) [3, 4]) tNil))))) tNext)
    (tSeq (tIfS (tB (tCB (rIsi K) (tCons (tVar 1) (tCons (tC (.ty "dict")) tNil)))) (tSeq (tIfS (tOr (tNot (tB (tCB (rIsi K) (tCons (tVar 0) (tCons (tC (.ty "dict")) tNil))))) (tNot (tB (tCall sp__law_same (([] : List V).drop 0) E0 (tCons (tCB (rList1 K) (tCons (tVar 0) tNil)) (tCons (tCB (rList1 K) (tCons (tVar 1) tNil)) tNil)))))) (tRet (tC (.bl false))) tNext)
    (tRet (tCB (rAll K) (tCons (tLc (iSrc K (tCB (rList1 K) (tCons (tVar 1) tNil))) (gName 2) tYes (tCall sp__law_same (([] : List V).drop 0) E0 (tCons (tDGet (tVar 0) (tVar 2)) (tCons (tDGet (tVar 1) (tVar 2)) tNil))) [2]) tNil)))) tNext)
    (tSeq (tIfS (tOr (tTest (tOp (rNeU K) (tCB (rIsi K) (tCons (tVar 1) (tCons (tC (.ty "bool")) tNil))) (tCB (rIsi K) (tCons (tVar 0) (tCons (tC (.ty "bool")) tNil))))) (tTest (tOp (rNeU K) (tCB (rIsi K) (tCons (tVar 1) (tCons (tC (.ty "int")) tNil))) (tCB (rIsi K) (tCons (tVar 0) (tCons (tC (.ty "int")) tNil)))))) (tRet (tC (.bl false))) tNext)
    (tRet (tAndV (tOp (rEqU K) (tCB (rIsi K) (tCons (tVar 1) (tCons (tC (.ty "str")) tNil))) (tCB (rIsi K) (tCons (tVar 0) (tCons (tC (.ty "str")) tNil)))) (tOp (rEqU K) (tVar 0) (tVar 1))))))))

theorem w__law_same {kk : Nat} (B : Bl mg)  {sp__law_same : Sp} (G__law_same : Df P w K mg base kk "_law_same" ["_law_found", "_law_due"] [] sp__law_same) {f : Addr} {cdv : Value} {A : Around} {outer : List Env} {s : Shared} {H : Hp} {E : XK} (hr : Room kk (A.deeper (envOfC "_law_same" (defScope s__law_same) s.heap.objs.size f cdv))) :
    PSs (cxOf (L2.CX P w) P w K mg base n__law_same "_law_same" (defScope s__law_same) f cdv A outer s H E).nox (defBody s__law_same) (t__law_same K sp__law_same) := by
  have nd := sc__law_same.nd
  have hu := hr.units
  have hv := units5 hr
  have h1 := units1 hr
  exact (pss_cons (ps_if (PW.pt (pw_or (pt_cmpR op_isN1 (pv 1) pe_non (nomark _)) (pw_or1 (pt_cmpR op_isN1 (pv 0) pe_non (nomark _))))) (pss_one (ps_ret (pe_and (pe_cmpR op_isN1 (pv 1) pe_non (nomark _)) (pe_one (pe_cmpR op_isN1 (pv 0) pe_non (nomark _)))))) pss_nil)
    (pss_cons (ps_if (pt_val (pe_callB call_isiT (by rfl) B.f_isinstance (by decide +kernel) (pa_cons (pv 1) (pa_cons (pe_tup (pa_cons (pe_bltn (by rfl) B.f_list (by decide +kernel) rfl) (pa_cons (pe_bltn (by rfl) B.f_tuple (by decide +kernel) rfl) pa_nil))) pa_nil)))) (pss_cons (ps_if (PW.pt (pw_or (pt_cmpR (op_neU hu) (pe_callB call_isi (by rfl) B.f_isinstance (by decide +kernel) (pa_cons (pv 0) (pa_cons (pe_bltn (by rfl) B.f_list (by decide +kernel) rfl) pa_nil))) (pe_callB call_isi (by rfl) B.f_isinstance (by decide +kernel) (pa_cons (pv 1) (pa_cons (pe_bltn (by rfl) B.f_list (by decide +kernel) rfl) pa_nil))) (nomark _)) (pw_or1 (pt_cmpR (op_neU hu) (pe_callB call_isi (by rfl) B.f_isinstance (by decide +kernel) (pa_cons (pv 0) (pa_cons (pe_bltn (by rfl) B.f_tuple (by decide +kernel) rfl) pa_nil))) (pe_callB call_isi (by rfl) B.f_isinstance (by decide +kernel) (pa_cons (pv 1) (pa_cons (pe_bltn (by rfl) B.f_tuple (by decide +kernel) rfl) pa_nil))) (nomark _))))) (pss_one (ps_ret pe_bl)) pss_nil)
    (pss_one (ps_ret (pe_and (pe_cmpR (op_eqU hu) (pe_callB call_lenU (by rfl) B.f_len (by decide +kernel) (pa_cons (pv 0) pa_nil)) (pe_callB call_lenU (by rfl) B.f_len (by decide +kernel) (pa_cons (pv 1) pa_nil)) (nomark _)) (pe_one (pe_callB (cr_all rfl) (by rfl) B.f_all (by decide +kernel) (pa_cons (pe_lc (own := [("_law_x", 3), ("_law_y", 4)]) rfl nd (pi_zipS (by rfl) B.f_zip (pa_cons (pv 0) (pa_cons (pv 1) pa_nil))) (blkOk_by (own := [("_law_x", 3), ("_law_y", 4)]) (N := n__law_same) (sc := defScope s__law_same) (by decide +kernel)) (fun _ _ _ _ _ => (pg_tup (by rfl) (pgs_cons (pg_name (i := 3) nd rfl (Or.inl rfl)) (pgs_cons (pg_name (i := 4) nd rfl (Or.inl rfl)) pgs_nil)))) (fun _ _ _ _ _ => pts_nil) (fun _ _ _ _ _ => (pe_df 0 G__law_same (hr.mono (Nat.le_refl _)) (by rfl) (pa_cons (pv 3) (pa_cons (pv 4) pa_nil))))) pa_nil))))))) pss_nil)
    (pss_cons (ps_if (pt_val (pe_callB call_isi (by rfl) B.f_isinstance (by decide +kernel) (pa_cons (pv 1) (pa_cons (pe_bltn (by rfl) B.f_dict (by decide +kernel) rfl) pa_nil)))) (pss_cons (ps_if (PW.pt (pw_or (pt_not (pt_val (pe_callB call_isi (by rfl) B.f_isinstance (by decide +kernel) (pa_cons (pv 0) (pa_cons (pe_bltn (by rfl) B.f_dict (by decide +kernel) rfl) pa_nil))))) (pw_or1 (pt_not (pt_val (pe_df 0 G__law_same (hr.mono (Nat.le_refl _)) (by rfl) (pa_cons (pe_callTy (call_listU rfl) (by rfl) B.f_list (by decide +kernel) (pa_cons (pv 0) pa_nil)) (pa_cons (pe_callTy (call_listU rfl) (by rfl) B.f_list (by decide +kernel) (pa_cons (pv 1) pa_nil)) pa_nil)))))))) (pss_one (ps_ret pe_bl)) pss_nil)
    (pss_one (ps_ret (pe_callB (cr_all rfl) (by rfl) B.f_all (by decide +kernel) (pa_cons (pe_lc (own := [("_law_mark", 2)]) rfl nd (pi_src (pe_callTy (call_listU rfl) (by rfl) B.f_list (by decide +kernel) (pa_cons (pv 1) pa_nil))) (blkOk_by (own := [("_law_mark", 2)]) (N := n__law_same) (sc := defScope s__law_same) (by decide +kernel)) (fun _ _ _ _ _ => (pg_name (i := 2) nd rfl (Or.inl rfl))) (fun _ _ _ _ _ => pts_nil) (fun _ _ _ _ _ => (pe_df 0 G__law_same (hr.mono (Nat.le_refl _)) (by rfl) (pa_cons (pe_dget h1 (pv 0) (pv 2) (fun _ _ => rfl)) (pa_cons (pe_dget h1 (pv 1) (pv 2) (fun _ _ => rfl)) pa_nil))))) pa_nil))))) pss_nil)
    (pss_cons (ps_if (PW.pt (pw_or (pt_cmpR (op_neU hu) (pe_callB call_isi (by rfl) B.f_isinstance (by decide +kernel) (pa_cons (pv 1) (pa_cons (pe_bltn (by rfl) B.f_bool (by decide +kernel) rfl) pa_nil))) (pe_callB call_isi (by rfl) B.f_isinstance (by decide +kernel) (pa_cons (pv 0) (pa_cons (pe_bltn (by rfl) B.f_bool (by decide +kernel) rfl) pa_nil))) (nomark _)) (pw_or1 (pt_cmpR (op_neU hu) (pe_callB call_isi (by rfl) B.f_isinstance (by decide +kernel) (pa_cons (pv 1) (pa_cons (pe_bltn (by rfl) B.f_int (by decide +kernel) rfl) pa_nil))) (pe_callB call_isi (by rfl) B.f_isinstance (by decide +kernel) (pa_cons (pv 0) (pa_cons (pe_bltn (by rfl) B.f_int (by decide +kernel) rfl) pa_nil))) (nomark _))))) (pss_one (ps_ret pe_bl)) pss_nil)
    (pss_one (ps_ret (pe_and (pe_cmpR (op_eqU hu) (pe_callB call_isi (by rfl) B.f_isinstance (by decide +kernel) (pa_cons (pv 1) (pa_cons (pe_bltn (by rfl) B.f_str (by decide +kernel) rfl) pa_nil))) (pe_callB call_isi (by rfl) B.f_isinstance (by decide +kernel) (pa_cons (pv 0) (pa_cons (pe_bltn (by rfl) B.f_str (by decide +kernel) rfl) pa_nil))) (nomark _)) (pe_one (pe_cmpR (op_eqU hu) (pv 0) (pv 1) (nomark _))))))))))

def t__law_title (K : PySem.W.Frag) (sp__law_draw sp__law_of : Sp) : TS := (tSeq (tIfS (tTest (tOp (rEqU K) (tCall sp__law_draw (([] : List V).drop 0) E0 (tCons (tVar 0) (tCons (tC (.int 8)) tNil))) (tC (.int 0)))) (tAsg (tCall sp__law_of (([] : List V).drop 0) E0 (tCons (tVar 0) (tCons (tLst (tCons (tC (.str (T [115, 101, 108, 102]))) (tCons (tC (.str (T [99, 101, 108, 108]))) (tCons (tC (.str (T [115, 101, 101, 100]))) (tCons (tC (.str (T [114, 111, 119]))) (tCons (tC (.str (T [97, 97]))) (tCons (tC (.str (T [98, 97, 110, 100]))) (tCons (tC (.str (T [122, 122, 122, 122, 122, 122]))) (tCons (tC (.str (T [109, 111, 115, 116]))) (tCons (tC (.str (T [109, 97, 100, 101]))) tNil)))))))))) tNil))) (gName 2)) (tAsg (tM1 (rJoin K) (tC (.str (T []))) (tLc (iRng1 (tCons (tOp (rAddU K) (tC (.int 1)) (tCall sp__law_draw (([] : List V).drop 0) E0 (tCons (tVar 0) (tCons (tC (.int 6)) tNil)))) tNil)) (gName 3) tYes (tCall sp__law_of (([] : List V).drop 0) E0 (tCons (tVar 0) (tCons (tC (.str (T [113, 119, 101, 114, 116, 122, 117, 105, 111, 112, 97, 115, 100, 102, 103, 104, 106, 107, 108, 121, 120, 99, 118, 98, 110, 109]))) tNil))) [3])) (gName 2)))
    (tSeq (tIfS (tTest (tOp (rInU K) (tVar 2) (tVar 1))) (tAsg (tOp (rIx K) (tLc (iSrc K (tC (.str (T [109, 110, 98, 118, 99, 120, 121, 108, 107, 106, 104, 103, 102, 100, 115, 97, 112, 111, 105, 117, 122, 116, 114, 101, 119, 113])))) (gName 4) (tTest (tOp (rNiU K) (tVar 4) (tVar 1))) (tVar 4) [4]) (tC (.int 0))) (gName 2)) tNext)
    (tRet (tVar 2))))

theorem w__law_title (B : Bl mg)  {sp__law_draw : Sp} (G__law_draw : Df P w K mg base 1 "_law_draw" ["_law_bag_here", "_law_sides"] [] sp__law_draw) {sp__law_of : Sp} (G__law_of : Df P w K mg base 2 "_law_of" ["_law_bag_here", "_law_things"] [] sp__law_of) {f : Addr} {cdv : Value} {A : Around} {outer : List Env} {s : Shared} {H : Hp} {E : XK} (hr : Room 2 (A.deeper (envOfC "_law_title" (defScope s__law_title) s.heap.objs.size f cdv))) :
    PSs (cxOf (L2.CX P w) P w K mg base n__law_title "_law_title" (defScope s__law_title) f cdv A outer s H E).nox (defBody s__law_title) (t__law_title K sp__law_draw sp__law_of) := by
  have nd := sc__law_title.nd
  have hu := hr.units
  have hv := units5 hr
  have h1 := units1 hr
  exact (pss_cons (ps_if (pt_cmpR (op_eqU hu) (pe_df 0 G__law_draw (hr.mono (by decide)) (by rfl) (pa_cons (pv 0) (pa_cons pe_int pa_nil))) pe_int (nomark _)) (pss_one (ps_set (i := 2) nd rfl (Or.inl rfl) (pe_df 0 G__law_of (hr.mono (by decide)) (by rfl) (pa_cons (pv 0) (pa_cons (pe_lst (pa_cons (pe_strT (by decide +kernel)) (pa_cons (pe_strT (by decide +kernel)) (pa_cons (pe_strT (by decide +kernel)) (pa_cons (pe_strT (by decide +kernel)) (pa_cons (pe_strT (by decide +kernel)) (pa_cons (pe_strT (by decide +kernel)) (pa_cons (pe_strT (by decide +kernel)) (pa_cons (pe_strT (by decide +kernel)) (pa_cons (pe_strT (by decide +kernel)) pa_nil)))))))))) pa_nil))))) (pss_one (ps_set (i := 2) nd rfl (Or.inl rfl) (pe_joinU (pe_strT (by decide +kernel)) (pe_lc (own := [("_law_k", 3)]) rfl nd (pi_range1 (by rfl) B.f_range (pa_cons (pe_op op_addU pe_int (pe_df 0 G__law_draw (hr.mono (by decide)) (by rfl) (pa_cons (pv 0) (pa_cons pe_int pa_nil)))) pa_nil)) (blkOk_by (own := [("_law_k", 3)]) (N := n__law_title) (sc := defScope s__law_title) (by decide +kernel)) (fun _ _ _ _ _ => (pg_name (i := 3) nd rfl (Or.inl rfl))) (fun _ _ _ _ _ => pts_nil) (fun _ _ _ _ _ => (pe_df 0 G__law_of (hr.mono (by decide)) (by rfl) (pa_cons (pv 0) (pa_cons (pe_strT (by decide +kernel)) pa_nil)))))))))
    (pss_cons (ps_if (pt_cmpR (op_inU hv) (pv 2) (pv 1) (by rfl)) (pss_one (ps_set (i := 2) nd rfl (Or.inl rfl) (pe_ix ix_seq (pe_lc (own := [("_law_sign", 4)]) rfl nd (pi_src (pe_strT (by decide +kernel))) (blkOk_by (own := [("_law_sign", 4)]) (N := n__law_title) (sc := defScope s__law_title) (by decide +kernel)) (fun _ _ _ _ _ => (pg_name (i := 4) nd rfl (Or.inl rfl))) (fun _ _ _ _ _ => (pts_one (pt_cmpR (op_niU hv) (pv 4) (pv 1) (by rfl)))) (fun _ _ _ _ _ => (pv 4))) pe_int (fun _ _ => rfl)))) pss_nil)
    (pss_one (ps_ret (pv 2)))))

def t__law_frame (K : PySem.W.Frag) (sp__law_draw sp__law_title : Sp) : TS := (tSeq (tPar 3 4 (tCons (tLst tNil) (tCons (tLst tNil) tNil)))
    (tSeq (tFor (iRng1 (tCons (tVar 1) tNil)) (gName 5)
    (tSeq (tDrop (tBM K "list" rAppend (tVar 4) (tCons (tCall sp__law_title (([] : List V).drop 0) E0 (tCons (tVar 0) (tCons (tVar 4) tNil))) tNil)))
    (tDrop (tBM K "list" rAppend (tVar 3) (tCons (tTup (tCons (tOp (rIx K) (tVar 4) (tUn rNegU (tC (.int 1)))) (tCons (tOp (rAddU K) (tC (.int 1)) (tCall sp__law_draw (([] : List V).drop 0) E0 (tCons (tVar 0) (tCons (tVar 2) tNil)))) tNil))) tNil)))))
    (tRet (tVar 3))))

theorem w__law_frame (B : Bl mg)  {sp__law_draw : Sp} (G__law_draw : Df P w K mg base 1 "_law_draw" ["_law_bag_here", "_law_sides"] [] sp__law_draw) {sp__law_title : Sp} (G__law_title : Df P w K mg base 3 "_law_title" ["_law_bag_here", "_law_taken"] [] sp__law_title) {f : Addr} {cdv : Value} {A : Around} {outer : List Env} {s : Shared} {H : Hp} {E : XK} (hr : Room 3 (A.deeper (envOfC "_law_frame" (defScope s__law_frame) s.heap.objs.size f cdv))) :
    PSs (cxOf (L2.CX P w) P w K mg base n__law_frame "_law_frame" (defScope s__law_frame) f cdv A outer s H E).nox (defBody s__law_frame) (t__law_frame K sp__law_draw sp__law_title) := by
  have nd := sc__law_frame.nd
  have hu := hr.units
  have hv := units5 hr
  have h1 := units1 hr
  exact (pss_cons (ps_par (i := 3) (j := 4) (by rfl) nd rfl rfl (by decide) rfl rfl (pa_cons (pe_lst pa_nil) (pa_cons (pe_lst pa_nil) pa_nil)) (by rfl))
    (pss_cons (ps_for PassesOwn.never rfl (pi_range1 (by rfl) B.f_range (pa_cons (pv 1) pa_nil)) (pg_name (i := 5) nd rfl (Or.inl rfl))
    (pss_cons (ps_expr (pe_bm PySem.F.plainAttrs_list PySem.F.slot_list_append PySem.F.type_list_append mt_append (pv 4) (pa_cons (pe_df 0 G__law_title (hr.mono (by decide)) (by rfl) (pa_cons (pv 0) (pa_cons (pv 4) pa_nil))) pa_nil)))
    (pss_one (ps_expr (pe_bm PySem.F.plainAttrs_list PySem.F.slot_list_append PySem.F.type_list_append mt_append (pv 3) (pa_cons (pe_tup (pa_cons (pe_ix ix_seq (pv 4) (pe_un un_negU pe_int) (fun _ _ => rfl)) (pa_cons (pe_op op_addU pe_int (pe_df 0 G__law_draw (hr.mono (by decide)) (by rfl) (pa_cons (pv 0) (pa_cons (pv 2) pa_nil)))) pa_nil))) pa_nil))))))
    (pss_one (ps_ret (pv 3)))))

def t__law_row (K : PySem.W.Frag) (sp__law_draw : Sp) : TS := (tRet (tM1 (rJoin K) (tC (.str (T []))) (tLc (iSrc K (tVar 1)) (gName 3) tYes (tIf (tTest (tOp rLtU (tCall sp__law_draw (([] : List V).drop 0) E0 (tCons (tVar 0) (tCons (tC (.int 5)) tNil))) (tVar 2))) (tC (.str (T [46]))) (tCB (rStr1) (tCons (tCall sp__law_draw (([] : List V).drop 0) E0 (tCons (tVar 0) (tCons (tOp (rIx K) (tVar 3) (tC (.int 1))) tNil))) tNil))) [3])))

theorem w__law_row (B : Bl mg)  {sp__law_draw : Sp} (G__law_draw : Df P w K mg base 1 "_law_draw" ["_law_bag_here", "_law_sides"] [] sp__law_draw) {f : Addr} {cdv : Value} {A : Around} {outer : List Env} {s : Shared} {H : Hp} {E : XK} (hr : Room 1 (A.deeper (envOfC "_law_row" (defScope s__law_row) s.heap.objs.size f cdv))) :
    PSs (cxOf (L2.CX P w) P w K mg base n__law_row "_law_row" (defScope s__law_row) f cdv A outer s H E).nox (defBody s__law_row) (t__law_row K sp__law_draw) := by
  have nd := sc__law_row.nd
  have hu := hr.units
  have hv := units5 hr
  have h1 := units1 hr
  exact (pss_one (ps_ret (pe_joinU (pe_strT (by decide +kernel)) (pe_lc (own := [("_law_pair", 3)]) rfl nd (pi_src (pv 1)) (blkOk_by (own := [("_law_pair", 3)]) (N := n__law_row) (sc := defScope s__law_row) (by decide +kernel)) (fun _ _ _ _ _ => (pg_name (i := 3) nd rfl (Or.inl rfl))) (fun _ _ _ _ _ => pts_nil) (fun _ _ _ _ _ => (pe_ifExp (pt_cmpR op_ltU (pe_df 0 G__law_draw (hr.mono (by decide)) (by rfl) (pa_cons (pv 0) (pa_cons pe_int pa_nil))) (pv 2) (nomark _)) (pe_strT (by decide +kernel)) (pe_callTy call_strU (by rfl) B.f_str (by decide +kernel) (pa_cons (pe_df 0 G__law_draw (hr.mono (by decide)) (by rfl) (pa_cons (pv 0) (pa_cons (pe_ix ix_seq (pv 3) pe_int (fun _ _ => rfl)) pa_nil))) pa_nil))))))))

def t__law_once (K : PySem.W.Frag) : TS := (tSeq (tAsg (tLst tNil) (gName 1))
    (tSeq (tFor (iSrc K (tVar 0)) (gName 2)
    (tIfS (tTest (tOp (rNiU K) (tVar 2) (tVar 1))) (tDrop (tBM K "list" rAppend (tVar 1) (tCons (tVar 2) tNil))) tNext))
    (tRet (tVar 1))))

theorem w__law_once (B : Bl mg)   {f : Addr} {cdv : Value} {A : Around} {outer : List Env} {s : Shared} {H : Hp} {E : XK} (hr : Room 0 (A.deeper (envOfC "_law_once" (defScope s__law_once) s.heap.objs.size f cdv))) :
    PSs (cxOf (L2.CX P w) P w K mg base n__law_once "_law_once" (defScope s__law_once) f cdv A outer s H E).nox (defBody s__law_once) (t__law_once K ) := by
  have nd := sc__law_once.nd
  have hu := hr.units
  have hv := units5 hr
  have h1 := units1 hr
  exact (pss_cons (ps_set (i := 1) nd rfl (Or.inl rfl) (pe_lst pa_nil))
    (pss_cons (ps_for PassesOwn.never rfl (pi_src (pv 0)) (pg_name (i := 2) nd rfl (Or.inl rfl))
    (pss_one (ps_if (pt_cmpR (op_niU hv) (pv 2) (pv 1) (by rfl)) (pss_one (ps_expr (pe_bm PySem.F.plainAttrs_list PySem.F.slot_list_append PySem.F.type_list_append mt_append (pv 1) (pa_cons (pv 2) pa_nil)))) pss_nil)))
    (pss_one (ps_ret (pv 1)))))

def t__law_stack (K : PySem.W.Frag) (sp__law_draw sp__law_lot sp__law_of sp__law_once sp__law_row : Sp) : TS := (tSeq (tAsg (tLst tNil) (gName 3))
    (tSeq (tAsg (tCall sp__law_of (([] : List V).drop 0) E0 (tCons (tVar 0) (tCons (tLst (tCons (tC (.int 2)) (tCons (tC (.int 3)) (tCons (tC (.int 2)) tNil)))) tNil))) (gName 4))
    (tSeq (tFor (iRng1 (tCons (tVar 2) tNil)) (gName 5)
    (tSeq (tAsg (tCall sp__law_row (([.int 2] : List V).drop 1) E0 (tCons (tVar 0) (tCons (tVar 1) (tCons (tVar 4) tNil)))) (gName 6))
    (tSeq (tIfS (tTest (tOp (rEqU K) (tCall sp__law_lot (([] : List V).drop 0) E0 (tCons (tVar 6) tNil)) (tOp rMulU (tC (.str (T [46]))) (tCB (rLen K) (tCons (tVar 1) tNil))))) (tSeq (tAsg (tCall sp__law_draw (([] : List V).drop 0) E0 (tCons (tVar 0) (tCons (tCB (rLen K) (tCons (tVar 1) tNil)) tNil))) (gName 7))
    (tAsg (tOp (rAddU K) (tOp (rAddU K) (tSl (rSlU K) (tVar 6) tNoPart (tPart (tVar 7))) (tCB (rStr1) (tCons (tCall sp__law_draw (([] : List V).drop 0) E0 (tCons (tVar 0) (tCons (tOp (rIx K) (tOp (rIx K) (tVar 1) (tVar 7)) (tC (.int 1))) tNil))) tNil))) (tSl (rSlU K) (tVar 6) (tPart (tOp (rAddU K) (tVar 7) (tC (.int 1)))) tNoPart)) (gName 6))) tNext)
    (tDrop (tBM K "list" rAppend (tVar 3) (tCons (tVar 6) tNil))))))
    (tSeq (tAsg (tCall sp__law_once (([] : List V).drop 0) E0 (tCons (tVar 3) tNil)) (gName 3))
    (tSeq (tFor (iRng1 (tCons (tCB (rLen K) (tCons (tVar 1) tNil)) tNil)) (gName 7)
    (tIfS (tTest (tOp (rEqU K) (tLc (iSrc K (tVar 3)) (gName 6) (tTest (tOp (rNeU K) (tOp (rIx K) (tVar 6) (tVar 7)) (tC (.str (T [46]))))) (tVar 6) [6]) (tLst tNil))) (tSeq (tAsg (tBM0 K "list" rPop (tVar 3)) (gName 8))
    (tDrop (tBM K "list" rAppend (tVar 3) (tCons (tOp (rAddU K) (tOp (rAddU K) (tSl (rSlU K) (tVar 8) tNoPart (tPart (tVar 7))) (tCB (rStr1) (tCons (tCall sp__law_draw (([] : List V).drop 0) E0 (tCons (tVar 0) (tCons (tOp (rIx K) (tOp (rIx K) (tVar 1) (tVar 7)) (tC (.int 1))) tNil))) tNil))) (tSl (rSlU K) (tVar 8) (tPart (tOp (rAddU K) (tVar 7) (tC (.int 1)))) tNoPart)) tNil)))) tNext))
    (tRet (tVar 3)))))))

theorem w__law_stack (B : Bl mg)  {sp__law_draw : Sp} (G__law_draw : Df P w K mg base 1 "_law_draw" ["_law_bag_here", "_law_sides"] [] sp__law_draw) {sp__law_lot : Sp} (G__law_lot : Df P w K mg base 1 "_law_lot" ["_law_r"] [] sp__law_lot) {sp__law_of : Sp} (G__law_of : Df P w K mg base 2 "_law_of" ["_law_bag_here", "_law_things"] [] sp__law_of) {sp__law_once : Sp} (G__law_once : Df P w K mg base 1 "_law_once" ["_law_things"] [] sp__law_once) {sp__law_row : Sp} (G__law_row : Df P w K mg base 2 "_law_row" ["_law_bag_here", "_law_frame_here", "_law_thin"] [.int 2] sp__law_row) {f : Addr} {cdv : Value} {A : Around} {outer : List Env} {s : Shared} {H : Hp} {E : XK} (hr : Room 2 (A.deeper (envOfC "_law_stack" (defScope s__law_stack) s.heap.objs.size f cdv))) :
    PSs (cxOf (L2.CX P w) P w K mg base n__law_stack "_law_stack" (defScope s__law_stack) f cdv A outer s H E).nox (defBody s__law_stack) (t__law_stack K sp__law_draw sp__law_lot sp__law_of sp__law_once sp__law_row) := by
  have nd := sc__law_stack.nd
  have hu := hr.units
  have hv := units5 hr
  have h1 := units1 hr
  exact (pss_cons (ps_set (i := 3) nd rfl (Or.inl rfl) (pe_lst pa_nil))
    (pss_cons (ps_set (i := 4) nd rfl (Or.inl rfl) (pe_df 0 G__law_of (hr.mono (by decide)) (by rfl) (pa_cons (pv 0) (pa_cons (pe_lst (pa_cons pe_int (pa_cons pe_int (pa_cons pe_int pa_nil)))) pa_nil))))
    (pss_cons (ps_for PassesOwn.never rfl (pi_range1 (by rfl) B.f_range (pa_cons (pv 2) pa_nil)) (pg_name (i := 5) nd rfl (Or.inl rfl))
    (pss_cons (ps_set (i := 6) nd rfl (Or.inl rfl) (pe_df 1 G__law_row (hr.mono (by decide)) (by rfl) (pa_cons (pv 0) (pa_cons (pv 1) (pa_cons (pv 4) pa_nil)))))
    (pss_cons (ps_if (pt_cmpR (op_eqU hu) (pe_df 0 G__law_lot (hr.mono (by decide)) (by rfl) (pa_cons (pv 6) pa_nil)) (pe_op op_mulU (pe_strT (by decide +kernel)) (pe_callB call_lenU (by rfl) B.f_len (by decide +kernel) (pa_cons (pv 1) pa_nil))) (nomark _)) (pss_cons (ps_set (i := 7) nd rfl (Or.inr rfl) (pe_df 0 G__law_draw (hr.mono (by decide)) (by rfl) (pa_cons (pv 0) (pa_cons (pe_callB call_lenU (by rfl) B.f_len (by decide +kernel) (pa_cons (pv 1) pa_nil)) pa_nil))))
    (pss_one (ps_set (i := 6) nd rfl (Or.inl rfl) (pe_op op_addU (pe_op op_addU (pe_slice sl_U (pv 6) po_none (po_some (pv 7))) (pe_callTy call_strU (by rfl) B.f_str (by decide +kernel) (pa_cons (pe_df 0 G__law_draw (hr.mono (by decide)) (by rfl) (pa_cons (pv 0) (pa_cons (pe_ix ix_seq (pe_ix ix_seq (pv 1) (pv 7) (fun _ _ => rfl)) pe_int (fun _ _ => rfl)) pa_nil))) pa_nil))) (pe_slice sl_U (pv 6) (po_some (pe_op op_addU (pv 7) pe_int)) po_none))))) pss_nil)
    (pss_one (ps_expr (pe_bm PySem.F.plainAttrs_list PySem.F.slot_list_append PySem.F.type_list_append mt_append (pv 3) (pa_cons (pv 6) pa_nil)))))))
    (pss_cons (ps_set (i := 3) nd rfl (Or.inl rfl) (pe_df 0 G__law_once (hr.mono (by decide)) (by rfl) (pa_cons (pv 3) pa_nil)))
    (pss_cons (ps_for PassesOwn.never rfl (pi_range1 (by rfl) B.f_range (pa_cons (pe_callB call_lenU (by rfl) B.f_len (by decide +kernel) (pa_cons (pv 1) pa_nil)) pa_nil)) (pg_name (i := 7) nd rfl (Or.inr rfl))
    (pss_one (ps_if (pt_cmpR (op_eqU hu) (pe_lc (own := [("_law_r", 6)]) rfl nd (pi_src (pv 3)) (blkOk_by (own := [("_law_r", 6)]) (N := n__law_stack) (sc := defScope s__law_stack) (by decide +kernel)) (fun _ _ _ _ _ => (pg_name (i := 6) nd rfl (Or.inl rfl))) (fun _ _ _ _ _ => (pts_one (pt_cmpR (op_neU hu) (pe_ix ix_seq (pv 6) (pv 7) (fun _ _ => rfl)) (pe_strT (by decide +kernel)) (nomark _)))) (fun _ _ _ _ _ => (pv 6))) (pe_lst pa_nil) (nomark _)) (pss_cons (ps_set (i := 8) nd rfl (Or.inl rfl) (pe_bm0 PySem.F.plainAttrs_list PySem.F.slot_list_pop PySem.F.type_list_pop mt_pop (pv 3)))
    (pss_one (ps_expr (pe_bm PySem.F.plainAttrs_list PySem.F.slot_list_append PySem.F.type_list_append mt_append (pv 3) (pa_cons (pe_op op_addU (pe_op op_addU (pe_slice sl_U (pv 8) po_none (po_some (pv 7))) (pe_callTy call_strU (by rfl) B.f_str (by decide +kernel) (pa_cons (pe_df 0 G__law_draw (hr.mono (by decide)) (by rfl) (pa_cons (pv 0) (pa_cons (pe_ix ix_seq (pe_ix ix_seq (pv 1) (pv 7) (fun _ _ => rfl)) pe_int (fun _ _ => rfl)) pa_nil))) pa_nil))) (pe_slice sl_U (pv 8) (po_some (pe_op op_addU (pv 7) pe_int)) po_none)) pa_nil))))) pss_nil)))
    (pss_one (ps_ret (pv 3))))))))

def t__law_size (K : PySem.W.Frag) (sp__law_of : Sp) : TS := (tRet (tCall sp__law_of (([] : List V).drop 0) E0 (tCons (tVar 0) (tCons (tLst (tCons (tC (.int 2)) (tCons (tC (.int 3)) (tCons (tC (.int 3)) (tCons (tC (.int 4)) (tCons (tC (.int 4)) (tCons (tC (.int 5)) (tCons (tC (.int 3)) (tCons (tC (.int 1)) (tCons (tC (.int 2)) (tCons (tC (.int 6)) tNil))))))))))) tNil))))

theorem w__law_size (B : Bl mg)  {sp__law_of : Sp} (G__law_of : Df P w K mg base 2 "_law_of" ["_law_bag_here", "_law_things"] [] sp__law_of) {f : Addr} {cdv : Value} {A : Around} {outer : List Env} {s : Shared} {H : Hp} {E : XK} (hr : Room 2 (A.deeper (envOfC "_law_size" (defScope s__law_size) s.heap.objs.size f cdv))) :
    PSs (cxOf (L2.CX P w) P w K mg base n__law_size "_law_size" (defScope s__law_size) f cdv A outer s H E).nox (defBody s__law_size) (t__law_size K sp__law_of) := by
  have nd := sc__law_size.nd
  have hu := hr.units
  have hv := units5 hr
  have h1 := units1 hr
  exact (pss_one (ps_ret (pe_df 0 G__law_of (hr.mono (by decide)) (by rfl) (pa_cons (pv 0) (pa_cons (pe_lst (pa_cons pe_int (pa_cons pe_int (pa_cons pe_int (pa_cons pe_int (pa_cons pe_int (pa_cons pe_int (pa_cons pe_int (pa_cons pe_int (pa_cons pe_int (pa_cons pe_int pa_nil))))))))))) pa_nil)))))

def t__law_lay (K : PySem.W.Frag) : TS := (tRet (tM1 (rJoin K) (tC (.str (T []))) (tLc (iZipS K (tCons (tVar 0) (tCons (tVar 1) tNil))) (gTup K 2 (gCons (gName 2) (gCons (gName 3) gNil))) tYes (tIf (tTest (tOp (rEqU K) (tVar 2) (tC (.str (T [46]))))) (tVar 3) (tVar 2)) [2, 3])))

theorem w__law_lay (B : Bl mg)   {f : Addr} {cdv : Value} {A : Around} {outer : List Env} {s : Shared} {H : Hp} {E : XK} (hr : Room 0 (A.deeper (envOfC "_law_lay" (defScope s__law_lay) s.heap.objs.size f cdv))) :
    PSs (cxOf (L2.CX P w) P w K mg base n__law_lay "_law_lay" (defScope s__law_lay) f cdv A outer s H E).nox (defBody s__law_lay) (t__law_lay K ) := by
  have nd := sc__law_lay.nd
  have hu := hr.units
  have hv := units5 hr
  have h1 := units1 hr
  exact (pss_one (ps_ret (pe_joinU (pe_strT (by decide +kernel)) (pe_lc (own := [("_law_x", 2), ("_law_y", 3)]) rfl nd (pi_zipS (by rfl) B.f_zip (pa_cons (pv 0) (pa_cons (pv 1) pa_nil))) (blkOk_by (own := [("_law_x", 2), ("_law_y", 3)]) (N := n__law_lay) (sc := defScope s__law_lay) (by decide +kernel)) (fun _ _ _ _ _ => (pg_tup (by rfl) (pgs_cons (pg_name (i := 2) nd rfl (Or.inl rfl)) (pgs_cons (pg_name (i := 3) nd rfl (Or.inl rfl)) pgs_nil)))) (fun _ _ _ _ _ => pts_nil) (fun _ _ _ _ _ => (pe_ifExp (pt_cmpR (op_eqU hu) (pv 2) (pe_strT (by decide +kernel)) (nomark _)) (pv 3) (pv 2)))))))

def t__law_lot (K : PySem.W.Frag) : TS := (tRet (tM1 (rJoin K) (tC (.str (T []))) (tLc (iSrc K (tVar 0)) (gName 1) tYes (tIf (tTest (tOp (rEqU K) (tVar 1) (tC (.str (T [46]))))) (tC (.str (T [46]))) (tC (.str (T [43])))) [1])))

theorem w__law_lot (B : Bl mg)   {f : Addr} {cdv : Value} {A : Around} {outer : List Env} {s : Shared} {H : Hp} {E : XK} (hr : Room 0 (A.deeper (envOfC "_law_lot" (defScope s__law_lot) s.heap.objs.size f cdv))) :
    PSs (cxOf (L2.CX P w) P w K mg base n__law_lot "_law_lot" (defScope s__law_lot) f cdv A outer s H E).nox (defBody s__law_lot) (t__law_lot K ) := by
  have nd := sc__law_lot.nd
  have hu := hr.units
  have hv := units5 hr
  have h1 := units1 hr
  exact (pss_one (ps_ret (pe_joinU (pe_strT (by decide +kernel)) (pe_lc (own := [("_law_sign", 1)]) rfl nd (pi_src (pv 0)) (blkOk_by (own := [("_law_sign", 1)]) (N := n__law_lot) (sc := defScope s__law_lot) (by decide +kernel)) (fun _ _ _ _ _ => (pg_name (i := 1) nd rfl (Or.inl rfl))) (fun _ _ _ _ _ => pts_nil) (fun _ _ _ _ _ => (pe_ifExp (pt_cmpR (op_eqU hu) (pv 1) (pe_strT (by decide +kernel)) (nomark _)) (pe_strT (by decide +kernel)) (pe_strT (by decide +kernel))))))))

def t__law_join (K : PySem.W.Frag) : TS := (tRet (tM1 (rJoin K) (tC (.str (T []))) (tLc (iZipS K (tCons (tVar 0) (tCons (tVar 1) tNil))) (gTup K 2 (gCons (gName 2) (gCons (gName 3) gNil))) tYes (tIf (tTest (tOp (rInU K) (tC (.str (T [43]))) (tOp (rAddU K) (tVar 2) (tVar 3)))) (tC (.str (T [43]))) (tC (.str (T [46])))) [2, 3])))

theorem w__law_join (B : Bl mg)   {f : Addr} {cdv : Value} {A : Around} {outer : List Env} {s : Shared} {H : Hp} {E : XK} (hr : Room 0 (A.deeper (envOfC "_law_join" (defScope s__law_join) s.heap.objs.size f cdv))) :
    PSs (cxOf (L2.CX P w) P w K mg base n__law_join "_law_join" (defScope s__law_join) f cdv A outer s H E).nox (defBody s__law_join) (t__law_join K ) := by
  have nd := sc__law_join.nd
  have hu := hr.units
  have hv := units5 hr
  have h1 := units1 hr
  exact (pss_one (ps_ret (pe_joinU (pe_strT (by decide +kernel)) (pe_lc (own := [("_law_a", 2), ("_law_b", 3)]) rfl nd (pi_zipS (by rfl) B.f_zip (pa_cons (pv 0) (pa_cons (pv 1) pa_nil))) (blkOk_by (own := [("_law_a", 2), ("_law_b", 3)]) (N := n__law_join) (sc := defScope s__law_join) (by decide +kernel)) (fun _ _ _ _ _ => (pg_tup (by rfl) (pgs_cons (pg_name (i := 2) nd rfl (Or.inl rfl)) (pgs_cons (pg_name (i := 3) nd rfl (Or.inl rfl)) pgs_nil)))) (fun _ _ _ _ _ => pts_nil) (fun _ _ _ _ _ => (pe_ifExp (pt_cmpR (op_inU hv) (pe_strT (by decide +kernel)) (pe_op op_addU (pv 2) (pv 3)) (by rfl)) (pe_strT (by decide +kernel)) (pe_strT (by decide +kernel))))))))

def t__law_lots (K : PySem.W.Frag) (sp__law_once : Sp) : TS := (tSeq (tAsg (tCB ((rSortPT K)) (tCons (tLc (iSrc K (tVar 0)) (gName 2) tYes (tTup (tCons (tM1 rCount (tVar 2) (tC (.str (T [43])))) (tCons (tVar 2) tNil))) [2]) tNil)) (gName 1))
    (tRet (tCall sp__law_once (([] : List V).drop 0) E0 (tCons (tLc (iSrc K (tVar 1)) (gTup K 2 (gCons (gName 3) (gCons (gName 2) gNil))) tYes (tVar 2) [3, 2]) tNil))))

theorem w__law_lots (B : Bl mg)  {sp__law_once : Sp} (G__law_once : Df P w K mg base 1 "_law_once" ["_law_things"] [] sp__law_once) {f : Addr} {cdv : Value} {A : Around} {outer : List Env} {s : Shared} {H : Hp} {E : XK} (hr : Room 1 (A.deeper (envOfC "_law_lots" (defScope s__law_lots) s.heap.objs.size f cdv))) :
    PSs (cxOf (L2.CX P w) P w K mg base n__law_lots "_law_lots" (defScope s__law_lots) f cdv A outer s H E).nox (defBody s__law_lots) (t__law_lots K sp__law_once) := by
  have nd := sc__law_lots.nd
  have hu := hr.units
  have hv := units5 hr
  have h1 := units1 hr
  exact (pss_cons (ps_set (i := 1) nd rfl (Or.inl rfl) (pe_callB (cr_sortPT hv) (by rfl) B.f_sorted (by decide +kernel) (pa_cons (pe_lc (own := [("_law_x", 2)]) rfl nd (pi_src (pv 0)) (blkOk_by (own := [("_law_x", 2)]) (N := n__law_lots) (sc := defScope s__law_lots) (by decide +kernel)) (fun _ _ _ _ _ => (pg_name (i := 2) nd rfl (Or.inl rfl))) (fun _ _ _ _ _ => pts_nil) (fun _ _ _ _ _ => (pe_tup (pa_cons (pe_countU (pv 2) (pe_strT (by decide +kernel))) (pa_cons (pv 2) pa_nil))))) pa_nil)))
    (pss_one (ps_ret (pe_df 0 G__law_once (hr.mono (by decide)) (by rfl) (pa_cons (pe_lc (own := [("_law_size_here", 3), ("_law_x", 2)]) rfl nd (pi_src (pv 1)) (blkOk_by (own := [("_law_size_here", 3), ("_law_x", 2)]) (N := n__law_lots) (sc := defScope s__law_lots) (by decide +kernel)) (fun _ _ _ _ _ => (pg_tup (by rfl) (pgs_cons (pg_name (i := 3) nd rfl (Or.inl rfl)) (pgs_cons (pg_name (i := 2) nd rfl (Or.inl rfl)) pgs_nil)))) (fun _ _ _ _ _ => pts_nil) (fun _ _ _ _ _ => (pv 2))) pa_nil)))))

def t__law_rows (K : PySem.W.Frag) (sp__law_lay : Sp) : TS := (tSeq (tAsg (tLst (tCons (tOp rMulU (tC (.str (T [46]))) (tVar 1)) tNil)) (gName 3))
    (tSeq (tAsg (tDisp [((tOp (rIx K) (tVar 3) (tC (.int 0))), (tC (.bl true)))]) (gName 4))
    (tSeq (tFor (iRng1 (tCons (tVar 2) tNil)) (gName 5)
    (tSeq (tIfS (tTest (tOp rLtU (tVar 5) (tCB (rLen K) (tCons (tVar 3) tNil)))) (tFor (iSrc K (tLc (iSrc K (tVar 0)) (gName 7) tYes (tCall sp__law_lay (([] : List V).drop 0) E0 (tCons (tVar 7) (tCons (tOp (rIx K) (tVar 3) (tVar 5)) tNil))) [7])) (gName 6)
    (tIfS (tB (tDNotIn (tVar 6) (tVar 4))) (tSeq (sDPut (tVar 4) (tVar 6) (tC (.bl true)))
    (tDrop (tBM K "list" rAppend (tVar 3) (tCons (tVar 6) tNil)))) tNext)) tNext)
    (tIfS (tTest (tOp rGtU (tCB (rLen K) (tCons (tVar 3) tNil)) (tVar 2))) (tRet (tC .non)) tNext)))
    (tRet (tCB ((rSortedS K)) (tCons (tVar 3) tNil))))))

theorem w__law_rows (B : Bl mg)  {sp__law_lay : Sp} (G__law_lay : Df P w K mg base 1 "_law_lay" ["_law_newer_row", "_law_older_row"] [] sp__law_lay) {f : Addr} {cdv : Value} {A : Around} {outer : List Env} {s : Shared} {H : Hp} {E : XK} (hr : Room 1 (A.deeper (envOfC "_law_rows" (defScope s__law_rows) s.heap.objs.size f cdv))) :
    PSs (cxOf (L2.CX P w) P w K mg base n__law_rows "_law_rows" (defScope s__law_rows) f cdv A outer s H E).nox (defBody s__law_rows) (t__law_rows K sp__law_lay) := by
  have nd := sc__law_rows.nd
  have hu := hr.units
  have hv := units5 hr
  have h1 := units1 hr
  exact (pss_cons (ps_set (i := 3) nd rfl (Or.inr rfl) (pe_lst (pa_cons (pe_op op_mulU (pe_strT (by decide +kernel)) (pv 1)) pa_nil)))
    (pss_cons (ps_set (i := 4) nd rfl (Or.inl rfl) (pe_disp (pps_cons (pe_ix ix_seq (pv 3) pe_int (fun _ _ => rfl)) pe_bl pps_nil) (by rfl) (by rfl) nofun (by decide)))
    (pss_cons (ps_for PassesOwn.never rfl (pi_range1 (by rfl) B.f_range (pa_cons (pv 2) pa_nil)) (pg_name (i := 5) nd rfl (Or.inr rfl))
    (pss_cons (ps_if (pt_cmpR op_ltU (pv 5) (pe_callB call_lenU (by rfl) B.f_len (by decide +kernel) (pa_cons (pv 3) pa_nil)) (nomark _)) (pss_one (ps_for PassesOwn.never rfl (pi_src (pe_lc (own := [("_law_s", 7)]) rfl nd (pi_src (pv 0)) (blkOk_by (own := [("_law_s", 7)]) (N := n__law_rows) (sc := defScope s__law_rows) (by decide +kernel)) (fun _ _ _ _ _ => (pg_name (i := 7) nd rfl (Or.inl rfl))) (fun _ _ _ _ _ => pts_nil) (fun _ _ _ _ _ => (pe_df 0 G__law_lay (hr.mono (by decide)) (by rfl) (pa_cons (pv 7) (pa_cons (pe_ix ix_seq (pv 3) (pv 5) (fun _ _ => rfl)) pa_nil)))))) (pg_name (i := 6) nd rfl (Or.inl rfl))
    (pss_one (ps_if (pt_cmp (pc_dnotin h1 (pv 6) (pv 4)) (by rfl)) (pss_cons (ps_dput h1 (pv 4) (pv 6) pe_bl rfl)
    (pss_one (ps_expr (pe_bm PySem.F.plainAttrs_list PySem.F.slot_list_append PySem.F.type_list_append mt_append (pv 3) (pa_cons (pv 6) pa_nil))))) pss_nil)))) pss_nil)
    (pss_one (ps_if (pt_cmpR op_gtU (pe_callB call_lenU (by rfl) B.f_len (by decide +kernel) (pa_cons (pv 3) pa_nil)) (pv 2) (nomark _)) (pss_one (ps_ret pe_non)) pss_nil))))
    (pss_one (ps_ret (pe_callB cr_sortedS (by rfl) B.f_sorted (by decide +kernel) (pa_cons (pv 3) pa_nil)))))))

def t__law_fresh (K : PySem.W.Frag) : TS := (tRet (tLc (iRng1 (tCons (tCB (rLen K) (tCons (tVar 0) tNil)) tNil)) (gName 2) (tAnd (tTest (tOp (rNeU K) (tOp (rIx K) (tVar 0) (tVar 2)) (tC (.str (T [46]))))) (tTest (tOp (rEqU K) (tOp (rIx K) (tVar 1) (tVar 2)) (tC (.str (T [46])))))) (tVar 2) [2]))

theorem w__law_fresh (B : Bl mg)   {f : Addr} {cdv : Value} {A : Around} {outer : List Env} {s : Shared} {H : Hp} {E : XK} (hr : Room 0 (A.deeper (envOfC "_law_fresh" (defScope s__law_fresh) s.heap.objs.size f cdv))) :
    PSs (cxOf (L2.CX P w) P w K mg base n__law_fresh "_law_fresh" (defScope s__law_fresh) f cdv A outer s H E).nox (defBody s__law_fresh) (t__law_fresh K ) := by
  have nd := sc__law_fresh.nd
  have hu := hr.units
  have hv := units5 hr
  have h1 := units1 hr
  exact (pss_one (ps_ret (pe_lc (own := [("_law_k", 2)]) rfl nd (pi_range1 (by rfl) B.f_range (pa_cons (pe_callB call_lenU (by rfl) B.f_len (by decide +kernel) (pa_cons (pv 0) pa_nil)) pa_nil)) (blkOk_by (own := [("_law_k", 2)]) (N := n__law_fresh) (sc := defScope s__law_fresh) (by decide +kernel)) (fun _ _ _ _ _ => (pg_name (i := 2) nd rfl (Or.inl rfl))) (fun _ _ _ _ _ => (pts_one (PW.pt (pw_and (pt_cmpR (op_neU hu) (pe_ix ix_seq (pv 0) (pv 2) (fun _ _ => rfl)) (pe_strT (by decide +kernel)) (nomark _)) (pw_and1 (pt_cmpR (op_eqU hu) (pe_ix ix_seq (pv 1) (pv 2) (fun _ _ => rfl)) (pe_strT (by decide +kernel)) (nomark _))))))) (fun _ _ _ _ _ => (pv 2)))))

def t__law_fits (K : PySem.W.Frag) (sp__law_fresh : Sp) : TS := (tSeq (tAsg (tCall sp__law_fresh (([] : List V).drop 0) E0 (tCons (tVar 0) (tCons (tVar 2) tNil))) (gName 3))
    (tRet (tAndV (tOp (rNeU K) (tVar 3) (tLst tNil)) (tOp (rEqU K) (tLc (iSrc K (tVar 3)) (gName 4) (tTest (tOp (rNeU K) (tOp (rIx K) (tVar 1) (tVar 4)) (tOp (rIx K) (tVar 0) (tVar 4)))) (tVar 4) [4]) (tLst tNil)))))

theorem w__law_fits (B : Bl mg)  {sp__law_fresh : Sp} (G__law_fresh : Df P w K mg base 1 "_law_fresh" ["_law_s", "_law_told"] [] sp__law_fresh) {f : Addr} {cdv : Value} {A : Around} {outer : List Env} {s : Shared} {H : Hp} {E : XK} (hr : Room 1 (A.deeper (envOfC "_law_fits" (defScope s__law_fits) s.heap.objs.size f cdv))) :
    PSs (cxOf (L2.CX P w) P w K mg base n__law_fits "_law_fits" (defScope s__law_fits) f cdv A outer s H E).nox (defBody s__law_fits) (t__law_fits K sp__law_fresh) := by
  have nd := sc__law_fits.nd
  have hu := hr.units
  have hv := units5 hr
  have h1 := units1 hr
  exact (pss_cons (ps_set (i := 3) nd rfl (Or.inl rfl) (pe_df 0 G__law_fresh (hr.mono (by decide)) (by rfl) (pa_cons (pv 0) (pa_cons (pv 2) pa_nil))))
    (pss_one (ps_ret (pe_and (pe_cmpR (op_neU hu) (pv 3) (pe_lst pa_nil) (nomark _)) (pe_one (pe_cmpR (op_eqU hu) (pe_lc (own := [("_law_k", 4)]) rfl nd (pi_src (pv 3)) (blkOk_by (own := [("_law_k", 4)]) (N := n__law_fits) (sc := defScope s__law_fits) (by decide +kernel)) (fun _ _ _ _ _ => (pg_name (i := 4) nd rfl (Or.inl rfl))) (fun _ _ _ _ _ => (pts_one (pt_cmpR (op_neU hu) (pe_ix ix_seq (pv 1) (pv 4) (fun _ _ => rfl)) (pe_ix ix_seq (pv 0) (pv 4) (fun _ _ => rfl)) (nomark _)))) (fun _ _ _ _ _ => (pv 4))) (pe_lst pa_nil) (nomark _)))))))

def t__law_greedy (K : PySem.W.Frag) (sp__law_fits sp__law_join sp__law_lot : Sp) : TS := (tSeq (tAsg (tTup (tCons (tLst tNil) (tCons (tOp rMulU (tC (.str (T [46]))) (tCB (rLen K) (tCons (tVar 1) tNil))) tNil))) (gTup K 2 (gCons (gName 2) (gCons (gName 3) gNil))))
    (tSeq (tFor (iRng1 (tCons (tCB (rLen K) (tCons (tVar 1) tNil)) tNil)) (gName 4)
    (tSeq (tAsg (tLc (iSrc K (tVar 0)) (gName 6) (tB (tCall sp__law_fits (([] : List V).drop 0) E0 (tCons (tVar 6) (tCons (tVar 1) (tCons (tVar 3) tNil))))) (tVar 6) [6]) (gName 5))
    (tIfS (tTru K (tVar 5)) (tSeq (tDrop (tBM K "list" rAppend (tVar 2) (tCons (tOp (rIx K) (tVar 5) (tC (.int 0))) tNil)))
    (tAsg (tCall sp__law_join (([] : List V).drop 0) E0 (tCons (tVar 3) (tCons (tCall sp__law_lot (([] : List V).drop 0) E0 (tCons (tOp (rIx K) (tVar 5) (tC (.int 0))) tNil)) tNil))) (gName 3))) tNext)))
    (tRet (tTup (tCons (tVar 2) (tCons (tVar 3) tNil))))))

theorem w__law_greedy (B : Bl mg)  {sp__law_fits : Sp} (G__law_fits : Df P w K mg base 2 "_law_fits" ["_law_s", "_law_r", "_law_told"] [] sp__law_fits) {sp__law_join : Sp} (G__law_join : Df P w K mg base 1 "_law_join" ["_law_x", "_law_y"] [] sp__law_join) {sp__law_lot : Sp} (G__law_lot : Df P w K mg base 1 "_law_lot" ["_law_r"] [] sp__law_lot) {f : Addr} {cdv : Value} {A : Around} {outer : List Env} {s : Shared} {H : Hp} {E : XK} (hr : Room 2 (A.deeper (envOfC "_law_greedy" (defScope s__law_greedy) s.heap.objs.size f cdv))) :
    PSs (cxOf (L2.CX P w) P w K mg base n__law_greedy "_law_greedy" (defScope s__law_greedy) f cdv A outer s H E).nox (defBody s__law_greedy) (t__law_greedy K sp__law_fits sp__law_join sp__law_lot) := by
  have nd := sc__law_greedy.nd
  have hu := hr.units
  have hv := units5 hr
  have h1 := units1 hr
  exact (pss_cons (ps_asg (pe_tup (pa_cons (pe_lst pa_nil) (pa_cons (pe_op op_mulU (pe_strT (by decide +kernel)) (pe_callB call_lenU (by rfl) B.f_len (by decide +kernel) (pa_cons (pv 1) pa_nil))) pa_nil))) (pg_tup (by rfl) (pgs_cons (pg_name (i := 2) nd rfl (Or.inl rfl)) (pgs_cons (pg_name (i := 3) nd rfl (Or.inr rfl)) pgs_nil))))
    (pss_cons (ps_for PassesOwn.never rfl (pi_range1 (by rfl) B.f_range (pa_cons (pe_callB call_lenU (by rfl) B.f_len (by decide +kernel) (pa_cons (pv 1) pa_nil)) pa_nil)) (pg_name (i := 4) nd rfl (Or.inl rfl))
    (pss_cons (ps_setLc (i := 5) (own := [("_law_s", 6)]) rfl nd rfl rfl (sw_true rfl rfl rfl (by decide +kernel)) (pi_src (pv 0)) (blkOk_by (own := [("_law_s", 6)]) (N := n__law_greedy) (sc := defScope s__law_greedy) (by decide +kernel)) (fun _ _ _ _ _ => (pg_name (i := 6) nd rfl (Or.inl rfl))) (fun _ _ _ _ _ => (pts_one (pt_val (pe_df 0 G__law_fits (hr.mono (by decide)) (by rfl) (pa_cons (pv 6) (pa_cons (pv 1) (pa_cons (pv 3) pa_nil))))))) (fun _ _ _ _ _ => (pv 6)))
    (pss_one (ps_if (pt_tru (pv 5)) (pss_cons (ps_expr (pe_bm PySem.F.plainAttrs_list PySem.F.slot_list_append PySem.F.type_list_append mt_append (pv 2) (pa_cons (pe_ix ix_seq (pv 5) pe_int (fun _ _ => rfl)) pa_nil)))
    (pss_one (ps_set (i := 3) nd rfl (Or.inr rfl) (pe_df 0 G__law_join (hr.mono (by decide)) (by rfl) (pa_cons (pv 3) (pa_cons (pe_df 0 G__law_lot (hr.mono (by decide)) (by rfl) (pa_cons (pe_ix ix_seq (pv 5) pe_int (fun _ _ => rfl)) pa_nil)) pa_nil)))))) pss_nil))))
    (pss_one (ps_ret (pe_tup (pa_cons (pv 2) (pa_cons (pv 3) pa_nil)))))))

def t__law_lines (K : PySem.W.Frag) (sp__law_fresh sp__law_greedy sp__law_lot : Sp) : TS := (tSeq (tAsg (tCall sp__law_greedy (([] : List V).drop 0) E0 (tCons (tVar 1) (tCons (tVar 2) tNil))) (gTup K 2 (gCons (gName 3) (gCons (gName 4) gNil))))
    (tSeq (tAsg (tOp (rAddU K) (tLst (tCons (tTup (tCons (tC (.str (T [114, 111, 119]))) (tCons (tVar 2) tNil))) tNil)) (tLc (iSrc K (tVar 3)) (gName 6) tYes (tTup (tCons (tC (.str (T [116, 97, 107, 101]))) (tCons (tVar 6) tNil))) [6])) (gName 5))
    (tSeq (tIfS (tTest (tOp (rEqU K) (tVar 4) (tCall sp__law_lot (([] : List V).drop 0) E0 (tCons (tVar 2) tNil)))) (tRet (tOp (rAddU K) (tVar 5) (tLst (tCons (tTup (tCons (tC (.str (T [109, 97, 100, 101]))) tNil)) tNil)))) tNext)
    (tSeq (tFor (iSrc K (tVar 1)) (gName 6)
    (tSeq (tAsg (tLc (iSrc K (tCall sp__law_fresh (([] : List V).drop 0) E0 (tCons (tVar 6) (tCons (tVar 4) tNil)))) (gName 8) (tTest (tOp (rNeU K) (tOp (rIx K) (tVar 2) (tVar 8)) (tOp (rIx K) (tVar 6) (tVar 8)))) (tVar 8) [8]) (gName 7))
    (tIfS (tTru K (tVar 7)) (tDrop (tBM K "list" rAppend (tVar 5) (tCons (tTup (tCons (tC (.str (T [98, 97, 114]))) (tCons (tVar 6) (tCons (tOp (rIx K) (tOp (rIx K) (tVar 0) (tOp (rIx K) (tVar 7) (tC (.int 0)))) (tC (.int 0))) tNil)))) tNil))) tNext)))
    (tRet (tOp (rAddU K) (tVar 5) (tLst (tCons (tTup (tCons (tC (.str (T [98, 97, 114, 114, 101, 100]))) tNil)) tNil))))))))

theorem w__law_lines (B : Bl mg)  {sp__law_fresh : Sp} (G__law_fresh : Df P w K mg base 1 "_law_fresh" ["_law_s", "_law_told"] [] sp__law_fresh) {sp__law_greedy : Sp} (G__law_greedy : Df P w K mg base 3 "_law_greedy" ["_law_stack_here", "_law_r"] [] sp__law_greedy) {sp__law_lot : Sp} (G__law_lot : Df P w K mg base 1 "_law_lot" ["_law_r"] [] sp__law_lot) {f : Addr} {cdv : Value} {A : Around} {outer : List Env} {s : Shared} {H : Hp} {E : XK} (hr : Room 3 (A.deeper (envOfC "_law_lines" (defScope s__law_lines) s.heap.objs.size f cdv))) :
    PSs (cxOf (L2.CX P w) P w K mg base n__law_lines "_law_lines" (defScope s__law_lines) f cdv A outer s H E).nox (defBody s__law_lines) (t__law_lines K sp__law_fresh sp__law_greedy sp__law_lot) := by
  have nd := sc__law_lines.nd
  have hu := hr.units
  have hv := units5 hr
  have h1 := units1 hr
  exact (pss_cons (ps_asg (pe_df 0 G__law_greedy (hr.mono (by decide)) (by rfl) (pa_cons (pv 1) (pa_cons (pv 2) pa_nil))) (pg_tup (by rfl) (pgs_cons (pg_name (i := 3) nd rfl (Or.inl rfl)) (pgs_cons (pg_name (i := 4) nd rfl (Or.inl rfl)) pgs_nil))))
    (pss_cons (ps_set (i := 5) nd rfl (Or.inl rfl) (pe_op op_addU (pe_lst (pa_cons (pe_tup (pa_cons (pe_strT (by decide +kernel)) (pa_cons (pv 2) pa_nil))) pa_nil)) (pe_lc (own := [("_law_s", 6)]) rfl nd (pi_src (pv 3)) (blkOk_by (own := [("_law_s", 6)]) (N := n__law_lines) (sc := defScope s__law_lines) (by decide +kernel)) (fun _ _ _ _ _ => (pg_name (i := 6) nd rfl (Or.inl rfl))) (fun _ _ _ _ _ => pts_nil) (fun _ _ _ _ _ => (pe_tup (pa_cons (pe_strT (by decide +kernel)) (pa_cons (pv 6) pa_nil)))))))
    (pss_cons (ps_if (pt_cmpR (op_eqU hu) (pv 4) (pe_df 0 G__law_lot (hr.mono (by decide)) (by rfl) (pa_cons (pv 2) pa_nil)) (nomark _)) (pss_one (ps_ret (pe_op op_addU (pv 5) (pe_lst (pa_cons (pe_tup (pa_cons (pe_strT (by decide +kernel)) pa_nil)) pa_nil))))) pss_nil)
    (pss_cons (ps_for PassesOwn.never rfl (pi_src (pv 1)) (pg_name (i := 6) nd rfl (Or.inr rfl))
    (pss_cons (ps_setLc (i := 7) (own := [("_law_k", 8)]) rfl nd rfl rfl (sw_true rfl rfl rfl (by decide +kernel)) (pi_src (pe_df 0 G__law_fresh (hr.mono (by decide)) (by rfl) (pa_cons (pv 6) (pa_cons (pv 4) pa_nil)))) (blkOk_by (own := [("_law_k", 8)]) (N := n__law_lines) (sc := defScope s__law_lines) (by decide +kernel)) (fun _ _ _ _ _ => (pg_name (i := 8) nd rfl (Or.inl rfl))) (fun _ _ _ _ _ => (pts_one (pt_cmpR (op_neU hu) (pe_ix ix_seq (pv 2) (pv 8) (fun _ _ => rfl)) (pe_ix ix_seq (pv 6) (pv 8) (fun _ _ => rfl)) (nomark _)))) (fun _ _ _ _ _ => (pv 8)))
    (pss_one (ps_if (pt_tru (pv 7)) (pss_one (ps_expr (pe_bm PySem.F.plainAttrs_list PySem.F.slot_list_append PySem.F.type_list_append mt_append (pv 5) (pa_cons (pe_tup (pa_cons (pe_strT (by decide +kernel)) (pa_cons (pv 6) (pa_cons (pe_ix ix_seq (pe_ix ix_seq (pv 0) (pe_ix ix_seq (pv 7) pe_int (fun _ _ => rfl)) (fun _ _ => rfl)) pe_int (fun _ _ => rfl)) pa_nil)))) pa_nil)))) pss_nil))))
    (pss_one (ps_ret (pe_op op_addU (pv 5) (pe_lst (pa_cons (pe_tup (pa_cons (pe_strT (by decide +kernel)) pa_nil)) pa_nil)))))))))

def t__law_fillings (K : PySem.W.Frag) : TS := (tSeq (tAsg (tLst (tCons (tC (.str (T []))) tNil)) (gName 1))
    (tSeq (tFor (iSrc K (tVar 0)) (gName 2)
    (tSeq (tAsg (tOp (rAddU K) (tLst (tCons (tC (.str (T [46]))) tNil)) (tCB (rListStr) (tCons (tSl (rSlU K) (tC (.str (T [48, 49, 50, 51]))) tNoPart (tPart (tOp (rIx K) (tVar 2) (tC (.int 1))))) tNil))) (gName 3))
    (tSeq (tAsg (tLst tNil) (gName 4))
    (tSeq (tFor (iSrc K (tVar 1)) (gName 5)
    (tDrop (tBM K "list" rExtend (tVar 4) (tCons (tLc (iSrc K (tVar 3)) (gName 6) tYes (tOp (rAddU K) (tVar 5) (tVar 6)) [6]) tNil))))
    (tAsg (tVar 4) (gName 1))))))
    (tRet (tVar 1))))

theorem w__law_fillings (B : Bl mg)   {f : Addr} {cdv : Value} {A : Around} {outer : List Env} {s : Shared} {H : Hp} {E : XK} (hr : Room 0 (A.deeper (envOfC "_law_fillings" (defScope s__law_fillings) s.heap.objs.size f cdv))) :
    PSs (cxOf (L2.CX P w) P w K mg base n__law_fillings "_law_fillings" (defScope s__law_fillings) f cdv A outer s H E).nox (defBody s__law_fillings) (t__law_fillings K ) := by
  have nd := sc__law_fillings.nd
  have hu := hr.units
  have hv := units5 hr
  have h1 := units1 hr
  exact (pss_cons (ps_set (i := 1) nd rfl (Or.inl rfl) (pe_lst (pa_cons (pe_strT (by decide +kernel)) pa_nil)))
    (pss_cons (ps_for PassesOwn.never rfl (pi_src (pv 0)) (pg_name (i := 2) nd rfl (Or.inl rfl))
    (pss_cons (ps_set (i := 3) nd rfl (Or.inl rfl) (pe_op op_addU (pe_lst (pa_cons (pe_strT (by decide +kernel)) pa_nil)) (pe_callTy (call_listStr rfl) (by rfl) B.f_list (by decide +kernel) (pa_cons (pe_slice sl_U (pe_strT (by decide +kernel)) po_none (po_some (pe_ix ix_seq (pv 2) pe_int (fun _ _ => rfl)))) pa_nil))))
    (pss_cons (ps_set (i := 4) nd rfl (Or.inl rfl) (pe_lst pa_nil))
    (pss_cons (ps_for PassesOwn.never rfl (pi_src (pv 1)) (pg_name (i := 5) nd rfl (Or.inr rfl))
    (pss_one (ps_expr (pe_bm PySem.F.plainAttrs_list PySem.F.slot_list_extend PySem.F.type_list_extend mt_extend (pv 4) (pa_cons (pe_lc (own := [("_law_sign", 6)]) rfl nd (pi_src (pv 3)) (blkOk_by (own := [("_law_sign", 6)]) (N := n__law_fillings) (sc := defScope s__law_fillings) (by decide +kernel)) (fun _ _ _ _ _ => (pg_name (i := 6) nd rfl (Or.inl rfl))) (fun _ _ _ _ _ => pts_nil) (fun _ _ _ _ _ => (pe_op op_addU (pv 5) (pv 6)))) pa_nil)))))
    (pss_one (ps_set (i := 1) nd rfl (Or.inl rfl) (pv 4)))))))
    (pss_one (ps_ret (pv 1)))))

def t__law_paper_so (K : PySem.W.Frag) (sp_Band___contains__ sp_Band_come sp__law_lines sp__law_same sp_is_made sp_look : Sp) : TS := (tSeq (tAsg (tMeth (He.ga K "Band") "come" sp_Band_come ([.non] : List V) E0 (tVar 0) (tCons (tVar 3) tNil)) (gName 5))
    (tSeq (tIfS (tOr (tNot (tB (tCall sp__law_same (([] : List V).drop 0) E0 (tCons (tVar 5) (tCons (tCall sp__law_lines (([] : List V).drop 0) E0 (tCons (tVar 1) (tCons (tVar 2) (tCons (tVar 3) tNil)))) tNil))))) (tNot (tB (tCall sp__law_same (([] : List V).drop 0) E0 (tCons (tCall sp_look (([] : List V).drop 0) E0 (tCons (tVar 1) (tCons (tVar 2) (tCons (tVar 5) tNil)))) (tCons (tC .non) tNil)))))) (tRet (tC (.bl false))) tNext)
    (tRet (tCall sp__law_same (([] : List V).drop 0) E0 (tCons (tLst (tCons (tOp (rIx K) (tVar 5) (tOp rSubU (tCB (rLen K) (tCons (tVar 5) tNil)) (tC (.int 1)))) (tCons (tCall sp_is_made (([] : List V).drop 0) E0 (tCons (tVar 1) (tCons (tVar 2) (tCons (tVar 3) tNil)))) (tCons (tOp (rInO (He.ga K "Band") sp_Band___contains__ false) (tVar 3) (tVar 0)) tNil)))) (tCons (tLst (tCons (tIf (tTru K (tVar 4)) (tTup (tCons (tC (.str (T [109, 97, 100, 101]))) tNil)) (tTup (tCons (tC (.str (T [98, 97, 114, 114, 101, 100]))) tNil))) (tCons (tVar 4) (tCons (tVar 4) tNil)))) tNil))))))

theorem w__law_paper_so (B : Bl mg) (C_Band : ClsF K "Band" fl_Band) {sp_Band___contains__ : Sp} (G_Band___contains__ : DfM P w K mg base 1 "Band" "__contains__" ["self", "row"] ([] : List V) sp_Band___contains__) {sp_Band_come : Sp} (G_Band_come : DfM P w K mg base 6 "Band" "come" ["self", "row", "seeds"] ([.non] : List V) sp_Band_come) {sp__law_lines : Sp} (G__law_lines : Df P w K mg base 4 "_law_lines" ["_law_frame_here", "_law_stack_here", "_law_r"] [] sp__law_lines) {sp__law_same : Sp} (G__law_same : Df P w K mg base 5 "_law_same" ["_law_found", "_law_due"] [] sp__law_same) {sp_is_made : Sp} (G_is_made : Df P w K mg base 5 "is_made" ["cells", "seeds", "row"] [] sp_is_made) {sp_look : Sp} (G_look : Df P w K mg base 4 "look" ["cells", "seeds", "paper"] [] sp_look) {f : Addr} {cdv : Value} {A : Around} {outer : List Env} {s : Shared} {H : Hp} {E : XK} (hr : Room 6 (A.deeper (envOfC "_law_paper_so" (defScope s__law_paper_so) s.heap.objs.size f cdv))) :
    PSs (cxOf (L2.CX P w) P w K mg base n__law_paper_so "_law_paper_so" (defScope s__law_paper_so) f cdv A outer s H E).nox (defBody s__law_paper_so) (t__law_paper_so K sp_Band___contains__ sp_Band_come sp__law_lines sp__law_same sp_is_made sp_look) := by
  have nd := sc__law_paper_so.nd
  have hu := hr.units
  have hv := units5 hr
  have h1 := units1 hr
  exact (pss_cons (ps_set (i := 5) nd rfl (Or.inl rfl) (pe_dm G_Band_come C_Band (hr.mono (by decide)) (pv 0) (pa_cons (pv 3) pa_nil)))
    (pss_cons (ps_if (PW.pt (pw_or (pt_not (pt_val (pe_df 0 G__law_same (hr.mono (by decide)) (by rfl) (pa_cons (pv 5) (pa_cons (pe_df 0 G__law_lines (hr.mono (by decide)) (by rfl) (pa_cons (pv 1) (pa_cons (pv 2) (pa_cons (pv 3) pa_nil)))) pa_nil))))) (pw_or1 (pt_not (pt_val (pe_df 0 G__law_same (hr.mono (by decide)) (by rfl) (pa_cons (pe_df 0 G_look (hr.mono (by decide)) (by rfl) (pa_cons (pv 1) (pa_cons (pv 2) (pa_cons (pv 5) pa_nil)))) (pa_cons pe_non pa_nil)))))))) (pss_one (ps_ret pe_bl)) pss_nil)
    (pss_one (ps_ret (pe_df 0 G__law_same (hr.mono (by decide)) (by rfl) (pa_cons (pe_lst (pa_cons (pe_ix ix_seq (pv 5) (pe_op op_subU (pe_callB call_lenU (by rfl) B.f_len (by decide +kernel) (pa_cons (pv 5) pa_nil)) pe_int) (fun _ _ => rfl)) (pa_cons (pe_df 0 G_is_made (hr.mono (by decide)) (by rfl) (pa_cons (pv 1) (pa_cons (pv 2) (pa_cons (pv 3) pa_nil)))) (pa_cons (pe_cmpR (op_inD2 G_Band___contains__ (hr.mono (by decide))) (pv 3) (pv 0) (by rfl)) pa_nil)))) (pa_cons (pe_lst (pa_cons (pe_ifExp (pt_tru (pv 4)) (pe_tup (pa_cons (pe_strT (by decide +kernel)) pa_nil)) (pe_tup (pa_cons (pe_strT (by decide +kernel)) pa_nil))) (pa_cons (pv 4) (pa_cons (pv 4) pa_nil)))) pa_nil)))))))

def t_law (K : PySem.W.Frag) (sp_Band___contains__ sp_Band___init__ sp_Band___len__ sp_Band_full_rows sp_Band_lots sp_Band_rows sp__law_bag sp__law_draw sp__law_fillings sp__law_frame sp__law_lot sp__law_lots sp__law_of sp__law_paper_so sp__law_rows sp__law_same sp__law_size sp__law_stack sp_over sp_union : Sp) : TS := (tSeq (tAsg (tCall sp__law_bag (([] : List V).drop 0) E0 (tCons (tVar 0) tNil)) (gName 1))
    (tSeq (tAsg (tCall sp__law_frame (([] : List V).drop 0) E0 (tCons (tVar 1) (tCons (tCall sp__law_size (([] : List V).drop 0) E0 (tCons (tVar 1) tNil)) (tCons (tC (.int 3)) tNil)))) (gName 2))
    (tSeq (tAsg (tCall sp__law_stack (([] : List V).drop 0) E0 (tCons (tVar 1) (tCons (tVar 2) (tCons (tOp (rAddU K) (tC (.int 2)) (tCall sp__law_draw (([] : List V).drop 0) E0 (tCons (tVar 1) (tCons (tC (.int 4)) tNil)))) tNil)))) (gName 3))
    (tSeq (tAsg (tCall sp__law_rows (([] : List V).drop 0) E0 (tCons (tVar 3) (tCons (tCB (rLen K) (tCons (tVar 2) tNil)) (tCons (tC (.int 40)) tNil)))) (gName 4))
    (tSeq (tIfS (tTest (tOp rIsN (tVar 4) (tC .non))) (tRet (tC (.bl true))) tNext)
    (tSeq (tAsg (tMake (He.ga K "Band") sp_Band___init__ ([.int 800] : List V) E0 (tCons (tVar 2) (tCons (tVar 3) tNil))) (gName 5))
    (tSeq (tAsg (tLc (iSrc K (tVar 4)) (gName 19) (tTest (tOp (rNiU K) (tC (.str (T [46]))) (tVar 19))) (tVar 19) [19]) (gName 6))
    (tSeq (tAsg (tCall sp__law_lots (([] : List V).drop 0) E0 (tCons (tLc (iSrc K (tVar 4)) (gName 19) tYes (tCall sp__law_lot (([] : List V).drop 0) E0 (tCons (tVar 19) tNil)) [19]) tNil)) (gName 7))
    (tSeq (tIfS (tNot (tB (tCall sp__law_same (([] : List V).drop 0) E0 (tCons (tLst (tCons (tMeth (He.ga K "Band") "rows" sp_Band_rows ([] : List V) E0 (tVar 5) tNil) (tCons (tMeth (He.ga K "Band") "full_rows" sp_Band_full_rows ([] : List V) E0 (tVar 5) tNil) (tCons (tMeth (He.ga K "Band") "lots" sp_Band_lots ([] : List V) E0 (tVar 5) tNil) (tCons (tCB (rLenO (He.ga K "Band") sp_Band___len__) (tCons (tVar 5) tNil)) tNil))))) (tCons (tLst (tCons (tVar 4) (tCons (tVar 6) (tCons (tVar 7) (tCons (tCB (rLen K) (tCons (tVar 4) tNil)) tNil))))) tNil))))) (tRet (tC (.bl false))) tNext)
    (tSeq (tAsg (tCall sp__law_fillings (([] : List V).drop 0) E0 (tCons (tVar 2) tNil)) (gName 8))
    (tSeq (tAsg (tOp (rAddU K) (tC (.int 1)) (tOp rDivU (tCB (rLen K) (tCons (tVar 8) tNil)) (tC (.int 250)))) (gName 9))
    (tSeq (tAsg (tCall sp__law_draw (([] : List V).drop 0) E0 (tCons (tVar 1) (tCons (tVar 9) tNil))) (gName 10))
    (tSeq (tAsg (tLc (iRng1 (tCons (tCB (rLen K) (tCons (tVar 8) tNil)) tNil)) (gName 13) (tOr (tTest (tOp (rEqU K) (tOp rModU (tCB (rInt1) (tCons (tVar 13) tNil)) (tVar 9)) (tVar 10))) (tTest (tOp (rInU K) (tOp (rIx K) (tVar 8) (tVar 13)) (tVar 4)))) (tOp (rIx K) (tVar 8) (tVar 13)) [13]) (gName 11))
    (tSeq (tAsg (tLc (iSrc K (tVar 11)) (gName 19) (tTest (tOp (rInO (He.ga K "Band") sp_Band___contains__ false) (tVar 19) (tVar 5))) (tVar 19) [19]) (gName 12))
    (tSeq (tIfS (tNot (tB (tCall sp__law_same (([] : List V).drop 0) E0 (tCons (tVar 12) (tCons (tVar 4) tNil))))) (tRet (tC (.bl false))) tNext)
    (tSeq (tAsg (tOp (rAddU K) (tC (.int 1)) (tOp rDivU (tCB (rLen K) (tCons (tVar 11) tNil)) (tC (.int 50)))) (gName 9))
    (tSeq (tAsg (tCall sp__law_draw (([] : List V).drop 0) E0 (tCons (tVar 1) (tCons (tVar 9) tNil))) (gName 10))
    (tSeq (tFor (iRng1 (tCons (tCB (rLen K) (tCons (tVar 11) tNil)) tNil)) (gName 13)
    (tIfS (tOr (tTest (tOp (rEqU K) (tOp rModU (tCB (rInt1) (tCons (tVar 13) tNil)) (tVar 9)) (tVar 10))) (tTest (tOp (rInU K) (tOp (rIx K) (tVar 11) (tVar 13)) (tVar 4)))) (tIfS (tNot (tB (tCall sp__law_paper_so (([] : List V).drop 0) E0 (tCons (tVar 5) (tCons (tVar 2) (tCons (tVar 3) (tCons (tOp (rIx K) (tVar 11) (tVar 13)) (tCons (tOp (rInU K) (tOp (rIx K) (tVar 11) (tVar 13)) (tVar 4)) tNil)))))))) (tRet (tC (.bl false))) tNext) tNext))
    (tSeq (tFor (iRng1 (tCons (tC (.int 12)) tNil)) (gName 14)
    (tSeq (tPar 15 16 (tCons (tCall sp__law_of (([] : List V).drop 0) E0 (tCons (tVar 1) (tCons (tVar 4) tNil))) (tCons (tCall sp__law_of (([] : List V).drop 0) E0 (tCons (tVar 1) (tCons (tVar 4) tNil))) tNil)))
    (tSeq (tPar 17 18 (tCons (tCall sp__law_lot (([] : List V).drop 0) E0 (tCons (tVar 15) tNil)) (tCons (tCall sp__law_lot (([] : List V).drop 0) E0 (tCons (tVar 16) tNil)) tNil)))
    (tIfS (tOr (tTest (tOp (rInO (He.ga K "Band") sp_Band___contains__ true) (tCall sp_over (([] : List V).drop 0) E0 (tCons (tVar 15) (tCons (tVar 16) tNil))) (tVar 5))) (tOr (tTest (tOp (rNiU K) (tCall sp_over (([] : List V).drop 0) E0 (tCons (tVar 15) (tCons (tVar 16) tNil))) (tVar 4))) (tTest (tOp (rNiU K) (tCall sp_union (([] : List V).drop 0) E0 (tCons (tVar 17) (tCons (tVar 18) tNil))) (tVar 7))))) (tRet (tC (.bl false))) tNext))))
    (tRet (tCall sp__law_same (([] : List V).drop 0) E0 (tCons (tLst (tCons (tMeth (He.ga K "Band") "rows" sp_Band_rows ([] : List V) E0 (tVar 5) tNil) (tCons (tOp rGtU (tCB (rLen K) (tCons (tVar 6) tNil)) (tC (.int 0))) tNil))) (tCons (tLst (tCons (tVar 4) (tCons (tC (.bl true)) tNil))) tNil)))))))))))))))))))))))

theorem w_law (B : Bl mg) (C_Band : ClsF K "Band" fl_Band) {sp_Band___contains__ : Sp} (G_Band___contains__ : DfM P w K mg base 1 "Band" "__contains__" ["self", "row"] ([] : List V) sp_Band___contains__) {sp_Band___init__ : Sp} (G_Band___init__ : DfI P w K mg base 5 "Band" ["self", "cells", "seeds", "most"] ([.int 800] : List V) sp_Band___init__) {sp_Band___len__ : Sp} (G_Band___len__ : DfM P w K mg base 1 "Band" "__len__" ["self"] ([] : List V) sp_Band___len__) {sp_Band_full_rows : Sp} (G_Band_full_rows : DfM P w K mg base 1 "Band" "full_rows" ["self"] ([] : List V) sp_Band_full_rows) {sp_Band_lots : Sp} (G_Band_lots : DfM P w K mg base 1 "Band" "lots" ["self"] ([] : List V) sp_Band_lots) {sp_Band_rows : Sp} (G_Band_rows : DfM P w K mg base 1 "Band" "rows" ["self"] ([] : List V) sp_Band_rows) {sp__law_bag : Sp} (G__law_bag : Df P w K mg base 1 "_law_bag" ["_law_script"] [] sp__law_bag) {sp__law_draw : Sp} (G__law_draw : Df P w K mg base 1 "_law_draw" ["_law_bag_here", "_law_sides"] [] sp__law_draw) {sp__law_fillings : Sp} (G__law_fillings : Df P w K mg base 1 "_law_fillings" ["_law_frame_here"] [] sp__law_fillings) {sp__law_frame : Sp} (G__law_frame : Df P w K mg base 4 "_law_frame" ["_law_bag_here", "_law_size_here", "_law_widest"] [] sp__law_frame) {sp__law_lot : Sp} (G__law_lot : Df P w K mg base 1 "_law_lot" ["_law_r"] [] sp__law_lot) {sp__law_lots : Sp} (G__law_lots : Df P w K mg base 2 "_law_lots" ["_law_told"] [] sp__law_lots) {sp__law_of : Sp} (G__law_of : Df P w K mg base 2 "_law_of" ["_law_bag_here", "_law_things"] [] sp__law_of) {sp__law_paper_so : Sp} (G__law_paper_so : Df P w K mg base 7 "_law_paper_so" ["_law_band", "_law_frame_here", "_law_stack_here", "_law_r", "_law_made"] [] sp__law_paper_so) {sp__law_rows : Sp} (G__law_rows : Df P w K mg base 2 "_law_rows" ["_law_stack_here", "_law_wide", "_law_cap"] [] sp__law_rows) {sp__law_same : Sp} (G__law_same : Df P w K mg base 5 "_law_same" ["_law_found", "_law_due"] [] sp__law_same) {sp__law_size : Sp} (G__law_size : Df P w K mg base 3 "_law_size" ["_law_bag_here"] [] sp__law_size) {sp__law_stack : Sp} (G__law_stack : Df P w K mg base 3 "_law_stack" ["_law_bag_here", "_law_frame_here", "_law_size_here"] [] sp__law_stack) {sp_over : Sp} (G_over : Df P w K mg base 1 "over" ["newer", "older"] [] sp_over) {sp_union : Sp} (G_union : Df P w K mg base 1 "union" ["one", "other"] [] sp_union) {f : Addr} {cdv : Value} {A : Around} {outer : List Env} {s : Shared} {H : Hp} {E : XK} (hr : Room 7 (A.deeper (envOfC "law" (defScope s_law) s.heap.objs.size f cdv))) :
    PSs (cxOf (L2.CX P w) P w K mg base n_law "law" (defScope s_law) f cdv A outer s H E).nox (defBody s_law) (t_law K sp_Band___contains__ sp_Band___init__ sp_Band___len__ sp_Band_full_rows sp_Band_lots sp_Band_rows sp__law_bag sp__law_draw sp__law_fillings sp__law_frame sp__law_lot sp__law_lots sp__law_of sp__law_paper_so sp__law_rows sp__law_same sp__law_size sp__law_stack sp_over sp_union) := by
  have nd := sc_law.nd
  have hu := hr.units
  have hv := units5 hr
  have h1 := units1 hr
  exact (pss_cons (ps_set (i := 1) nd rfl (Or.inl rfl) (pe_df 0 G__law_bag (hr.mono (by decide)) (by rfl) (pa_cons (pv 0) pa_nil)))
    (pss_cons (ps_set (i := 2) nd rfl (Or.inl rfl) (pe_df 0 G__law_frame (hr.mono (by decide)) (by rfl) (pa_cons (pv 1) (pa_cons (pe_df 0 G__law_size (hr.mono (by decide)) (by rfl) (pa_cons (pv 1) pa_nil)) (pa_cons pe_int pa_nil)))))
    (pss_cons (ps_set (i := 3) nd rfl (Or.inl rfl) (pe_df 0 G__law_stack (hr.mono (by decide)) (by rfl) (pa_cons (pv 1) (pa_cons (pv 2) (pa_cons (pe_op op_addU pe_int (pe_df 0 G__law_draw (hr.mono (by decide)) (by rfl) (pa_cons (pv 1) (pa_cons pe_int pa_nil)))) pa_nil)))))
    (pss_cons (ps_set (i := 4) nd rfl (Or.inr rfl) (pe_df 0 G__law_rows (hr.mono (by decide)) (by rfl) (pa_cons (pv 3) (pa_cons (pe_callB call_lenU (by rfl) B.f_len (by decide +kernel) (pa_cons (pv 2) pa_nil)) (pa_cons pe_int pa_nil)))))
    (pss_cons (ps_if (pt_cmpR op_isN1 (pv 4) pe_non (nomark _)) (pss_one (ps_ret pe_bl)) pss_nil)
    (pss_cons (ps_set (i := 5) nd rfl (Or.inr rfl) (pe_di G_Band___init__ (hr.mono (by decide)) (by rfl) (pa_cons (pv 2) (pa_cons (pv 3) pa_nil))))
    (pss_cons (ps_setLc (i := 6) (own := [("_law_r", 19)]) rfl nd rfl rfl (sw_true rfl rfl rfl (by decide +kernel)) (pi_src (pv 4)) (blkOk_by (own := [("_law_r", 19)]) (N := n_law) (sc := defScope s_law) (by decide +kernel)) (fun _ _ _ _ _ => (pg_name (i := 19) nd rfl (Or.inl rfl))) (fun _ _ _ _ _ => (pts_one (pt_cmpR (op_niU hv) (pe_strT (by decide +kernel)) (pv 19) (by rfl)))) (fun _ _ _ _ _ => (pv 19)))
    (pss_cons (ps_set (i := 7) nd rfl (Or.inl rfl) (pe_df 0 G__law_lots (hr.mono (by decide)) (by rfl) (pa_cons (pe_lc (own := [("_law_r", 19)]) rfl nd (pi_src (pv 4)) (blkOk_by (own := [("_law_r", 19)]) (N := n_law) (sc := defScope s_law) (by decide +kernel)) (fun _ _ _ _ _ => (pg_name (i := 19) nd rfl (Or.inl rfl))) (fun _ _ _ _ _ => pts_nil) (fun _ _ _ _ _ => (pe_df 0 G__law_lot (hr.mono (by decide)) (by rfl) (pa_cons (pv 19) pa_nil)))) pa_nil)))
    (pss_cons (ps_if (pt_not (pt_val (pe_df 0 G__law_same (hr.mono (by decide)) (by rfl) (pa_cons (pe_lst (pa_cons (pe_dm0 G_Band_rows C_Band (hr.mono (by decide)) (pv 5)) (pa_cons (pe_dm0 G_Band_full_rows C_Band (hr.mono (by decide)) (pv 5)) (pa_cons (pe_dm0 G_Band_lots C_Band (hr.mono (by decide)) (pv 5)) (pa_cons (pe_callB (call_lenD G_Band___len__ (hr.mono (by decide))) (by rfl) B.f_len (by decide +kernel) (pa_cons (pv 5) pa_nil)) pa_nil))))) (pa_cons (pe_lst (pa_cons (pv 4) (pa_cons (pv 6) (pa_cons (pv 7) (pa_cons (pe_callB call_lenU (by rfl) B.f_len (by decide +kernel) (pa_cons (pv 4) pa_nil)) pa_nil))))) pa_nil))))) (pss_one (ps_ret pe_bl)) pss_nil)
    (pss_cons (ps_set (i := 8) nd rfl (Or.inr rfl) (pe_df 0 G__law_fillings (hr.mono (by decide)) (by rfl) (pa_cons (pv 2) pa_nil)))
    (pss_cons (ps_set (i := 9) nd rfl (Or.inr rfl) (pe_op op_addU pe_int (pe_op op_divU (pe_callB call_lenU (by rfl) B.f_len (by decide +kernel) (pa_cons (pv 8) pa_nil)) pe_int)))
    (pss_cons (ps_set (i := 10) nd rfl (Or.inr rfl) (pe_df 0 G__law_draw (hr.mono (by decide)) (by rfl) (pa_cons (pv 1) (pa_cons (pv 9) pa_nil))))
    (pss_cons (ps_setLc (i := 11) (own := [("_law_k", 13)]) rfl nd rfl rfl (sw_true rfl rfl rfl (by decide +kernel)) (pi_range1 (by rfl) B.f_range (pa_cons (pe_callB call_lenU (by rfl) B.f_len (by decide +kernel) (pa_cons (pv 8) pa_nil)) pa_nil)) (blkOk_by (own := [("_law_k", 13)]) (N := n_law) (sc := defScope s_law) (by decide +kernel)) (fun _ _ _ _ _ => (pg_name (i := 13) nd rfl (Or.inl rfl))) (fun _ _ _ _ _ => (pts_one (PW.pt (pw_or (pt_cmpR (op_eqU hu) (pe_op op_modU (pe_callTy call_intU (by rfl) B.f_int (by decide +kernel) (pa_cons (pv 13) pa_nil)) (pv 9)) (pv 10) (nomark _)) (pw_or1 (pt_cmpR (op_inU hv) (pe_ix ix_seq (pv 8) (pv 13) (fun _ _ => rfl)) (pv 4) (by rfl))))))) (fun _ _ _ _ _ => (pe_ix ix_seq (pv 8) (pv 13) (fun _ _ => rfl))))
    (pss_cons (ps_setLc (i := 12) (own := [("_law_r", 19)]) rfl nd rfl rfl (sw_true rfl rfl rfl (by decide +kernel)) (pi_src (pv 11)) (blkOk_by (own := [("_law_r", 19)]) (N := n_law) (sc := defScope s_law) (by decide +kernel)) (fun _ _ _ _ _ => (pg_name (i := 19) nd rfl (Or.inl rfl))) (fun _ _ _ _ _ => (pts_one (pt_cmpR (op_inD2 G_Band___contains__ (hr.mono (by decide))) (pv 19) (pv 5) (by rfl)))) (fun _ _ _ _ _ => (pv 19)))
    (pss_cons (ps_if (pt_not (pt_val (pe_df 0 G__law_same (hr.mono (by decide)) (by rfl) (pa_cons (pv 12) (pa_cons (pv 4) pa_nil))))) (pss_one (ps_ret pe_bl)) pss_nil)
    (pss_cons (ps_set (i := 9) nd rfl (Or.inr rfl) (pe_op op_addU pe_int (pe_op op_divU (pe_callB call_lenU (by rfl) B.f_len (by decide +kernel) (pa_cons (pv 11) pa_nil)) pe_int)))
    (pss_cons (ps_set (i := 10) nd rfl (Or.inr rfl) (pe_df 0 G__law_draw (hr.mono (by decide)) (by rfl) (pa_cons (pv 1) (pa_cons (pv 9) pa_nil))))
    (pss_cons (ps_for PassesOwn.never rfl (pi_range1 (by rfl) B.f_range (pa_cons (pe_callB call_lenU (by rfl) B.f_len (by decide +kernel) (pa_cons (pv 11) pa_nil)) pa_nil)) (pg_name (i := 13) nd rfl (Or.inl rfl))
    (pss_one (ps_if (PW.pt (pw_or (pt_cmpR (op_eqU hu) (pe_op op_modU (pe_callTy call_intU (by rfl) B.f_int (by decide +kernel) (pa_cons (pv 13) pa_nil)) (pv 9)) (pv 10) (nomark _)) (pw_or1 (pt_cmpR (op_inU hv) (pe_ix ix_seq (pv 11) (pv 13) (fun _ _ => rfl)) (pv 4) (by rfl))))) (pss_one (ps_if (pt_not (pt_val (pe_df 0 G__law_paper_so (hr.mono (by decide)) (by rfl) (pa_cons (pv 5) (pa_cons (pv 2) (pa_cons (pv 3) (pa_cons (pe_ix ix_seq (pv 11) (pv 13) (fun _ _ => rfl)) (pa_cons (pe_cmpR (op_inU hv) (pe_ix ix_seq (pv 11) (pv 13) (fun _ _ => rfl)) (pv 4) (by rfl)) pa_nil)))))))) (pss_one (ps_ret pe_bl)) pss_nil)) pss_nil)))
    (pss_cons (ps_for PassesOwn.never rfl (pi_range1 (by rfl) B.f_range (pa_cons pe_int pa_nil)) (pg_name (i := 14) nd rfl (Or.inl rfl))
    (pss_cons (ps_par (i := 15) (j := 16) (by rfl) nd rfl rfl (by decide) rfl rfl (pa_cons (pe_df 0 G__law_of (hr.mono (by decide)) (by rfl) (pa_cons (pv 1) (pa_cons (pv 4) pa_nil))) (pa_cons (pe_df 0 G__law_of (hr.mono (by decide)) (by rfl) (pa_cons (pv 1) (pa_cons (pv 4) pa_nil))) pa_nil)) (by rfl))
    (pss_cons (ps_par (i := 17) (j := 18) (by rfl) nd rfl rfl (by decide) rfl rfl (pa_cons (pe_df 0 G__law_lot (hr.mono (by decide)) (by rfl) (pa_cons (pv 15) pa_nil)) (pa_cons (pe_df 0 G__law_lot (hr.mono (by decide)) (by rfl) (pa_cons (pv 16) pa_nil)) pa_nil)) (by rfl))
    (pss_one (ps_if (PW.pt (pw_or (pt_cmpR (op_niD2 G_Band___contains__ (hr.mono (by decide))) (pe_df 0 G_over (hr.mono (by decide)) (by rfl) (pa_cons (pv 15) (pa_cons (pv 16) pa_nil))) (pv 5) (by rfl)) (pw_or (pt_cmpR (op_niU hv) (pe_df 0 G_over (hr.mono (by decide)) (by rfl) (pa_cons (pv 15) (pa_cons (pv 16) pa_nil))) (pv 4) (by rfl)) (pw_or1 (pt_cmpR (op_niU hv) (pe_df 0 G_union (hr.mono (by decide)) (by rfl) (pa_cons (pv 17) (pa_cons (pv 18) pa_nil))) (pv 7) (by rfl)))))) (pss_one (ps_ret pe_bl)) pss_nil)))))
    (pss_one (ps_ret (pe_df 0 G__law_same (hr.mono (by decide)) (by rfl) (pa_cons (pe_lst (pa_cons (pe_dm0 G_Band_rows C_Band (hr.mono (by decide)) (pv 5)) (pa_cons (pe_cmpR op_gtU (pe_callB call_lenU (by rfl) B.f_len (by decide +kernel) (pa_cons (pv 6) pa_nil)) pe_int (nomark _)) pa_nil))) (pa_cons (pe_lst (pa_cons (pv 4) (pa_cons pe_bl pa_nil))) pa_nil))))))))))))))))))))))))

end
end G08

set_option maxHeartbeats 0
namespace Hd08
open PySem PySem.Spec PyProof.Rows Nt G08
open L2 hiding rLen
def d_come_coming : DefX := ⟨fun K => He.ga K "come_coming", "come", "come", defArgs G08.s_come, defBody G08.s_come, defScope G08.s_come, [], []⟩
def d_is_name : DefX := ⟨fun K => He.ga K "is_name", "is_name", "is_name", defArgs G08.s_is_name, defBody G08.s_is_name, defScope G08.s_is_name, [], []⟩
def d_is_number : DefX := ⟨fun K => He.ga K "is_number", "is_number", "is_number", defArgs G08.s_is_number, defBody G08.s_is_number, defScope G08.s_is_number, [], []⟩
def d_check_cells : DefX := ⟨fun K => He.ga K "check_cells", "check_cells", "check_cells", defArgs G08.s_check_cells, defBody G08.s_check_cells, defScope G08.s_check_cells, [], []⟩
def d_is_row : DefX := ⟨fun K => He.ga K "is_row", "is_row", "is_row", defArgs G08.s_is_row, defBody G08.s_is_row, defScope G08.s_is_row, [], []⟩
def d_over : DefX := ⟨fun K => He.ga K "over", "over", "over", defArgs G08.s_over, defBody G08.s_over, defScope G08.s_over, [], []⟩
def d_lot_of : DefX := ⟨fun K => He.ga K "lot_of", "lot_of", "lot_of", defArgs G08.s_lot_of, defBody G08.s_lot_of, defScope G08.s_lot_of, [], []⟩
def d_blank : DefX := ⟨fun K => He.ga K "blank", "blank", "blank", defArgs G08.s_blank, defBody G08.s_blank, defScope G08.s_blank, [], []⟩
def d_union : DefX := ⟨fun K => He.ga K "union", "union", "union", defArgs G08.s_union, defBody G08.s_union, defScope G08.s_union, [], []⟩
def d_lot_size : DefX := ⟨fun K => He.ga K "lot_size", "lot_size", "lot_size", defArgs G08.s_lot_size, defBody G08.s_lot_size, defScope G08.s_lot_size, [], []⟩
def d_ordered_lots : DefX := ⟨fun K => He.ga K "ordered_lots", "ordered_lots", "ordered_lots", defArgs G08.s_ordered_lots, defBody G08.s_ordered_lots, defScope G08.s_ordered_lots, [], []⟩
def d_new_places : DefX := ⟨fun K => He.ga K "new_places", "new_places", "new_places", defArgs G08.s_new_places, defBody G08.s_new_places, defScope G08.s_new_places, [], []⟩
def d_can_take : DefX := ⟨fun K => He.ga K "can_take", "can_take", "can_take", defArgs G08.s_can_take, defBody G08.s_can_take, defScope G08.s_can_take, [], []⟩
def d_first_to_take : DefX := ⟨fun K => He.ga K "first_to_take", "first_to_take", "first_to_take", defArgs G08.s_first_to_take, defBody G08.s_first_to_take, defScope G08.s_first_to_take, [], []⟩
def d_taking : DefX := ⟨fun K => He.ga K "taking", "taking", "taking", defArgs G08.s_taking, defBody G08.s_taking, defScope G08.s_taking, [], []⟩
def d_bar_lines : DefX := ⟨fun K => He.ga K "bar_lines", "bar_lines", "bar_lines", defArgs G08.s_bar_lines, defBody G08.s_bar_lines, defScope G08.s_bar_lines, [], []⟩
def d_come : DefX := ⟨fun K => He.ga K "come", "come", "come", defArgs G08.s_come, defBody G08.s_come, defScope G08.s_come, [], []⟩
def d_is_made : DefX := ⟨fun K => He.ga K "is_made", "is_made", "is_made", defArgs G08.s_is_made, defBody G08.s_is_made, defScope G08.s_is_made, [], []⟩
def d_has_form : DefX := ⟨fun K => He.ga K "has_form", "has_form", "has_form", defArgs G08.s_has_form, defBody G08.s_has_form, defScope G08.s_has_form, [], []⟩
def d_next_to_bar : DefX := ⟨fun K => He.ga K "next_to_bar", "next_to_bar", "next_to_bar", defArgs G08.s_next_to_bar, defBody G08.s_next_to_bar, defScope G08.s_next_to_bar, [], []⟩
def d_take_holds : DefX := ⟨fun K => He.ga K "take_holds", "take_holds", "take_holds", defArgs G08.s_take_holds, defBody G08.s_take_holds, defScope G08.s_take_holds, [], []⟩
def d_bar_holds : DefX := ⟨fun K => He.ga K "bar_holds", "bar_holds", "bar_holds", defArgs G08.s_bar_holds, defBody G08.s_bar_holds, defScope G08.s_bar_holds, [], []⟩
def d_last_holds : DefX := ⟨fun K => He.ga K "last_holds", "last_holds", "last_holds", defArgs G08.s_last_holds, defBody G08.s_last_holds, defScope G08.s_last_holds, [], []⟩
def d_look : DefX := ⟨fun K => He.ga K "look", "look", "look", defArgs G08.s_look, defBody G08.s_look, defScope G08.s_look, [], []⟩
def d_check_seeds : DefX := ⟨fun K => He.ga K "check_seeds", "check_seeds", "check_seeds", defArgs G08.s_check_seeds, defBody G08.s_check_seeds, defScope G08.s_check_seeds, [], []⟩
def d_grown_rows : DefX := ⟨fun K => He.ga K "grown_rows", "grown_rows", "grown_rows", defArgs G08.s_grown_rows, defBody G08.s_grown_rows, defScope G08.s_grown_rows, [], []⟩
def d_Band___init__ : DefX := ⟨fun K => He.ma K (He.ga K "Band") "__init__", "__init__", "Band.__init__", defArgs G08.s_Band___init__, defBody G08.s_Band___init__, defScope G08.s_Band___init__, [], [("most", .int 800)]⟩
def d_Band_rows : DefX := ⟨fun K => He.ma K (He.ga K "Band") "rows", "rows", "Band.rows", defArgs G08.s_Band_rows, defBody G08.s_Band_rows, defScope G08.s_Band_rows, [], []⟩
def d_Band_full_rows : DefX := ⟨fun K => He.ma K (He.ga K "Band") "full_rows", "full_rows", "Band.full_rows", defArgs G08.s_Band_full_rows, defBody G08.s_Band_full_rows, defScope G08.s_Band_full_rows, [], []⟩
def d_Band_lots : DefX := ⟨fun K => He.ma K (He.ga K "Band") "lots", "lots", "Band.lots", defArgs G08.s_Band_lots, defBody G08.s_Band_lots, defScope G08.s_Band_lots, [], []⟩
def d_Band_come : DefX := ⟨fun K => He.ma K (He.ga K "Band") "come", "come", "Band.come", defArgs G08.s_Band_come, defBody G08.s_Band_come, defScope G08.s_Band_come, [], [("seeds", .non)]⟩
def d_Band___contains__ : DefX := ⟨fun K => He.ma K (He.ga K "Band") "__contains__", "__contains__", "Band.__contains__", defArgs G08.s_Band___contains__, defBody G08.s_Band___contains__, defScope G08.s_Band___contains__, [], []⟩
def d_Band___len__ : DefX := ⟨fun K => He.ma K (He.ga K "Band") "__len__", "__len__", "Band.__len__", defArgs G08.s_Band___len__, defBody G08.s_Band___len__, defScope G08.s_Band___len__, [], []⟩
def d__law_bag : DefX := ⟨fun K => He.ga K "_law_bag", "_law_bag", "_law_bag", defArgs G08.s__law_bag, defBody G08.s__law_bag, defScope G08.s__law_bag, [], []⟩
def d__law_draw : DefX := ⟨fun K => He.ga K "_law_draw", "_law_draw", "_law_draw", defArgs G08.s__law_draw, defBody G08.s__law_draw, defScope G08.s__law_draw, [], []⟩
def d__law_of : DefX := ⟨fun K => He.ga K "_law_of", "_law_of", "_law_of", defArgs G08.s__law_of, defBody G08.s__law_of, defScope G08.s__law_of, [], []⟩
def d__law_same : DefX := ⟨fun K => He.ga K "_law_same", "_law_same", "_law_same", defArgs G08.s__law_same, defBody G08.s__law_same, defScope G08.s__law_same, [], []⟩
def d__law_title : DefX := ⟨fun K => He.ga K "_law_title", "_law_title", "_law_title", defArgs G08.s__law_title, defBody G08.s__law_title, defScope G08.s__law_title, [], []⟩
def d__law_frame : DefX := ⟨fun K => He.ga K "_law_frame", "_law_frame", "_law_frame", defArgs G08.s__law_frame, defBody G08.s__law_frame, defScope G08.s__law_frame, [], []⟩
def d__law_row : DefX := ⟨fun K => He.ga K "_law_row", "_law_row", "_law_row", defArgs G08.s__law_row, defBody G08.s__law_row, defScope G08.s__law_row, [.int 2], []⟩
def d__law_once : DefX := ⟨fun K => He.ga K "_law_once", "_law_once", "_law_once", defArgs G08.s__law_once, defBody G08.s__law_once, defScope G08.s__law_once, [], []⟩
def d__law_stack : DefX := ⟨fun K => He.ga K "_law_stack", "_law_stack", "_law_stack", defArgs G08.s__law_stack, defBody G08.s__law_stack, defScope G08.s__law_stack, [], []⟩
def d__law_size : DefX := ⟨fun K => He.ga K "_law_size", "_law_size", "_law_size", defArgs G08.s__law_size, defBody G08.s__law_size, defScope G08.s__law_size, [], []⟩
def d__law_lay : DefX := ⟨fun K => He.ga K "_law_lay", "_law_lay", "_law_lay", defArgs G08.s__law_lay, defBody G08.s__law_lay, defScope G08.s__law_lay, [], []⟩
def d__law_lot : DefX := ⟨fun K => He.ga K "_law_lot", "_law_lot", "_law_lot", defArgs G08.s__law_lot, defBody G08.s__law_lot, defScope G08.s__law_lot, [], []⟩
def d__law_join : DefX := ⟨fun K => He.ga K "_law_join", "_law_join", "_law_join", defArgs G08.s__law_join, defBody G08.s__law_join, defScope G08.s__law_join, [], []⟩
def d__law_lots : DefX := ⟨fun K => He.ga K "_law_lots", "_law_lots", "_law_lots", defArgs G08.s__law_lots, defBody G08.s__law_lots, defScope G08.s__law_lots, [], []⟩
def d__law_rows : DefX := ⟨fun K => He.ga K "_law_rows", "_law_rows", "_law_rows", defArgs G08.s__law_rows, defBody G08.s__law_rows, defScope G08.s__law_rows, [], []⟩
def d__law_fresh : DefX := ⟨fun K => He.ga K "_law_fresh", "_law_fresh", "_law_fresh", defArgs G08.s__law_fresh, defBody G08.s__law_fresh, defScope G08.s__law_fresh, [], []⟩
def d__law_fits : DefX := ⟨fun K => He.ga K "_law_fits", "_law_fits", "_law_fits", defArgs G08.s__law_fits, defBody G08.s__law_fits, defScope G08.s__law_fits, [], []⟩
def d__law_greedy : DefX := ⟨fun K => He.ga K "_law_greedy", "_law_greedy", "_law_greedy", defArgs G08.s__law_greedy, defBody G08.s__law_greedy, defScope G08.s__law_greedy, [], []⟩
def d__law_lines : DefX := ⟨fun K => He.ga K "_law_lines", "_law_lines", "_law_lines", defArgs G08.s__law_lines, defBody G08.s__law_lines, defScope G08.s__law_lines, [], []⟩
def d__law_fillings : DefX := ⟨fun K => He.ga K "_law_fillings", "_law_fillings", "_law_fillings", defArgs G08.s__law_fillings, defBody G08.s__law_fillings, defScope G08.s__law_fillings, [], []⟩
def d__law_paper_so : DefX := ⟨fun K => He.ga K "_law_paper_so", "_law_paper_so", "_law_paper_so", defArgs G08.s__law_paper_so, defBody G08.s__law_paper_so, defScope G08.s__law_paper_so, [], []⟩
def d_law : DefX := ⟨fun K => He.ga K "law", "law", "law", defArgs G08.s_law, defBody G08.s_law, defScope G08.s_law, [], []⟩
def fn : List DefX := [d_come_coming, d_is_name, d_is_number, d_check_cells, d_is_row, d_over, d_lot_of, d_blank, d_union, d_lot_size, d_ordered_lots, d_new_places, d_can_take, d_first_to_take, d_taking, d_bar_lines, d_come, d_is_made, d_has_form, d_next_to_bar, d_take_holds, d_bar_holds, d_last_holds, d_look, d_check_seeds, d_grown_rows, d_Band___init__, d_Band_rows, d_Band_full_rows, d_Band_lots, d_Band_come, d_Band___contains__, d_Band___len__, d__law_bag, d__law_draw, d__law_of, d__law_same, d__law_title, d__law_frame, d__law_row, d__law_once, d__law_stack, d__law_size, d__law_lay, d__law_lot, d__law_join, d__law_lots, d__law_rows, d__law_fresh, d__law_fits, d__law_greedy, d__law_lines, d__law_fillings, d__law_paper_so, d_law]
def fa0 : List FaX := [.he (.glo "come_coming"), .he (.glo "is_name"), .he (.glo "is_number"), .he (.glo "check_cells"), .he (.glo "is_row"), .he (.glo "over"), .he (.glo "lot_of"), .he (.glo "blank"), .he (.glo "union"), .he (.glo "lot_size"), .he (.glo "ordered_lots"), .he (.glo "new_places"), .he (.glo "can_take"), .he (.glo "first_to_take"), .he (.glo "taking"), .he (.glo "bar_lines"), .he (.glo "come"), .he (.glo "is_made"), .he (.glo "has_form"), .he (.glo "next_to_bar"), .he (.glo "take_holds"), .he (.glo "bar_holds"), .he (.glo "last_holds"), .he (.glo "look"), .he (.glo "check_seeds"), .he (.glo "grown_rows"), .he (.glo "_law_bag"), .he (.glo "_law_draw"), .he (.glo "_law_of"), .he (.glo "_law_same")]
def fa1 : List FaX := [.he (.glo "_law_title"), .he (.glo "_law_frame"), .he (.glo "_law_row"), .he (.glo "_law_once"), .he (.glo "_law_stack"), .he (.glo "_law_size"), .he (.glo "_law_lay"), .he (.glo "_law_lot"), .he (.glo "_law_join"), .he (.glo "_law_lots"), .he (.glo "_law_rows"), .he (.glo "_law_fresh"), .he (.glo "_law_fits"), .he (.glo "_law_greedy"), .he (.glo "_law_lines"), .he (.glo "_law_fillings"), .he (.glo "_law_paper_so"), .he (.glo "law"), .he (.free "abs"), .he (.free "all"), .he (.free "bool"), .he (.free "dict"), .he (.free "enumerate"), .he (.free "int"), .he (.free "isinstance"), .he (.free "len"), .he (.free "list"), .he (.free "range"), .he (.free "set"), .he (.free "sorted")]
def fa2 : List FaX := [.he (.free "str"), .he (.free "tuple"), .he (.free "zip"), .he (.glo "Band"), .he (.cls "Band"), .he (.noat "Band" "cell_list"), .he (.noat "Band" "seed_list"), .he (.noat "Band" "row_list"), .he (.noat "Band" "known_rows"), .he (.noat "Band" "lot_list"), .he (.mkr "Band"), .he (.meth "Band" "rows"), .he (.meth "Band" "full_rows"), .he (.meth "Band" "lots"), .he (.meth "Band" "come"), .he (.meth "Band" "__contains__"), .he (.meth "Band" "__len__"), .he (.str "LETTERS" "abcdefghijklmnopqrstuvwxyz"), .he (.int "MOST_ROWS" 800), .he (.int "MOST_SEEDS" 30), .he (.int "MOST_CELLS" 12), .he (.int "MOST_VALUES" 4)]
def fa : List FaX := fa0 ++ fa1 ++ fa2
def gl0 : List Str := ["come_coming", "is_name", "is_number", "check_cells", "is_row", "over", "lot_of", "blank", "union", "lot_size", "ordered_lots", "new_places", "can_take", "first_to_take", "taking", "bar_lines", "come", "is_made", "has_form", "next_to_bar", "take_holds", "bar_holds", "last_holds", "look", "check_seeds", "grown_rows", "_law_bag", "_law_draw", "_law_of", "_law_same"]
def gl1 : List Str := ["_law_title", "_law_frame", "_law_row", "_law_once", "_law_stack", "_law_size", "_law_lay", "_law_lot", "_law_join", "_law_lots", "_law_rows", "_law_fresh", "_law_fits", "_law_greedy", "_law_lines", "_law_fillings", "_law_paper_so", "law"]
def gl : List Str := gl0 ++ gl1
def cl : List CM := [("Band", ["__init__", "rows", "full_rows", "lots", "come", "__contains__", "__len__"], [])]
def loose0 : List Str := ["come_coming", "is_name", "is_number", "check_cells", "is_row", "over", "lot_of", "blank", "union", "lot_size", "ordered_lots", "new_places", "can_take", "first_to_take", "taking", "bar_lines", "come", "is_made", "has_form", "next_to_bar", "take_holds", "bar_holds", "last_holds", "look", "check_seeds", "grown_rows", "_law_bag", "_law_draw", "_law_of", "_law_same"]
def loose1 : List Str := ["_law_title", "_law_frame", "_law_row", "_law_once", "_law_stack", "_law_size", "_law_lay", "_law_lot", "_law_join", "_law_lots", "_law_rows", "_law_fresh", "_law_fits", "_law_greedy", "_law_lines", "_law_fillings", "_law_paper_so", "Band", "_wall", "LETTERS", "COUNTS", "cell_of", "seed_of", "leading_cells", "leading_seeds", "TellsError", "BadCells", "BadSeed", "BadRow", "BadNumber"]
def loose2 : List Str := ["TooMany", "Untold", "InvalidText", "MOST_ROWS", "MOST_SEEDS", "MOST_CELLS", "MOST_VALUES"]
def loose : List Str := loose0 ++ loose1 ++ loose2
abbrev R : PySem.W.OpenRow := PySem.W.OpenLaw.row PySem.Challenge.rw_newesttells_k08_whole_rows_by_closure
abbrev hk : PySem.W.Hook := hookX gl cl fa fn
def ob (s : PySem.W.SharedT) : He.AlD := obsXG gl cl fa fn (HandSHeadRun.getT s)
theorem ob_eq (s : PySem.W.SharedT) : ob s = hk.obs s.abs := obsXG_eq (HandSHeadRun.getT_eq s)
theorem run (w : World) : HandSHeadRun.RunEq R (PySem.W.view R.prog [74]) hk ob 8000 loose w := by
  intro os
  kernel_rfl
section
variable {K : PySem.W.Frag} {h : Heap} {mg : Str → Option Value}
theorem at_come_coming (X : K.In h) (G : h.Ns mainGlobals mg) (c : SaysX fa fn K) : AtA K mg "come_coming" "come" G08.s_come ["cells", "seeds", "row"] [] := by
  obtain ⟨fd, F⟩ := c.def_ 0 (d := d_come_coming) rfl
  refine ⟨He.glo_ok X G (c.fact 0 (f := .glo "come_coming") rfl), fd, F, fun j hj => ?_⟩
  exact ⟨[], by cases j <;> exact .nil, F.bindsN fun _ _ _ _ _ _ us hl => match us, hl with | [_,_,_], _ => rfl⟩
theorem at_is_name (X : K.In h) (G : h.Ns mainGlobals mg) (c : SaysX fa fn K) : At K mg "is_name" G08.s_is_name ["value"] [] := by
  obtain ⟨fd, F⟩ := c.def_ 1 (d := d_is_name) rfl
  refine ⟨He.glo_ok X G (c.fact 1 (f := .glo "is_name") rfl), fd, F, fun j hj => ?_⟩
  exact ⟨[], by cases j <;> exact .nil, F.bindsN fun _ _ _ _ _ _ us hl => match us, hl with | [_], _ => rfl⟩
theorem at_is_number (X : K.In h) (G : h.Ns mainGlobals mg) (c : SaysX fa fn K) : At K mg "is_number" G08.s_is_number ["value", "least", "most"] [] := by
  obtain ⟨fd, F⟩ := c.def_ 2 (d := d_is_number) rfl
  refine ⟨He.glo_ok X G (c.fact 2 (f := .glo "is_number") rfl), fd, F, fun j hj => ?_⟩
  exact ⟨[], by cases j <;> exact .nil, F.bindsN fun _ _ _ _ _ _ us hl => match us, hl with | [_,_,_], _ => rfl⟩
theorem at_check_cells (X : K.In h) (G : h.Ns mainGlobals mg) (c : SaysX fa fn K) : At K mg "check_cells" G08.s_check_cells ["cells"] [] := by
  obtain ⟨fd, F⟩ := c.def_ 3 (d := d_check_cells) rfl
  refine ⟨He.glo_ok X G (c.fact 3 (f := .glo "check_cells") rfl), fd, F, fun j hj => ?_⟩
  exact ⟨[], by cases j <;> exact .nil, F.bindsN fun _ _ _ _ _ _ us hl => match us, hl with | [_], _ => rfl⟩
theorem at_is_row (X : K.In h) (G : h.Ns mainGlobals mg) (c : SaysX fa fn K) : At K mg "is_row" G08.s_is_row ["cells", "value"] [] := by
  obtain ⟨fd, F⟩ := c.def_ 4 (d := d_is_row) rfl
  refine ⟨He.glo_ok X G (c.fact 4 (f := .glo "is_row") rfl), fd, F, fun j hj => ?_⟩
  exact ⟨[], by cases j <;> exact .nil, F.bindsN fun _ _ _ _ _ _ us hl => match us, hl with | [_,_], _ => rfl⟩
theorem at_over (X : K.In h) (G : h.Ns mainGlobals mg) (c : SaysX fa fn K) : At K mg "over" G08.s_over ["newer", "older"] [] := by
  obtain ⟨fd, F⟩ := c.def_ 5 (d := d_over) rfl
  refine ⟨He.glo_ok X G (c.fact 5 (f := .glo "over") rfl), fd, F, fun j hj => ?_⟩
  exact ⟨[], by cases j <;> exact .nil, F.bindsN fun _ _ _ _ _ _ us hl => match us, hl with | [_,_], _ => rfl⟩
theorem at_lot_of (X : K.In h) (G : h.Ns mainGlobals mg) (c : SaysX fa fn K) : At K mg "lot_of" G08.s_lot_of ["row"] [] := by
  obtain ⟨fd, F⟩ := c.def_ 6 (d := d_lot_of) rfl
  refine ⟨He.glo_ok X G (c.fact 6 (f := .glo "lot_of") rfl), fd, F, fun j hj => ?_⟩
  exact ⟨[], by cases j <;> exact .nil, F.bindsN fun _ _ _ _ _ _ us hl => match us, hl with | [_], _ => rfl⟩
theorem at_blank (X : K.In h) (G : h.Ns mainGlobals mg) (c : SaysX fa fn K) : At K mg "blank" G08.s_blank ["many"] [] := by
  obtain ⟨fd, F⟩ := c.def_ 7 (d := d_blank) rfl
  refine ⟨He.glo_ok X G (c.fact 7 (f := .glo "blank") rfl), fd, F, fun j hj => ?_⟩
  exact ⟨[], by cases j <;> exact .nil, F.bindsN fun _ _ _ _ _ _ us hl => match us, hl with | [_], _ => rfl⟩
theorem at_union (X : K.In h) (G : h.Ns mainGlobals mg) (c : SaysX fa fn K) : At K mg "union" G08.s_union ["one", "other"] [] := by
  obtain ⟨fd, F⟩ := c.def_ 8 (d := d_union) rfl
  refine ⟨He.glo_ok X G (c.fact 8 (f := .glo "union") rfl), fd, F, fun j hj => ?_⟩
  exact ⟨[], by cases j <;> exact .nil, F.bindsN fun _ _ _ _ _ _ us hl => match us, hl with | [_,_], _ => rfl⟩
theorem at_lot_size (X : K.In h) (G : h.Ns mainGlobals mg) (c : SaysX fa fn K) : At K mg "lot_size" G08.s_lot_size ["lot"] [] := by
  obtain ⟨fd, F⟩ := c.def_ 9 (d := d_lot_size) rfl
  refine ⟨He.glo_ok X G (c.fact 9 (f := .glo "lot_size") rfl), fd, F, fun j hj => ?_⟩
  exact ⟨[], by cases j <;> exact .nil, F.bindsN fun _ _ _ _ _ _ us hl => match us, hl with | [_], _ => rfl⟩
theorem at_ordered_lots (X : K.In h) (G : h.Ns mainGlobals mg) (c : SaysX fa fn K) : At K mg "ordered_lots" G08.s_ordered_lots ["lots"] [] := by
  obtain ⟨fd, F⟩ := c.def_ 10 (d := d_ordered_lots) rfl
  refine ⟨He.glo_ok X G (c.fact 10 (f := .glo "ordered_lots") rfl), fd, F, fun j hj => ?_⟩
  exact ⟨[], by cases j <;> exact .nil, F.bindsN fun _ _ _ _ _ _ us hl => match us, hl with | [_], _ => rfl⟩
theorem at_new_places (X : K.In h) (G : h.Ns mainGlobals mg) (c : SaysX fa fn K) : At K mg "new_places" G08.s_new_places ["seed", "told"] [] := by
  obtain ⟨fd, F⟩ := c.def_ 11 (d := d_new_places) rfl
  refine ⟨He.glo_ok X G (c.fact 11 (f := .glo "new_places") rfl), fd, F, fun j hj => ?_⟩
  exact ⟨[], by cases j <;> exact .nil, F.bindsN fun _ _ _ _ _ _ us hl => match us, hl with | [_,_], _ => rfl⟩
theorem at_can_take (X : K.In h) (G : h.Ns mainGlobals mg) (c : SaysX fa fn K) : At K mg "can_take" G08.s_can_take ["seed", "told", "row"] [] := by
  obtain ⟨fd, F⟩ := c.def_ 12 (d := d_can_take) rfl
  refine ⟨He.glo_ok X G (c.fact 12 (f := .glo "can_take") rfl), fd, F, fun j hj => ?_⟩
  exact ⟨[], by cases j <;> exact .nil, F.bindsN fun _ _ _ _ _ _ us hl => match us, hl with | [_,_,_], _ => rfl⟩
theorem at_first_to_take (X : K.In h) (G : h.Ns mainGlobals mg) (c : SaysX fa fn K) : At K mg "first_to_take" G08.s_first_to_take ["seeds", "told", "row"] [] := by
  obtain ⟨fd, F⟩ := c.def_ 13 (d := d_first_to_take) rfl
  refine ⟨He.glo_ok X G (c.fact 13 (f := .glo "first_to_take") rfl), fd, F, fun j hj => ?_⟩
  exact ⟨[], by cases j <;> exact .nil, F.bindsN fun _ _ _ _ _ _ us hl => match us, hl with | [_,_,_], _ => rfl⟩
theorem at_taking (X : K.In h) (G : h.Ns mainGlobals mg) (c : SaysX fa fn K) : At K mg "taking" G08.s_taking ["seeds", "row"] [] := by
  obtain ⟨fd, F⟩ := c.def_ 14 (d := d_taking) rfl
  refine ⟨He.glo_ok X G (c.fact 14 (f := .glo "taking") rfl), fd, F, fun j hj => ?_⟩
  exact ⟨[], by cases j <;> exact .nil, F.bindsN fun _ _ _ _ _ _ us hl => match us, hl with | [_,_], _ => rfl⟩
theorem at_bar_lines (X : K.In h) (G : h.Ns mainGlobals mg) (c : SaysX fa fn K) : At K mg "bar_lines" G08.s_bar_lines ["cells", "seeds", "row", "told"] [] := by
  obtain ⟨fd, F⟩ := c.def_ 15 (d := d_bar_lines) rfl
  refine ⟨He.glo_ok X G (c.fact 15 (f := .glo "bar_lines") rfl), fd, F, fun j hj => ?_⟩
  exact ⟨[], by cases j <;> exact .nil, F.bindsN fun _ _ _ _ _ _ us hl => match us, hl with | [_,_,_,_], _ => rfl⟩
theorem at_come (X : K.In h) (G : h.Ns mainGlobals mg) (c : SaysX fa fn K) : At K mg "come" G08.s_come ["cells", "seeds", "row"] [] := by
  obtain ⟨fd, F⟩ := c.def_ 16 (d := d_come) rfl
  refine ⟨He.glo_ok X G (c.fact 16 (f := .glo "come") rfl), fd, F, fun j hj => ?_⟩
  exact ⟨[], by cases j <;> exact .nil, F.bindsN fun _ _ _ _ _ _ us hl => match us, hl with | [_,_,_], _ => rfl⟩
theorem at_is_made (X : K.In h) (G : h.Ns mainGlobals mg) (c : SaysX fa fn K) : At K mg "is_made" G08.s_is_made ["cells", "seeds", "row"] [] := by
  obtain ⟨fd, F⟩ := c.def_ 17 (d := d_is_made) rfl
  refine ⟨He.glo_ok X G (c.fact 17 (f := .glo "is_made") rfl), fd, F, fun j hj => ?_⟩
  exact ⟨[], by cases j <;> exact .nil, F.bindsN fun _ _ _ _ _ _ us hl => match us, hl with | [_,_,_], _ => rfl⟩
theorem at_has_form (X : K.In h) (G : h.Ns mainGlobals mg) (c : SaysX fa fn K) : At K mg "has_form" G08.s_has_form ["line", "word", "many"] [] := by
  obtain ⟨fd, F⟩ := c.def_ 18 (d := d_has_form) rfl
  refine ⟨He.glo_ok X G (c.fact 18 (f := .glo "has_form") rfl), fd, F, fun j hj => ?_⟩
  exact ⟨[], by cases j <;> exact .nil, F.bindsN fun _ _ _ _ _ _ us hl => match us, hl with | [_,_,_], _ => rfl⟩
theorem at_next_to_bar (X : K.In h) (G : h.Ns mainGlobals mg) (c : SaysX fa fn K) : At K mg "next_to_bar" G08.s_next_to_bar ["seeds", "told", "passed"] [] := by
  obtain ⟨fd, F⟩ := c.def_ 19 (d := d_next_to_bar) rfl
  refine ⟨He.glo_ok X G (c.fact 19 (f := .glo "next_to_bar") rfl), fd, F, fun j hj => ?_⟩
  exact ⟨[], by cases j <;> exact .nil, F.bindsN fun _ _ _ _ _ _ us hl => match us, hl with | [_,_,_], _ => rfl⟩
theorem at_take_holds (X : K.In h) (G : h.Ns mainGlobals mg) (c : SaysX fa fn K) : At K mg "take_holds" G08.s_take_holds ["seeds", "row", "told", "line"] [] := by
  obtain ⟨fd, F⟩ := c.def_ 20 (d := d_take_holds) rfl
  refine ⟨He.glo_ok X G (c.fact 20 (f := .glo "take_holds") rfl), fd, F, fun j hj => ?_⟩
  exact ⟨[], by cases j <;> exact .nil, F.bindsN fun _ _ _ _ _ _ us hl => match us, hl with | [_,_,_,_], _ => rfl⟩
theorem at_bar_holds (X : K.In h) (G : h.Ns mainGlobals mg) (c : SaysX fa fn K) : At K mg "bar_holds" G08.s_bar_holds ["cells", "seed", "row", "told", "line"] [] := by
  obtain ⟨fd, F⟩ := c.def_ 21 (d := d_bar_holds) rfl
  refine ⟨He.glo_ok X G (c.fact 21 (f := .glo "bar_holds") rfl), fd, F, fun j hj => ?_⟩
  exact ⟨[], by cases j <;> exact .nil, F.bindsN fun _ _ _ _ _ _ us hl => match us, hl with | [_,_,_,_,_], _ => rfl⟩
theorem at_last_holds (X : K.In h) (G : h.Ns mainGlobals mg) (c : SaysX fa fn K) : At K mg "last_holds" G08.s_last_holds ["seeds", "row", "told", "passed", "line"] [] := by
  obtain ⟨fd, F⟩ := c.def_ 22 (d := d_last_holds) rfl
  refine ⟨He.glo_ok X G (c.fact 22 (f := .glo "last_holds") rfl), fd, F, fun j hj => ?_⟩
  exact ⟨[], by cases j <;> exact .nil, F.bindsN fun _ _ _ _ _ _ us hl => match us, hl with | [_,_,_,_,_], _ => rfl⟩
theorem at_look (X : K.In h) (G : h.Ns mainGlobals mg) (c : SaysX fa fn K) : At K mg "look" G08.s_look ["cells", "seeds", "paper"] [] := by
  obtain ⟨fd, F⟩ := c.def_ 23 (d := d_look) rfl
  refine ⟨He.glo_ok X G (c.fact 23 (f := .glo "look") rfl), fd, F, fun j hj => ?_⟩
  exact ⟨[], by cases j <;> exact .nil, F.bindsN fun _ _ _ _ _ _ us hl => match us, hl with | [_,_,_], _ => rfl⟩
theorem at_check_seeds (X : K.In h) (G : h.Ns mainGlobals mg) (c : SaysX fa fn K) : At K mg "check_seeds" G08.s_check_seeds ["cells", "seeds"] [] := by
  obtain ⟨fd, F⟩ := c.def_ 24 (d := d_check_seeds) rfl
  refine ⟨He.glo_ok X G (c.fact 24 (f := .glo "check_seeds") rfl), fd, F, fun j hj => ?_⟩
  exact ⟨[], by cases j <;> exact .nil, F.bindsN fun _ _ _ _ _ _ us hl => match us, hl with | [_,_], _ => rfl⟩
theorem at_grown_rows (X : K.In h) (G : h.Ns mainGlobals mg) (c : SaysX fa fn K) : At K mg "grown_rows" G08.s_grown_rows ["seeds", "first", "most"] [] := by
  obtain ⟨fd, F⟩ := c.def_ 25 (d := d_grown_rows) rfl
  refine ⟨He.glo_ok X G (c.fact 25 (f := .glo "grown_rows") rfl), fd, F, fun j hj => ?_⟩
  exact ⟨[], by cases j <;> exact .nil, F.bindsN fun _ _ _ _ _ _ us hl => match us, hl with | [_,_,_], _ => rfl⟩
theorem at_Band___init__ (X : K.In h) (G : h.Ns mainGlobals mg) (c : SaysX fa fn K) : AtI K mg "Band" "Band.__init__" G08.s_Band___init__ ["self", "cells", "seeds", "most"] ([.int 800] : List V) := by
  obtain ⟨fd, F⟩ := c.def_ 26 (d := d_Band___init__) rfl
  exact ⟨He.glo_ok X G (c.fact 63 (f := .glo "Band") rfl), He.mkr_ok (c.fact 70 (f := .mkr "Band") rfl), fd, _, _, F, F.binds0 3 (List.cons_ne_nil _ _) rfl fun D doc pm an cdv ct us ks h1 h2 => match us, ks, h1, h2 with | [_,_,_], [_], _, _ => ⟨_, _, _, _, _, _, rfl, rfl, rfl⟩⟩
theorem at_Band_rows (X : K.In h) (G : h.Ns mainGlobals mg) (c : SaysX fa fn K) : AtM K "Band" "rows" "Band.rows" G08.s_Band_rows ["self"] ([] : List V) := by
  obtain ⟨fd, F⟩ := c.def_ 27 (d := d_Band_rows) rfl
  exact ⟨He.meth_ok (c.fact 71 (f := .meth "Band" "rows") rfl), fd, _, _, F, [], .nil, F.bindsN fun _ _ _ _ _ _ us hl => match us, hl with | [_], _ => rfl⟩
theorem at_Band_full_rows (X : K.In h) (G : h.Ns mainGlobals mg) (c : SaysX fa fn K) : AtM K "Band" "full_rows" "Band.full_rows" G08.s_Band_full_rows ["self"] ([] : List V) := by
  obtain ⟨fd, F⟩ := c.def_ 28 (d := d_Band_full_rows) rfl
  exact ⟨He.meth_ok (c.fact 72 (f := .meth "Band" "full_rows") rfl), fd, _, _, F, [], .nil, F.bindsN fun _ _ _ _ _ _ us hl => match us, hl with | [_], _ => rfl⟩
theorem at_Band_lots (X : K.In h) (G : h.Ns mainGlobals mg) (c : SaysX fa fn K) : AtM K "Band" "lots" "Band.lots" G08.s_Band_lots ["self"] ([] : List V) := by
  obtain ⟨fd, F⟩ := c.def_ 29 (d := d_Band_lots) rfl
  exact ⟨He.meth_ok (c.fact 73 (f := .meth "Band" "lots") rfl), fd, _, _, F, [], .nil, F.bindsN fun _ _ _ _ _ _ us hl => match us, hl with | [_], _ => rfl⟩
theorem at_Band_come (X : K.In h) (G : h.Ns mainGlobals mg) (c : SaysX fa fn K) : AtM K "Band" "come" "Band.come" G08.s_Band_come ["self", "row", "seeds"] ([.non] : List V) := by
  obtain ⟨fd, F⟩ := c.def_ 30 (d := d_Band_come) rfl
  exact ⟨He.meth_ok (c.fact 74 (f := .meth "Band" "come") rfl), fd, _, _, F, F.binds0 2 (List.cons_ne_nil _ _) rfl fun D doc pm an cdv ct us ks h1 h2 => match us, ks, h1, h2 with | [_,_], [_], _, _ => ⟨_, _, _, _, _, _, rfl, rfl, rfl⟩⟩
theorem at_Band___contains__ (X : K.In h) (G : h.Ns mainGlobals mg) (c : SaysX fa fn K) : AtM K "Band" "__contains__" "Band.__contains__" G08.s_Band___contains__ ["self", "row"] ([] : List V) := by
  obtain ⟨fd, F⟩ := c.def_ 31 (d := d_Band___contains__) rfl
  exact ⟨He.meth_ok (c.fact 75 (f := .meth "Band" "__contains__") rfl), fd, _, _, F, [], .nil, F.bindsN fun _ _ _ _ _ _ us hl => match us, hl with | [_,_], _ => rfl⟩
theorem at_Band___len__ (X : K.In h) (G : h.Ns mainGlobals mg) (c : SaysX fa fn K) : AtM K "Band" "__len__" "Band.__len__" G08.s_Band___len__ ["self"] ([] : List V) := by
  obtain ⟨fd, F⟩ := c.def_ 32 (d := d_Band___len__) rfl
  exact ⟨He.meth_ok (c.fact 76 (f := .meth "Band" "__len__") rfl), fd, _, _, F, [], .nil, F.bindsN fun _ _ _ _ _ _ us hl => match us, hl with | [_], _ => rfl⟩
theorem at__law_bag (X : K.In h) (G : h.Ns mainGlobals mg) (c : SaysX fa fn K) : At K mg "_law_bag" G08.s__law_bag ["_law_script"] [] := by
  obtain ⟨fd, F⟩ := c.def_ 33 (d := d__law_bag) rfl
  refine ⟨He.glo_ok X G (c.fact 26 (f := .glo "_law_bag") rfl), fd, F, fun j hj => ?_⟩
  exact ⟨[], by cases j <;> exact .nil, F.bindsN fun _ _ _ _ _ _ us hl => match us, hl with | [_], _ => rfl⟩
theorem at__law_draw (X : K.In h) (G : h.Ns mainGlobals mg) (c : SaysX fa fn K) : At K mg "_law_draw" G08.s__law_draw ["_law_bag_here", "_law_sides"] [] := by
  obtain ⟨fd, F⟩ := c.def_ 34 (d := d__law_draw) rfl
  refine ⟨He.glo_ok X G (c.fact 27 (f := .glo "_law_draw") rfl), fd, F, fun j hj => ?_⟩
  exact ⟨[], by cases j <;> exact .nil, F.bindsN fun _ _ _ _ _ _ us hl => match us, hl with | [_,_], _ => rfl⟩
theorem at__law_of (X : K.In h) (G : h.Ns mainGlobals mg) (c : SaysX fa fn K) : At K mg "_law_of" G08.s__law_of ["_law_bag_here", "_law_things"] [] := by
  obtain ⟨fd, F⟩ := c.def_ 35 (d := d__law_of) rfl
  refine ⟨He.glo_ok X G (c.fact 28 (f := .glo "_law_of") rfl), fd, F, fun j hj => ?_⟩
  exact ⟨[], by cases j <;> exact .nil, F.bindsN fun _ _ _ _ _ _ us hl => match us, hl with | [_,_], _ => rfl⟩
theorem at__law_same (X : K.In h) (G : h.Ns mainGlobals mg) (c : SaysX fa fn K) : At K mg "_law_same" G08.s__law_same ["_law_found", "_law_due"] [] := by
  obtain ⟨fd, F⟩ := c.def_ 36 (d := d__law_same) rfl
  refine ⟨He.glo_ok X G (c.fact 29 (f := .glo "_law_same") rfl), fd, F, fun j hj => ?_⟩
  exact ⟨[], by cases j <;> exact .nil, F.bindsN fun _ _ _ _ _ _ us hl => match us, hl with | [_,_], _ => rfl⟩
theorem at__law_title (X : K.In h) (G : h.Ns mainGlobals mg) (c : SaysX fa fn K) : At K mg "_law_title" G08.s__law_title ["_law_bag_here", "_law_taken"] [] := by
  obtain ⟨fd, F⟩ := c.def_ 37 (d := d__law_title) rfl
  refine ⟨He.glo_ok X G (c.fact 30 (f := .glo "_law_title") rfl), fd, F, fun j hj => ?_⟩
  exact ⟨[], by cases j <;> exact .nil, F.bindsN fun _ _ _ _ _ _ us hl => match us, hl with | [_,_], _ => rfl⟩
theorem at__law_frame (X : K.In h) (G : h.Ns mainGlobals mg) (c : SaysX fa fn K) : At K mg "_law_frame" G08.s__law_frame ["_law_bag_here", "_law_size_here", "_law_widest"] [] := by
  obtain ⟨fd, F⟩ := c.def_ 38 (d := d__law_frame) rfl
  refine ⟨He.glo_ok X G (c.fact 31 (f := .glo "_law_frame") rfl), fd, F, fun j hj => ?_⟩
  exact ⟨[], by cases j <;> exact .nil, F.bindsN fun _ _ _ _ _ _ us hl => match us, hl with | [_,_,_], _ => rfl⟩
theorem at__law_row (X : K.In h) (G : h.Ns mainGlobals mg) (c : SaysX fa fn K) : At K mg "_law_row" G08.s__law_row ["_law_bag_here", "_law_frame_here", "_law_thin"] [.int 2] := by
  obtain ⟨fd, F⟩ := c.def_ 39 (d := d__law_row) rfl
  refine ⟨He.glo_ok X G (c.fact 32 (f := .glo "_law_row") rfl), fd, F, fun j hj => ?_⟩
  match j, hj with
  | 0, _ => exact FunD.binds1 F 2 0 nofun rfl fun _ _ _ _ _ _ _ us its h1 h2 => match us, its, h1, h2 with | [_,_], [_], _, _ => ⟨_, rfl, rfl⟩
  | 1, _ => exact FunD.binds1 F 3 1 nofun rfl fun _ _ _ _ _ _ _ us its h1 h2 => match us, its, h1, h2 with | [_,_,_], [_], _, _ => ⟨_, rfl, rfl⟩
  | j + 2, hj => exact absurd hj (by simp)
theorem at__law_once (X : K.In h) (G : h.Ns mainGlobals mg) (c : SaysX fa fn K) : At K mg "_law_once" G08.s__law_once ["_law_things"] [] := by
  obtain ⟨fd, F⟩ := c.def_ 40 (d := d__law_once) rfl
  refine ⟨He.glo_ok X G (c.fact 33 (f := .glo "_law_once") rfl), fd, F, fun j hj => ?_⟩
  exact ⟨[], by cases j <;> exact .nil, F.bindsN fun _ _ _ _ _ _ us hl => match us, hl with | [_], _ => rfl⟩
theorem at__law_stack (X : K.In h) (G : h.Ns mainGlobals mg) (c : SaysX fa fn K) : At K mg "_law_stack" G08.s__law_stack ["_law_bag_here", "_law_frame_here", "_law_size_here"] [] := by
  obtain ⟨fd, F⟩ := c.def_ 41 (d := d__law_stack) rfl
  refine ⟨He.glo_ok X G (c.fact 34 (f := .glo "_law_stack") rfl), fd, F, fun j hj => ?_⟩
  exact ⟨[], by cases j <;> exact .nil, F.bindsN fun _ _ _ _ _ _ us hl => match us, hl with | [_,_,_], _ => rfl⟩
theorem at__law_size (X : K.In h) (G : h.Ns mainGlobals mg) (c : SaysX fa fn K) : At K mg "_law_size" G08.s__law_size ["_law_bag_here"] [] := by
  obtain ⟨fd, F⟩ := c.def_ 42 (d := d__law_size) rfl
  refine ⟨He.glo_ok X G (c.fact 35 (f := .glo "_law_size") rfl), fd, F, fun j hj => ?_⟩
  exact ⟨[], by cases j <;> exact .nil, F.bindsN fun _ _ _ _ _ _ us hl => match us, hl with | [_], _ => rfl⟩
theorem at__law_lay (X : K.In h) (G : h.Ns mainGlobals mg) (c : SaysX fa fn K) : At K mg "_law_lay" G08.s__law_lay ["_law_newer_row", "_law_older_row"] [] := by
  obtain ⟨fd, F⟩ := c.def_ 43 (d := d__law_lay) rfl
  refine ⟨He.glo_ok X G (c.fact 36 (f := .glo "_law_lay") rfl), fd, F, fun j hj => ?_⟩
  exact ⟨[], by cases j <;> exact .nil, F.bindsN fun _ _ _ _ _ _ us hl => match us, hl with | [_,_], _ => rfl⟩
theorem at__law_lot (X : K.In h) (G : h.Ns mainGlobals mg) (c : SaysX fa fn K) : At K mg "_law_lot" G08.s__law_lot ["_law_r"] [] := by
  obtain ⟨fd, F⟩ := c.def_ 44 (d := d__law_lot) rfl
  refine ⟨He.glo_ok X G (c.fact 37 (f := .glo "_law_lot") rfl), fd, F, fun j hj => ?_⟩
  exact ⟨[], by cases j <;> exact .nil, F.bindsN fun _ _ _ _ _ _ us hl => match us, hl with | [_], _ => rfl⟩
theorem at__law_join (X : K.In h) (G : h.Ns mainGlobals mg) (c : SaysX fa fn K) : At K mg "_law_join" G08.s__law_join ["_law_x", "_law_y"] [] := by
  obtain ⟨fd, F⟩ := c.def_ 45 (d := d__law_join) rfl
  refine ⟨He.glo_ok X G (c.fact 38 (f := .glo "_law_join") rfl), fd, F, fun j hj => ?_⟩
  exact ⟨[], by cases j <;> exact .nil, F.bindsN fun _ _ _ _ _ _ us hl => match us, hl with | [_,_], _ => rfl⟩
theorem at__law_lots (X : K.In h) (G : h.Ns mainGlobals mg) (c : SaysX fa fn K) : At K mg "_law_lots" G08.s__law_lots ["_law_told"] [] := by
  obtain ⟨fd, F⟩ := c.def_ 46 (d := d__law_lots) rfl
  refine ⟨He.glo_ok X G (c.fact 39 (f := .glo "_law_lots") rfl), fd, F, fun j hj => ?_⟩
  exact ⟨[], by cases j <;> exact .nil, F.bindsN fun _ _ _ _ _ _ us hl => match us, hl with | [_], _ => rfl⟩
theorem at__law_rows (X : K.In h) (G : h.Ns mainGlobals mg) (c : SaysX fa fn K) : At K mg "_law_rows" G08.s__law_rows ["_law_stack_here", "_law_wide", "_law_cap"] [] := by
  obtain ⟨fd, F⟩ := c.def_ 47 (d := d__law_rows) rfl
  refine ⟨He.glo_ok X G (c.fact 40 (f := .glo "_law_rows") rfl), fd, F, fun j hj => ?_⟩
  exact ⟨[], by cases j <;> exact .nil, F.bindsN fun _ _ _ _ _ _ us hl => match us, hl with | [_,_,_], _ => rfl⟩
theorem at__law_fresh (X : K.In h) (G : h.Ns mainGlobals mg) (c : SaysX fa fn K) : At K mg "_law_fresh" G08.s__law_fresh ["_law_s", "_law_told"] [] := by
  obtain ⟨fd, F⟩ := c.def_ 48 (d := d__law_fresh) rfl
  refine ⟨He.glo_ok X G (c.fact 41 (f := .glo "_law_fresh") rfl), fd, F, fun j hj => ?_⟩
  exact ⟨[], by cases j <;> exact .nil, F.bindsN fun _ _ _ _ _ _ us hl => match us, hl with | [_,_], _ => rfl⟩
theorem at__law_fits (X : K.In h) (G : h.Ns mainGlobals mg) (c : SaysX fa fn K) : At K mg "_law_fits" G08.s__law_fits ["_law_s", "_law_r", "_law_told"] [] := by
  obtain ⟨fd, F⟩ := c.def_ 49 (d := d__law_fits) rfl
  refine ⟨He.glo_ok X G (c.fact 42 (f := .glo "_law_fits") rfl), fd, F, fun j hj => ?_⟩
  exact ⟨[], by cases j <;> exact .nil, F.bindsN fun _ _ _ _ _ _ us hl => match us, hl with | [_,_,_], _ => rfl⟩
theorem at__law_greedy (X : K.In h) (G : h.Ns mainGlobals mg) (c : SaysX fa fn K) : At K mg "_law_greedy" G08.s__law_greedy ["_law_stack_here", "_law_r"] [] := by
  obtain ⟨fd, F⟩ := c.def_ 50 (d := d__law_greedy) rfl
  refine ⟨He.glo_ok X G (c.fact 43 (f := .glo "_law_greedy") rfl), fd, F, fun j hj => ?_⟩
  exact ⟨[], by cases j <;> exact .nil, F.bindsN fun _ _ _ _ _ _ us hl => match us, hl with | [_,_], _ => rfl⟩
theorem at__law_lines (X : K.In h) (G : h.Ns mainGlobals mg) (c : SaysX fa fn K) : At K mg "_law_lines" G08.s__law_lines ["_law_frame_here", "_law_stack_here", "_law_r"] [] := by
  obtain ⟨fd, F⟩ := c.def_ 51 (d := d__law_lines) rfl
  refine ⟨He.glo_ok X G (c.fact 44 (f := .glo "_law_lines") rfl), fd, F, fun j hj => ?_⟩
  exact ⟨[], by cases j <;> exact .nil, F.bindsN fun _ _ _ _ _ _ us hl => match us, hl with | [_,_,_], _ => rfl⟩
theorem at__law_fillings (X : K.In h) (G : h.Ns mainGlobals mg) (c : SaysX fa fn K) : At K mg "_law_fillings" G08.s__law_fillings ["_law_frame_here"] [] := by
  obtain ⟨fd, F⟩ := c.def_ 52 (d := d__law_fillings) rfl
  refine ⟨He.glo_ok X G (c.fact 45 (f := .glo "_law_fillings") rfl), fd, F, fun j hj => ?_⟩
  exact ⟨[], by cases j <;> exact .nil, F.bindsN fun _ _ _ _ _ _ us hl => match us, hl with | [_], _ => rfl⟩
theorem at__law_paper_so (X : K.In h) (G : h.Ns mainGlobals mg) (c : SaysX fa fn K) : At K mg "_law_paper_so" G08.s__law_paper_so ["_law_band", "_law_frame_here", "_law_stack_here", "_law_r", "_law_made"] [] := by
  obtain ⟨fd, F⟩ := c.def_ 53 (d := d__law_paper_so) rfl
  refine ⟨He.glo_ok X G (c.fact 46 (f := .glo "_law_paper_so") rfl), fd, F, fun j hj => ?_⟩
  exact ⟨[], by cases j <;> exact .nil, F.bindsN fun _ _ _ _ _ _ us hl => match us, hl with | [_,_,_,_,_], _ => rfl⟩
theorem at_law (X : K.In h) (G : h.Ns mainGlobals mg) (c : SaysX fa fn K) : At K mg "law" G08.s_law ["_law_script"] [] := by
  obtain ⟨fd, F⟩ := c.def_ 54 (d := d_law) rfl
  refine ⟨He.glo_ok X G (c.fact 47 (f := .glo "law") rfl), fd, F, fun j hj => ?_⟩
  exact ⟨[], by cases j <;> exact .nil, F.bindsN fun _ _ _ _ _ _ us hl => match us, hl with | [_], _ => rfl⟩
theorem cls_Band (c : SaysX fa fn K) : ClsF K "Band" fl_Band := by
  refine ⟨He.cls_ok (c.fact 64 (f := .cls "Band") rfl), fun f hf => ?_⟩
  simp only [fl_Band, List.mem_cons, List.not_mem_nil, or_false] at hf
  rcases hf with rfl | rfl | rfl | rfl | rfl
  · exact He.noat_ok (c.fact 65 (f := .noat "Band" "cell_list") rfl)
  · exact He.noat_ok (c.fact 66 (f := .noat "Band" "seed_list") rfl)
  · exact He.noat_ok (c.fact 67 (f := .noat "Band" "row_list") rfl)
  · exact He.noat_ok (c.fact 68 (f := .noat "Band" "known_rows") rfl)
  · exact He.noat_ok (c.fact 69 (f := .noat "Band" "lot_list") rfl)
theorem bl (X : K.In h) (G : h.Ns mainGlobals mg) (c : SaysX fa fn K) : G08.Bl mg := ⟨He.free_ok X G (c.fact 48 (f := .free "abs") rfl), He.free_ok X G (c.fact 49 (f := .free "all") rfl), He.free_ok X G (c.fact 50 (f := .free "bool") rfl), He.free_ok X G (c.fact 51 (f := .free "dict") rfl), He.free_ok X G (c.fact 52 (f := .free "enumerate") rfl), He.free_ok X G (c.fact 53 (f := .free "int") rfl), He.free_ok X G (c.fact 54 (f := .free "isinstance") rfl), He.free_ok X G (c.fact 55 (f := .free "len") rfl), He.free_ok X G (c.fact 56 (f := .free "list") rfl), He.free_ok X G (c.fact 57 (f := .free "range") rfl), He.free_ok X G (c.fact 58 (f := .free "set") rfl), He.free_ok X G (c.fact 59 (f := .free "sorted") rfl), He.free_ok X G (c.fact 60 (f := .free "str") rfl), He.free_ok X G (c.fact 61 (f := .free "tuple") rfl), He.free_ok X G (c.fact 62 (f := .free "zip") rfl), He.str_ok X G (c.fact 77 (f := .str "LETTERS" "abcdefghijklmnopqrstuvwxyz") rfl), He.int_ok X G (c.fact 78 (f := .int "MOST_ROWS" 800) rfl), He.int_ok X G (c.fact 79 (f := .int "MOST_SEEDS" 30) rfl), He.int_ok X G (c.fact 80 (f := .int "MOST_CELLS" 12) rfl), He.int_ok X G (c.fact 81 (f := .int "MOST_VALUES" 4) rfl)⟩
theorem glo_law (c : SaysX fa fn K) : (He.Fa.glo "law").ok K = true := (c.fact 47 (f := .glo "law") rfl)
end
end Hd08

set_option maxHeartbeats 8000000
namespace H08
open PySem PySem.Spec PyProof.Rows Nt G08
open L2 hiding rLen
local macro_rules | `(tactic| walk_at "rep") => `(tactic| first
  | assumption
  | with_reducible exact Rep.int _
  | with_reducible exact Rep.str _
  | with_reducible exact Rep.bl _
  | with_reducible exact Rep.non
  | (refine Rep.ex (by assumption) ?_; walk_at "rep")
  | (refine Rep.off (by assumption) ?_; walk_at "rep"))
local macro_rules | `(tactic| walk_at "reps") => `(tactic| first
  | with_reducible exact Reps.nil
  | with_reducible exact Reps.cons (by with_unfolding_all walk_at "rep") (by with_unfolding_all walk_at "reps")
  | assumption
  | (refine Reps.ex (by assumption) ?_; walk_at "reps")
  | (refine Reps.off (by assumption) ?_; walk_at "reps"))
local macro_rules | `(tactic| walk_at "ex") => `(tactic| first
  | with_reducible exact Ex.refl _
  | assumption
  | (refine Ex.trans ?_ (by assumption); walk_at "ex"))
local macro_rules | `(tactic| walk_at "sz") => `(tactic| first
  | decide
  | (refine szOk ?_; first | omega | (simp only [List.length_append, List.length_cons, List.length_nil, List.length_map, List.length_take, List.length_drop, List.length_range]; omega)))
local macro_rules | `(tactic| walk_at "st") => `(tactic| (simp only [List.set_cons_zero, List.set_cons_succ]; exact rfl))
local macro_rules | `(tactic| walk_at "s1") => `(tactic| with_reducible first
  | apply sx_seq
  | (apply sx_var1; with_unfolding_all refine ⟨_, rfl, ?_⟩)
  | apply sx_c
  | apply sx_op
  | apply sx_asg
  | (apply gs_nameN; walk_at "st")
  | apply gs_name
  | apply sx_cons
  | apply sx_nil
  | apply sx_call
  | apply sx_cb
  | apply sx_tt
  | apply sx_tb
  | apply sx_ret
  | apply sx_ifS
  | apply sx_if
  | apply ex_b
  | apply ifT
  | apply ifF
  | apply ifNT
  | apply ifNF
  | apply sx_and
  | apply sx_or
  | apply sx_not
  | apply sx_andV
  | apply sx_orV
  | apply sx_notV
  | apply sx_chain
  | apply sx_lc
  | apply sx_for
  | apply sx_isrc
  | apply sx_izip
  | apply sx_ienum
  | apply sx_rng1
  | apply sx_rng2
  | apply sx_tup0
  | apply sx_lst0
  | apply sx_m1
  | apply sx_bm
  | apply sx_bm0
  | apply sx_sl
  | apply sx_nopart
  | apply sx_part
  | apply sx_un
  | apply sx_tru
  | apply sx_yes
  | apply sx_next
  | apply sx_drop
  | apply sx_par
  | apply sx_par3
  | apply sx_retN
  | apply sx_brk
  | apply sx_cnt
  | apply sx_rev
  | apply ex_i
  | apply ex_s
  | apply ex_2
  | apply ex_3
  | apply gs_sub
  | apply add_ii
  | (refine add_TT ?hz ?_; (case hz => with_unfolding_all walk_at "sz"))
  | apply sub_ii
  | apply lt_ii
  | apply le_ii
  | apply gt_ii
  | apply ge_ii
  | apply eq_ii
  | apply eq_11
  | apply eq_TT
  | apply eq_bb
  | apply ne_ii
  | apply ne_11
  | apply ne_TT
  | apply ne_bb
  | apply in_1T
  | apply ni_1T
  | apply isN_v
  | apply notN_v
  | apply isB_b
  | apply notB_b
  | apply neg_i
  | apply int_i
  | apply abs_i
  | (refine len_T ?hz ?_; (case hz => with_unfolding_all walk_at "sz"))
  | (apply tupK_id; refine tup_endF (by assumption) (by assumption) (by assumption) (by with_unfolding_all walk_at "reps") (by with_unfolding_all walk_at "sz") ?_; intro _ _ _ _ _)
  | (apply lstK_id; refine lst_endF (by assumption) (by assumption) (by assumption) (by with_unfolding_all walk_at "reps") (by with_unfolding_all walk_at "sz") ?_; intro _ _ _ _ _))
local macro_rules | `(tactic| walk_at "sx") => `(tactic| repeat' (walk_at "s1"))

/-! ### what stands for what -/
abbrev e1 : Nat → D := fun c => .str (T [c])
abbrev eS : List Nat → D := fun l => .str (T l)
abbrev eI : Nat → D := fun n => .int (n : Nat)
abbrev eC : List Nat × Nat → D := fun c => .tup [.str (T c.1), .int (c.2 : Nat)]
def lot (l : List Nat) : List Nat := l.map fun c => if c = 46 then 46 else 43
def uni (l m : List Nat) : List Nat := (l.zip m).map fun p => if 43 = p.1 ∨ 43 = p.2 then 43 else 46
def lay (l m : List Nat) : List Nat := (l.zip m).map fun p => if p.1 = 46 then p.2 else p.1
def isRow (fr : List (List Nat × Nat)) (l : List Nat) : Bool := decide (l.length = fr.length) && (l.zip fr).all fun p => decide (p.1 ∈ ([46, 48, 49, 50, 51] : List Nat).take (p.2.2 + 1))
/-- new places -/
def news (s t : List Nat) : List Nat := (s.zipIdx.filter fun p => !decide (p.1 = 46) && !decide (t[p.2]? = some 43)).map (·.2)
section
variable {P : Program} {w : World} {K : PySem.W.Frag} {mg : Str → Option Value} {base : Heap}
def spLot (K : PySem.W.Frag) : Sp := fun vs H Q _ => ∃ M I l, Wf M I ∧ I H ∧ vs = [.str (T l)] ∧ l.length ≤ 1000 ∧ ∀ H', Ex M H H' → I H' → Q (.str (T (lot l))) H'
theorem ok_lot_of (B : Bl mg) (F : At K mg "lot_of" s_lot_of ["row"] []) : Df P w K mg base 1 "lot_of" ["row"] [] (spLot K) := by
  refine F.df sc_lot_of (fun vs H Q E h => ?_) (fun f cdv A outer s H vs Q E hr h => ⟨_, w_lot_of B hr, ?_⟩)
  · obtain ⟨M, I, l, _, _, rfl, _⟩ := h
    rfl
  · obtain ⟨M, I, l, hw, hI, rfl, hl, q⟩ := h
    unfold t_lot_of
    walk_at "sx"
    refine lc_srcM (as := l) (enc := e1) (fun c => .str (T [if c = 46 then 46 else 43])) hw hI (by walk_at "rep") rfl (by walk_at "sz") (fun _ => rfl) ?_ ?_
    · intro L acc k a v H hL ha rv wf hi ex Qe q
      cases rep_str rv
      walk_at "sx"
      refine ifB (fun h => ?_) (fun h => ?_) <;> walk_at "sx"
      · exact q _ _ (by simp at h; simp [h]; exact .str _) hi (Ex.refl _)
      · exact q _ _ (by simp at h; simp [h]; exact .str _) hi (Ex.refl _)
    · intro y H' rp ex hi
      exact join_1 _ rp (by omega) (q _ ex hi)
def spUni (K : PySem.W.Frag) : Sp := fun vs H Q _ => ∃ M I l m, Wf M I ∧ I H ∧ vs = [.str (T l), .str (T m)] ∧ l.length ≤ 1000 ∧ ∀ H', Ex M H H' → I H' → Q (.str (T (uni l m))) H'
theorem ok_union (B : Bl mg) (F : At K mg "union" s_union ["one", "other"] []) : Df P w K mg base 1 "union" ["one", "other"] [] (spUni K) := by
  refine F.df sc_union (fun vs H Q E h => ?_) (fun f cdv A outer s H vs Q E hr h => ⟨_, w_union B hr, ?_⟩)
  · obtain ⟨M, I, l, m, _, _, rfl, _⟩ := h
    rfl
  · obtain ⟨M, I, l, m, hw, hI, rfl, hl, q⟩ := h
    unfold t_union
    walk_at "sx"
    refine lc_zipM (as := l) (bs := m) (enc := e1) (enc2 := e1) (fun p => .str (T [if 43 = p.1 ∨ 43 = p.2 then 43 else 46])) hw hI (.str _) rfl (.str _) rfl (by walk_at "sz") (fun _ _ => rfl) ?_ ?_
    · intro L acc k a b v u H hL ha hb rv rw wf hi ex Qe q
      cases rep_str rv
      cases rep_str rw
      walk_at "sx"
      refine in_L (ls := [[a], [b]]) (by assumption) (.inr rfl) ?_
      walk_at "sx"
      refine ifB (fun h => ?_) (fun h => ?_) <;> walk_at "sx"
      · exact q _ _ (by simp at h; simp [h]; exact .str _) (by assumption) (by assumption)
      · exact q _ _ (by simp at h; simp [h]; exact .str _) (by assumption) (by assumption)
    · intro y H' rp ex hi
      exact join_1 _ rp (by simp; omega) (q _ ex hi)
def spBlank (K : PySem.W.Frag) : Sp := fun vs H Q _ => ∃ n : Nat, vs = [.int n] ∧ n ≤ 1000 ∧ Q (.str (T (List.replicate n 46))) H
theorem ok_blank (B : Bl mg) (F : At K mg "blank" s_blank ["many"] []) : Df P w K mg base 1 "blank" ["many"] [] (spBlank K) := by
  refine F.df sc_blank (fun vs H Q E h => ?_) (fun f cdv A outer s H vs Q E hr h => ⟨_, w_blank B hr, ?_⟩)
  · obtain ⟨n, rfl, _⟩ := h
    rfl
  · obtain ⟨n, rfl, hl, q⟩ := h
    unfold t_blank
    walk_at "sx"
    refine mul_Ti (by omega) (by decide) ?_
    rw [show (List.replicate n [46]).flatten = List.replicate n 46 from by induction n with
      | zero => rfl
      | succ n ih => simp [List.replicate_succ]]
    exact q
/-- the cells: a list or a tuple -/
def Cells (K : PySem.W.Frag) (M : Addr → Prop) (H : Hp) (x : V) (fr : List (List Nat × Nat)) : Prop := ∃ d, Rep K M H x d ∧ (d = .lst (fr.map eC) ∨ d = .tup (fr.map eC))
theorem Cells.ex {M : Addr → Prop} {H H' : Hp} {x : V} {fr : List (List Nat × Nat)} (e : Ex M H H') (h : Cells K M H x fr) : Cells K M H' x fr := by
  obtain ⟨d, h1, h2⟩ := h
  exact ⟨d, h1.ex e, h2⟩
theorem Cells.off {M : Addr → Prop} {H : Hp} {x : V} {fr : List (List Nat × Nat)} {q : Addr} (e : H q = none) (h : Cells K M H x fr) : Cells K (Mq M q) H x fr := by
  obtain ⟨d, h1, h2⟩ := h
  exact ⟨d, h1.off e, h2⟩
theorem Cells.ofL {M : Addr → Prop} {H : Hp} {x : V} {fr : List (List Nat × Nat)} (h : Rep K M H x (.lst (fr.map eC))) : Cells K M H x fr := ⟨_, h, .inl rfl⟩
theorem Cells.ix {M : Addr → Prop} {H : Hp} {x : V} {fr : List (List Nat × Nat)} {k : Nat} {Q : VK} (h : Cells K M H x fr) (hk : k < fr.length) (q : ∀ v, Rep K M H v (eC fr[k]) → Q v H) : rIx K x (.int (k : Nat)) H Q := by
  obtain ⟨d, h1, h2⟩ := h
  exact ix_R h1 h2 (by simp [hk]) q
theorem Cells.len {M : Addr → Prop} {H : Hp} {x : V} {fr : List (List Nat × Nat)} {Q : VK} (h : Cells K M H x fr) (q : Q (.int (fr.length : Nat)) H) : rLen K [x] H Q := by
  obtain ⟨d, h1, h2⟩ := h
  exact len_R h1 h2 (by rw [List.length_map]; exact q)
/-- data whose type shows -/
def Shows (d : D) : Prop := ∃ t, TyD d t
def isStr : D → Bool
  | .str _ => true
  | _ => false
def isTup : D → Bool
  | .tup _ => true
  | _ => false
def isLst : D → Bool
  | .lst _ => true
  | _ => false
def isInt : D → Bool
  | .int _ => true
  | .bl _ => true
  | _ => false
def isBl : D → Bool
  | .bl _ => true
  | _ => false
theorem isi_str {M : Addr → Prop} {H : Hp} {x : V} {d : D} {Q : VK} (h : Rep K M H x d) (hs : Shows d) (q : Q (.bl (isStr d)) H) : rIsi K [x, .ty "str"] H Q := by
  obtain ⟨t, ht⟩ := hs
  cases ht with
  | non => exact isi_D h .non (kit_ty (b := "str") (r := false) (by decide +kernel)) q
  | bl b => exact isi_D h (.bl b) (kit_ty (b := "str") (r := false) (by decide +kernel)) q
  | int b => exact isi_D h (.int b) (kit_ty (b := "str") (r := false) (by decide +kernel)) q
  | str b => exact isi_D h (.str b) (kit_ty (b := "str") (r := true) (by decide +kernel)) q
  | lst b => exact isi_D h (.lst b) (kit_ty (b := "str") (r := false) (by decide +kernel)) q
  | tup b => exact isi_D h (.tup b) (kit_ty (b := "str") (r := false) (by decide +kernel)) q
  | dct b => exact isi_D h (.dct b) (kit_ty (b := "str") (r := false) (by decide +kernel)) q
theorem isi_tup {M : Addr → Prop} {H : Hp} {x : V} {d : D} {Q : VK} (h : Rep K M H x d) (hs : Shows d) (q : Q (.bl (isTup d)) H) : rIsi K [x, .ty "tuple"] H Q := by
  obtain ⟨t, ht⟩ := hs
  cases ht with
  | non => exact isi_D h .non (kit_ty (b := "tuple") (r := false) (by decide +kernel)) q
  | bl b => exact isi_D h (.bl b) (kit_ty (b := "tuple") (r := false) (by decide +kernel)) q
  | int b => exact isi_D h (.int b) (kit_ty (b := "tuple") (r := false) (by decide +kernel)) q
  | str b => exact isi_D h (.str b) (kit_ty (b := "tuple") (r := false) (by decide +kernel)) q
  | lst b => exact isi_D h (.lst b) (kit_ty (b := "tuple") (r := false) (by decide +kernel)) q
  | tup b => exact isi_D h (.tup b) (kit_ty (b := "tuple") (r := true) (by decide +kernel)) q
  | dct b => exact isi_D h (.dct b) (kit_ty (b := "tuple") (r := false) (by decide +kernel)) q
def isRowD (fr : List (List Nat × Nat)) : D → Bool
  | .str z => isRow fr z.cps.toList
  | _ => false
/-- frame and value -/
def spIsRowD (K : PySem.W.Frag) : Sp := fun vs H Q _ => ∃ M I x v fr d, Wf M I ∧ I H ∧ vs = [x, v] ∧ Cells K M H x fr ∧ Rep K M H v d ∧ Shows d ∧ (∀ l, d = .str (T l) → l.length ≤ 1000) ∧ fr.length ≤ 1000 ∧ ∀ H', Ex M H H' → I H' → Q (.bl (isRowD fr d)) H'
theorem ok_is_row (B : Bl mg) (F : At K mg "is_row" s_is_row ["cells", "value"] []) : Df P w K mg base 1 "is_row" ["cells", "value"] [] (spIsRowD K) := by
  refine F.df sc_is_row (fun vs H Q E h => ?_) (fun f cdv A outer s H vs Q E hr h => ⟨_, w_is_row B hr, ?_⟩)
  · obtain ⟨M, I, x, v, fr, d, _, _, rfl, _⟩ := h
    rfl
  · obtain ⟨M, I, x, v, fr, d, hw, hI, rfl, hx, hv, hs, hl, hf, q⟩ := h
    unfold t_is_row
    walk_at "sx"
    refine isi_str hv hs ?_
    walk_at "sx"
    refine ifB (fun h => ?_) (fun h => ?_)
    · have h : isStr d = false := by simpa using h
      walk_at "sx"
      have e : isRowD fr d = false := by
        cases d <;> first | rfl | cases h
      rw [e] at q
      exact q H (Ex.refl _) hI
    · obtain ⟨l, rfl⟩ : ∃ l, d = .str (T l) := by
        cases d <;> first | exact ⟨_, rfl⟩ | cases h
      have hl := hl l rfl
      have e0 : isRowD fr (.str (T l)) = isRow fr l := rfl
      rw [e0] at q
      cases rep_str hv
      walk_at "sx"
      refine hx.len ?_
      walk_at "sx"
      refine ifB (fun h => ?_) (fun h => ?_)
      · walk_at "sx"
        have e : isRow fr l = false := by
          simp at h
          simp [isRow, h]
          intro z; omega
        rw [e] at q
        exact q H (Ex.refl _) hI
      · walk_at "sx"
        have hlen : l.length = fr.length := by simp at h; omega
        obtain ⟨dc, hx, hdc⟩ := hx
        refine lc_zipM (as := l) (bs := fr) (enc := e1) (enc2 := eC) (fun p => .bl (decide (p.1 ∈ ([46, 48, 49, 50, 51] : List Nat).take (p.2.2 + 1)))) hw hI (.str _) rfl hx (by rcases hdc with rfl | rfl <;> rfl) (by walk_at "sz") (fun _ _ => rfl) ?_ ?_
        · intro L acc k a b v u H hL ha hb rv rw wf hi ex Qe q
          cases rep_str rv
          walk_at "sx"
          refine ix_R (n := 1) rw (.inr rfl) rfl fun v hv => ?_
          cases rep_int hv
          walk_at "sx"
          refine sl_Tto (n := b.2 + 1) (by decide) ?_
          walk_at "sx"
          exact q _ _ (.bl _) (by assumption) (Ex.refl _)
        · intro y H' rp ex hi
          refine all_M _ rp ?_
          have e : isRow fr l = (l.zip fr).all fun p => decide (p.1 ∈ ([46, 48, 49, 50, 51] : List Nat).take (p.2.2 + 1)) := by simp [isRow, hlen]
          rw [e] at q
          exact q _ ex hi
def spIsRow (K : PySem.W.Frag) : Sp := fun vs H Q _ => ∃ M I x fr l, Wf M I ∧ I H ∧ vs = [x, .str (T l)] ∧ Cells K M H x fr ∧ l.length ≤ 1000 ∧ fr.length ≤ 1000 ∧ ∀ H', Ex M H H' → I H' → Q (.bl (isRow fr l)) H'
theorem row_str {k : Nat} {ps : List Str} (G : Df P w K mg base k "is_row" ps [] (spIsRowD K)) : Df P w K mg base k "is_row" ps [] (spIsRow K) := by
  obtain ⟨fd, h1, h2⟩ := G.ok
  refine ⟨G.mgx, ⟨fd, h1.imp fun vs H Q E h => ?_, h2⟩, G.kp⟩
  obtain ⟨M, I, x, fr, l, hw, hI, rfl, hx, hl, hf, q⟩ := h
  exact ⟨M, I, x, _, fr, .str (T l), hw, hI, rfl, hx, .str _, ⟨_, .str _⟩, fun m e => by cases (T_inj (by injection e) : l = m); exact hl, hf, q⟩
/-- seed, told -/
def spNews (K : PySem.W.Frag) : Sp := fun vs H Q _ => ∃ M I s t, Wf M I ∧ I H ∧ vs = [.str (T s), .str (T t)] ∧ s.length ≤ 1000 ∧ t.length = s.length ∧ ∀ y H', Ex M H H' → I H' → Rep K M H' y (.lst ((news s t).map eI)) → Q y H'
theorem ok_new_places (B : Bl mg) (F : At K mg "new_places" s_new_places ["seed", "told"] []) : Df P w K mg base 1 "new_places" ["seed", "told"] [] (spNews K) := by
  refine F.df sc_new_places (fun vs H Q E h => ?_) (fun f cdv A outer s H vs Q E hr h => ⟨_, w_new_places B hr, ?_⟩)
  · obtain ⟨M, I, l, m, _, _, rfl, _⟩ := h
    rfl
  · obtain ⟨M, I, l, m, hw, hI, rfl, hl, hm, q⟩ := h
    unfold t_new_places
    walk_at "sx"
    refine lc_enumF (as := l) (enc := e1) (fun p => !decide (p.1 = 46) && !decide (m[p.2]? = some 43)) (fun p => eI p.2) hw hI (.str _) rfl (by walk_at "sz") (fun _ _ => rfl) ?_ ?_ ?_
    · intro L acc k a v H hL ha rv wf hi ex Qt q
      cases rep_str rv
      walk_at "sx"
      have hk : k < m.length := by have := (List.getElem?_eq_some_iff.mp ha).1; omega
      refine ifB (fun h => ?_) (fun h => ?_)
      · walk_at "sx"
        refine ix_T (z := m[k]) (by walk_at "sz") (by simp [hk]) ?_
        walk_at "sx"
        have e : (!decide (a = 46) && !decide (m[k]? = some 43)) = !decide (m[k] = 43) := by rw [h]; simp [hk]
        rw [← e]
        exact q H hi (Ex.refl _)
      · have e : (!decide (a = 46) && !decide (m[k]? = some 43)) = false := by rw [h]; rfl
        rw [← e]
        exact q H hi (Ex.refl _)
    · intro L acc k a v H hL ha hp rv wf hi ex Qe q
      walk_at "sx"
      exact q _ _ (.int _) hi (Ex.refl _)
    · intro y H' rp ex hi
      refine q y H' ex hi ?_
      unfold news
      rw [List.map_map]
      exact rp
end



/-! ### coming -/
def canTake (s t r : List Nat) : Bool := !(news s t).isEmpty && (news s t).all fun k => decide (r[k]? = s[k]?)
def first (S : List (List Nat)) (t r : List Nat) : Option (List Nat) := S.find? fun s => canTake s t r
def takes (S : List (List Nat)) (r : List Nat) : Nat → List (List Nat) → List Nat → List (List Nat) × List Nat
  | 0, tk, t => (tk, t)
  | n + 1, tk, t => match first S t r with
    | none => (tk, t)
    | some s => takes S r n (tk ++ [s]) (uni t (lot s))
def taken (S : List (List Nat)) (r : List Nat) : List (List Nat) × List Nat := takes S r r.length [] (List.replicate r.length 46)
theorem news_lt {s t : List Nat} {k : Nat} (h : k ∈ news s t) : k < s.length := by
  unfold news at h
  obtain ⟨p, hp, rfl⟩ := List.mem_map.mp h
  obtain ⟨hp, _⟩ := List.mem_filter.mp hp
  have := List.mem_zipIdx hp
  omega
theorem lot_len (l : List Nat) : (lot l).length = l.length := by simp [lot]
theorem uni_len {l m : List Nat} (h : m.length = l.length) : (uni l m).length = l.length := by simp [uni, h]
def optS : Option (List Nat) → V
  | none => .non
  | some s => .str (T s)
section
variable {P : Program} {w : World} {K : PySem.W.Frag} {mg : Str → Option Value} {base : Heap}
theorem flat_I (l : List Nat) : ∀ d ∈ l.map eI, Flat d := by
  intro d hd
  obtain ⟨n, _, rfl⟩ := List.mem_map.mp hd
  trivial
def spCan (K : PySem.W.Frag) : Sp := fun vs H Q _ => ∃ M I s t r, Wf M I ∧ I H ∧ vs = [.str (T s), .str (T t), .str (T r)] ∧ s.length ≤ 1000 ∧ t.length = s.length ∧ r.length = s.length ∧ ∀ H', Ex M H H' → I H' → Q (.bl (canTake s t r)) H'
theorem ok_can_take (B : Bl mg) (G : Df P w K mg base 1 "new_places" ["seed", "told"] [] (spNews K)) (F : At K mg "can_take" s_can_take ["seed", "told", "row"] []) : Df P w K mg base 2 "can_take" ["seed", "told", "row"] [] (spCan K) := by
  refine F.df sc_can_take (fun vs H Q E h => ?_) (fun f cdv A outer s H vs Q E hr h => ⟨_, w_can_take B G hr, ?_⟩)
  · obtain ⟨M, I, s, t, r, _, _, rfl, _⟩ := h
    rfl
  · obtain ⟨M, I, s, t, r, hw, hI, rfl, hs, ht, hr, q⟩ := h
    unfold t_can_take
    walk_at "sx"
    refine ⟨M, I, s, t, hw, hI, rfl, hs, ht, fun y H1 ex1 i1 r1 => ?_⟩
    walk_at "sx"
    refine lst_end (K := K) hw i1 .nil (by decide) fun y2 H2 ex2 i2 r2 => ?_
    refine ne_L0 (r1.ex ex2) r2 (flat_I _) ?_
    walk_at "sx"
    have e0 : ((news s t).map eI).isEmpty = (news s t).isEmpty := by cases news s t <;> rfl
    rw [e0]
    refine ifB (fun h => ?_) (fun h => ?_)
    · walk_at "sx"
      refine lc_srcM (as := news s t) (enc := eI) (fun k => .bl (decide (r[k]? = s[k]?))) hw i2 (r1.ex ex2) rfl ?_ (fun _ => rfl) ?_ ?_
      · have h1 : (news s t).length ≤ s.length := by
          unfold news
          rw [List.length_map]
          refine Nat.le_trans (List.length_filter_le _ _) ?_
          simp
        exact szOk (by omega)
      · intro L acc k a v H3 hL ha rv wf hi ex Qe q
        cases rep_int rv
        have hk : a < s.length := news_lt (List.mem_of_getElem? ha)
        have hk2 : a < r.length := by omega
        walk_at "sx"
        refine ix_T (z := r[a]) (by walk_at "sz") (by simp [hk2]) ?_
        walk_at "sx"
        refine ix_T (z := s[a]) (by walk_at "sz") (by simp [hk]) ?_
        walk_at "sx"
        have e : decide (r[a] = s[a]) = decide (r[a]? = s[a]?) := dec_congr (by simp [hk, hk2])
        rw [dec1, e]
        exact q _ _ (.bl _) hi (Ex.refl _)
      · intro y H' rp ex hi
        refine all_M _ rp ?_
        have e : canTake s t r = (news s t).all fun k => decide (r[k]? = s[k]?) := by unfold canTake; rw [h]; rfl
        rw [e] at q
        exact q _ (by walk_at "ex") hi
    · have e : canTake s t r = false := by unfold canTake; rw [h]; rfl
      rw [e] at q
      exact q _ (by walk_at "ex") i2
/-- seeds (a list or a tuple), told, row -/
def Seeds (K : PySem.W.Frag) (M : Addr → Prop) (H : Hp) (x : V) (S : List (List Nat)) : Prop := ∃ d, Rep K M H x d ∧ (d = .lst (S.map eS) ∨ d = .tup (S.map eS))
theorem Seeds.ex {M : Addr → Prop} {H H' : Hp} {x : V} {S : List (List Nat)} (e : Ex M H H') (h : Seeds K M H x S) : Seeds K M H' x S := by
  obtain ⟨d, r, z⟩ := h
  exact ⟨d, r.ex e, z⟩
theorem Seeds.off {M : Addr → Prop} {H : Hp} {x : V} {S : List (List Nat)} {q : Addr} (e : H q = none) (h : Seeds K M H x S) : Seeds K (Mq M q) H x S := by
  obtain ⟨d, r, z⟩ := h
  exact ⟨d, r.off e, z⟩
theorem seeds_el {d : D} {S : List (List Nat)} (h : d = .lst (S.map eS) ∨ d = .tup (S.map eS)) : d.elems = some (S.map eS) := by
  rcases h with rfl | rfl <;> rfl
def spFirst (K : PySem.W.Frag) : Sp := fun vs H Q _ => ∃ M I x S t r, Wf M I ∧ I H ∧ vs = [x, .str (T t), .str (T r)] ∧ Seeds K M H x S ∧ r.length ≤ 1000 ∧ t.length = r.length ∧ (∀ s ∈ S, s.length = r.length) ∧
  ∀ H', Ex M H H' → I H' → Q (optS (first S t r)) H'
theorem ok_first_to_take (B : Bl mg) (G : Df P w K mg base 2 "can_take" ["seed", "told", "row"] [] (spCan K)) (F : At K mg "first_to_take" s_first_to_take ["seeds", "told", "row"] []) : Df P w K mg base 3 "first_to_take" ["seeds", "told", "row"] [] (spFirst K) := by
  refine F.df sc_first_to_take (fun vs H Q E h => ?_) (fun f cdv A outer s H vs Q E hr h => ⟨_, w_first_to_take B G hr, ?_⟩)
  · obtain ⟨M, I, x, S, t, r, _, _, rfl, _⟩ := h
    rfl
  · obtain ⟨M, I, x, S, t, r, hw, hI, rfl, ⟨d, hx, hd⟩, hr, ht, hS, q⟩ := h
    unfold t_first_to_take
    walk_at "sx"
    refine for_src (as := S) (enc := eS) hx (seeds_el hd) (fun k σ H1 => (∃ v, σ = [some x, some (.str (T t)), some (.str (T r)), v]) ∧ Ex M H H1 ∧ I H1 ∧ ∀ s ∈ S.take k, canTake s t r = false)
      ⟨⟨_, rfl⟩, Ex.refl _, hI, by simp⟩ (fun k σ H1 h => h.2.1) ?_ ?_
    · rintro k a v σ H1 ha ⟨⟨v0, rfl⟩, e1, i1, hn⟩ rv
      cases rep_str rv
      have hk := (List.getElem?_eq_some_iff.mp ha).1
      have ea := (List.getElem?_eq_some_iff.mp ha).2
      have la : a.length = r.length := hS a (List.mem_of_getElem? ha)
      walk_at "sx"
      refine ⟨M, I, a, t, r, hw, i1, rfl, by omega, by omega, by omega, fun H2 e2 i2 => ?_⟩
      walk_at "sx"
      refine ifB (fun h => ?_) (fun h => ?_)
      · walk_at "sx"
        have e : first S t r = some a := by
          unfold first
          rw [List.find?_eq_some_iff_append]
          refine ⟨h, S.take k, S.drop (k + 1), ?_, fun s hs => by simp [hn s hs]⟩
          rw [← ea, List.getElem_cons_drop, List.take_append_drop]
        rw [e] at q
        exact q _ (by walk_at "ex") i2
      · walk_at "sx"
        refine ⟨⟨_, rfl⟩, by walk_at "ex", i2, fun s hs => ?_⟩
        rw [take_snoc ha] at hs
        rcases List.mem_append.mp hs with z | z
        · exact hn s z
        · rw [List.mem_singleton.mp z]; exact h
    · rintro σ H1 ⟨_, e1, i1, hn⟩
      walk_at "sx"
      have e : first S t r = none := by
        unfold first
        rw [List.find?_eq_none]
        intro s hs
        simp [hn s (by simpa using hs)]
      rw [e] at q
      exact q _ e1 i1
end



/-! ### taking, and the paper -/
theorem T_opt_ne {o : Option (List Nat)} : decide (optS o = .non) = o.isNone := by cases o <;> simp [optS]
/-- what has not been told yet -/
def open_ (t : List Nat) : Nat := (t.filter fun c => !decide (c = 43)).length
theorem open_le {t : List Nat} : open_ t ≤ t.length := List.length_filter_le _ _
theorem open_cons (c : Nat) (t : List Nat) : open_ (c :: t) = (if c = 43 then 0 else 1) + open_ t := by
  unfold open_
  rw [List.filter_cons]
  by_cases h : c = 43
  · simp [h]
  · simp [h]; omega
theorem uni_cons (c d : Nat) (t u : List Nat) : uni (c :: t) (d :: u) = (if 43 = c ∨ 43 = d then 43 else 46) :: uni t u := rfl
theorem open_uni : ∀ {t u : List Nat}, u.length = t.length → open_ (uni t u) ≤ open_ t
  | [], [], _ => Nat.le_refl _
  | c :: t, d :: u, h => by
    have ih := open_uni (t := t) (u := u) (by simpa using h)
    rw [uni_cons, open_cons, open_cons]
    by_cases e : c = 43
    · simp [e]; exact ih
    · rw [if_neg e]
      by_cases e2 : (43 = c ∨ 43 = d)
      · rw [if_pos e2, if_pos rfl]; omega
      · rw [if_neg e2, if_neg (by decide)]; omega
  | [], _ :: _, h => by simp at h
  | _ :: _, [], h => by simp at h
theorem open_lt : ∀ {t u : List Nat} {k : Nat}, u.length = t.length → u[k]? = some 43 → t[k]? ≠ some 43 → k < t.length → open_ (uni t u) < open_ t
  | [], _, _, _, _, _, h => by simp at h
  | c :: t, d :: u, 0, h, h1, h2, _ => by
    have ih := open_uni (t := t) (u := u) (by simpa using h)
    have e1 : d = 43 := by simpa using h1
    have e2 : ¬ c = 43 := by simpa using h2
    rw [uni_cons, open_cons, open_cons, if_neg e2, e1]
    simp
    omega
  | c :: t, d :: u, k + 1, h, h1, h2, h3 => by
    have ih := open_lt (t := t) (u := u) (k := k) (by simpa using h) (by simpa using h1) (by simpa using h2) (by simpa using h3)
    rw [uni_cons, open_cons, open_cons]
    by_cases e : c = 43
    · simp [e]; exact ih
    · rw [if_neg e]
      by_cases e2 : (43 = c ∨ 43 = d)
      · rw [if_pos e2, if_pos rfl]; omega
      · rw [if_neg e2, if_neg (by decide)]; omega
  | _ :: _, [], _, h, _, _, _ => by simp at h
theorem open_rep (n : Nat) : open_ (List.replicate n 46) = n := by simp [open_]
theorem news_mem {s t : List Nat} {k : Nat} : k ∈ news s t ↔ ∃ c, s[k]? = some c ∧ c ≠ 46 ∧ t[k]? ≠ some 43 := by
  unfold news
  simp only [List.mem_map, List.mem_filter, Bool.and_eq_true, Bool.not_eq_true', decide_eq_false_iff_not]
  constructor
  · rintro ⟨⟨c, j⟩, ⟨h, h1, h2⟩, rfl⟩
    exact ⟨c, by have := List.mem_zipIdx_iff_getElem?.mp h; simpa using this, h1, h2⟩
  · rintro ⟨c, h, h1, h2⟩
    exact ⟨(c, k), ⟨List.mem_zipIdx_iff_getElem?.mpr (by simpa using h), h1, h2⟩, rfl⟩
theorem lot_get {l : List Nat} {k c : Nat} (h : l[k]? = some c) : (lot l)[k]? = some (if c = 46 then 46 else 43) := by simp [lot, h]
theorem first_open {S : List (List Nat)} {t r s : List Nat} (h : first S t r = some s) (hs : s.length = t.length) : open_ (uni t (lot s)) < open_ t := by
  have hc := List.find?_some h
  unfold canTake at hc
  cases e : news s t with
  | nil => rw [e] at hc; simp at hc
  | cons k ks =>
    have hk : k ∈ news s t := by rw [e]; exact List.mem_cons_self
    obtain ⟨c, h1, h2, h3⟩ := news_mem.mp hk
    have hl := (List.getElem?_eq_some_iff.mp h1).1
    exact open_lt (k := k) (by rw [lot_len]; exact hs) (by rw [lot_get h1, if_neg h2]) h3 (by omega)
section
variable {P : Program} {w : World} {K : PySem.W.Frag} {mg : Str → Option Value} {base : Heap}
def spTaking (K : PySem.W.Frag) : Sp := fun vs H Q _ => ∃ M I x S r, Wf M I ∧ I H ∧ vs = [x, .str (T r)] ∧ Seeds K M H x S ∧ r.length ≤ 1000 ∧ (∀ s ∈ S, s.length = r.length) ∧
  ∀ y H', Ex M H H' → I H' → Rep K M H' y (.tup [.lst ((taken S r).1.map eS), eS (taken S r).2]) → Q y H'
theorem ok_taking (B : Bl mg) (G1 : Df P w K mg base 1 "blank" ["many"] [] (spBlank K)) (G2 : Df P w K mg base 3 "first_to_take" ["seeds", "told", "row"] [] (spFirst K)) (G3 : Df P w K mg base 1 "lot_of" ["row"] [] (spLot K)) (G4 : Df P w K mg base 1 "union" ["one", "other"] [] (spUni K))
    (F : At K mg "taking" s_taking ["seeds", "row"] []) : Df P w K mg base 4 "taking" ["seeds", "row"] [] (spTaking K) := by
  refine F.df sc_taking (fun vs H Q E h => ?_) (fun f cdv A outer s H vs Q E hr h => ⟨_, w_taking B G1 G2 G3 G4 hr, ?_⟩)
  · obtain ⟨M, I, x, S, r, _, _, rfl, _⟩ := h
    rfl
  · obtain ⟨M, I, x, S, r, hw, hI, rfl, hx, hr, hS, q⟩ := h
    unfold t_taking
    walk_at "sx"
    refine lst_mut hw hI (by decide) fun p H1 hp np e1 w1 i1 => ?_
    walk_at "sx"
    refine ⟨r.length, rfl, by omega, ?_⟩
    walk_at "sx"
    have hx1 : Seeds K (Mq M p) H1 x S := (hx.off hp).ex e1
    refine ⟨Mq M p, _, x, S, _, r, w1, i1, rfl, hx1, hr, by simp, hS, fun H2 e2 i2 => ?_⟩
    walk_at "sx"
    let W : Nat → L2.St → Hp → Prop := fun m σ H3 => ∃ n tk t, m = open_ t ∧ open_ t ≤ n ∧ t.length = r.length ∧ takes S r n tk t = taken S r ∧ σ = [some x, some (.str (T r)), some (.ref p), some (.str (T t)), some (optS (first S t r))] ∧
      Wf (Mq M p) (Iq I p (.lst (tk.map fun s => .str (T s)))) ∧ Iq I p (.lst (tk.map fun s => .str (T s))) H3 ∧ Ex (Mq M p) H H3 ∧ tk.length + open_ t ≤ r.length
    refine ⟨W, ⟨_, r.length, [], _, rfl, by rw [open_rep]; exact Nat.le_refl _, by simp, rfl, rfl, w1, i2, e1.trans e2, by rw [open_rep]; simp⟩, ?_⟩
    rintro m σ H3 ⟨n, tk, t, rfl, hn, ht, hrun, rfl, w3, i3, e3, hle⟩
    walk_at "sx"
    cases hf : first S t r with
    | none =>
      refine ifIsF (by simp [optS]) ?_
      walk_at "sx"
      have et : taken S r = (tk, t) := by
        rw [← hrun]
        cases n with
        | zero => rfl
        | succ n => unfold takes; rw [hf]
      have ex3 : Ex M H H3 := e3.shut hp
      have rp : Rep K M H3 (.ref p) (.lst (tk.map eS)) := .lst i3.2 np (Reps.scal (fun s => .str (T s)) tk)
      refine tup_end hw i3.1 (.cons rp (.cons (.str (T t)) .nil)) (by show 2 ≤ sizeLine; decide) fun y H4 e4 i4 r4 => ?_
      rw [et] at q
      exact q y H4 (ex3.trans e4) i4 r4
    | some s =>
      refine ifIsT (by simp [optS]) ?_
      refine ⟨fun σ' H' => ∃ m', m' < open_ t ∧ W m' σ' H', fun _ _ h => h, ?_⟩
      have hs : s ∈ S := List.mem_of_find?_eq_some hf
      have ls : s.length = r.length := hS s hs
      have hlt := first_open hf (by omega)
      walk_at "sx"
      refine ⟨tyv_l i3.2, ?_⟩
      walk_at "sx"
      refine app_mut hw np i3 (by simp; omega) fun H4 e4 w4 i4 => ?_
      have i4' : Iq I p (.lst ((tk ++ [s]).map fun s => .str (T s))) H4 := by rw [List.map_append]; exact i4
      have w4' : Wf (Mq M p) (Iq I p (.lst ((tk ++ [s]).map fun s => .str (T s)))) := by rw [List.map_append]; exact w4
      walk_at "sx"
      refine ⟨_, _, s, w4', i4', rfl, by omega, fun H5 e5 i5 => ?_⟩
      walk_at "sx"
      refine ⟨_, _, t, lot s, w4', i5, rfl, by omega, fun H6 e6 i6 => ?_⟩
      walk_at "sx"
      have lu : (uni t (lot s)).length = r.length := by rw [uni_len (by rw [lot_len]; omega)]; exact ht
      have ex6 : Ex (Mq M p) H H6 := (((e3.trans e4).trans e5).trans e6)
      refine ⟨_, _, x, S, uni t (lot s), r, w4', i6, rfl, (hx.off hp).ex ex6, hr, lu, hS, fun H7 e7 i7 => ?_⟩
      walk_at "sx"
      have nz : n ≠ 0 := by omega
      obtain ⟨n', rfl⟩ := Nat.exists_eq_succ_of_ne_zero nz
      refine ⟨_, hlt, n', tk ++ [s], uni t (lot s), rfl, by omega, lu, ?_, rfl, w4', i7, ex6.trans e7, by simp; omega⟩
      rw [← hrun]
      conv => rhs; unfold takes
      rw [hf]
end


/-! ### the paper -/
abbrev kRow : List Nat := [114, 111, 119]
abbrev kTake : List Nat := [116, 97, 107, 101]
abbrev kMade : List Nat := [109, 97, 100, 101]
abbrev kBar : List Nat := [98, 97, 114]
abbrev kBarred : List Nat := [98, 97, 114, 114, 101, 100]
def unlike (s t r : List Nat) : List Nat := (news s t).filter fun k => !decide (r[k]? = s[k]?)
def barD (fr : List (List Nat × Nat)) (t r s : List Nat) : Option D := match unlike s t r with
  | [] => none
  | u :: _ => some (.tup [eS kBar, eS s, eS (fr.getD u ([], 0)).1])
def bars (fr : List (List Nat × Nat)) (S : List (List Nat)) (r t : List Nat) : List D := S.filterMap (barD fr t r)
def paper (fr : List (List Nat × Nat)) (S : List (List Nat)) (r : List Nat) : List D :=
  let tk := taken S r
  [.tup [eS kRow, eS r]] ++ tk.1.map (fun s => .tup [eS kTake, eS s]) ++ if tk.2 = lot r then [.tup [eS kMade]] else bars fr S r tk.2 ++ [.tup [eS kBarred]]
theorem unlike_lt {s t r : List Nat} {k : Nat} (h : k ∈ unlike s t r) : k < s.length := news_lt (List.mem_filter.mp h).1
theorem news_len (s t : List Nat) : (news s t).length ≤ s.length := by
  unfold news
  rw [List.length_map]
  refine Nat.le_trans (List.length_filter_le _ _) ?_
  simp
theorem bars_len (fr : List (List Nat × Nat)) (S : List (List Nat)) (r t : List Nat) : (bars fr S r t).length ≤ S.length := List.length_filterMap_le _ _
theorem takes_len (S : List (List Nat)) (r : List Nat) : ∀ n tk t, (takes S r n tk t).1.length ≤ tk.length + n
  | 0, tk, t => Nat.le_refl _
  | n + 1, tk, t => by
    unfold takes
    split
    · simp
    · refine Nat.le_trans (takes_len S r n _ _) ?_
      simp; omega
theorem takes_tlen (S : List (List Nat)) (r : List Nat) (hS : ∀ s ∈ S, s.length = r.length) : ∀ n tk t, t.length = r.length → (takes S r n tk t).2.length = r.length
  | 0, tk, t, h => h
  | n + 1, tk, t, h => by
    unfold takes
    split
    · exact h
    · rename_i s hs
      have := hS s (List.mem_of_find?_eq_some hs)
      exact takes_tlen S r hS n _ _ (by rw [uni_len (by rw [lot_len]; omega)]; exact h)
section
variable {P : Program} {w : World} {K : PySem.W.Frag} {mg : Str → Option Value} {base : Heap}
theorem at_eq {x y : List Nat} {k : Nat} (h1 : k < x.length) (h2 : k < y.length) : decide (x[k] = y[k]) = decide (x[k]? = y[k]?) := dec_congr (by simp [h1, h2])
def spBars (K : PySem.W.Frag) : Sp := fun vs H Q _ => ∃ M I c x fr S r t, Wf M I ∧ I H ∧ vs = [c, x, .str (T r), .str (T t)] ∧ Cells K M H c fr ∧ Seeds K M H x S ∧ r.length ≤ 1000 ∧ fr.length = r.length ∧ t.length = r.length ∧ S.length ≤ 1000 ∧ (∀ s ∈ S, s.length = r.length) ∧
  ∀ y H', Ex M H H' → I H' → Rep K M H' y (.lst (bars fr S r t)) → Q y H'
theorem ok_bar_lines (B : Bl mg) (G : Df P w K mg base 1 "new_places" ["seed", "told"] [] (spNews K)) (F : At K mg "bar_lines" s_bar_lines ["cells", "seeds", "row", "told"] []) : Df P w K mg base 2 "bar_lines" ["cells", "seeds", "row", "told"] [] (spBars K) := by
  refine F.df sc_bar_lines (fun vs H Q E h => ?_) (fun f cdv A outer s H vs Q E hr h => ⟨_, w_bar_lines B G hr, ?_⟩)
  · obtain ⟨M, I, c, x, fr, S, r, t, _, _, rfl, _⟩ := h
    rfl
  · obtain ⟨M, I, c, x, fr, S, r, t, hw, hI, rfl, hc, hx, hr, hfr, ht, hS0, hS, q⟩ := h
    unfold t_bar_lines
    walk_at "sx"
    refine lst_mut hw hI (by decide) fun p H1 hp np e1 w1 i1 => ?_
    walk_at "sx"
    obtain ⟨d, hd1, hd2⟩ := (hx.off hp).ex e1
    have hc1 := (hc.off hp).ex e1
    refine for_src (as := S) (enc := eS) hd1 (seeds_el hd2) (fun k σ H2 => ∃ acc, (∃ v u, σ = [some c, some x, some (.str (T r)), some (.str (T t)), some (.ref p), v, u, none]) ∧ Ex (Mq M p) H1 H2 ∧ Wf (Mq M p) (Iq I p (.lst acc)) ∧ Iq I p (.lst acc) H2 ∧ Reps K (Mq M p) H2 acc (bars fr (S.take k) r t))
      ⟨[], ⟨_, _, rfl⟩, Ex.refl _, w1, i1, .nil⟩ (fun k σ H h => by obtain ⟨_, _, h, _⟩ := h; exact h) ?_ ?_
    · rintro k a v σ H2 ha ⟨acc, ⟨v0, u0, rfl⟩, e2, w2, i2, rs⟩ rv
      cases rep_str rv
      have la : a.length = r.length := hS a (List.mem_of_getElem? ha)
      have acl : acc.length ≤ S.length := by
        rw [rs.length]
        refine Nat.le_trans (bars_len _ _ _ _) ?_
        simp; omega
      walk_at "sx"
      refine ⟨_, _, a, t, w2, i2, rfl, by omega, by omega, fun y H3 e3 i3 r3 => ?_⟩
      refine lc_srcF (as := news a t) (enc := eI) (fun k => !decide (r[k]? = a[k]?)) eI w2 i3 r3 rfl (szOk (by have := news_len a t; omega)) (fun _ => rfl) ?_ ?_ ?_
      · intro L acc2 k2 z v2 H4 hL hz rv2 wf hi ex Qt qt
        cases rep_int rv2
        have hk := news_lt (List.mem_of_getElem? hz)
        have hk2 : z < r.length := by omega
        walk_at "sx"
        refine ix_T (z := r[z]) (by walk_at "sz") (by simp [hk2]) ?_
        walk_at "sx"
        refine ix_T (z := a[z]) (by walk_at "sz") (by simp [hk]) ?_
        walk_at "sx"
        first
          | rw [dec1, at_eq hk2 hk]
          | rw [at_eq hk2 hk]
        exact qt _ hi (Ex.refl _)
      · intro L acc2 k2 z v2 H4 hL hz _ rv2 wf hi ex Qe qe
        cases rep_int rv2
        walk_at "sx"
        exact qe _ _ (.int _) hi (Ex.refl _)
      · intro y2 H4 r4 e4 i4
        walk_at "sx"
        refine lst_end (K := K) w2 i4 .nil (by decide) fun y3 H5 e5 i5 r5 => ?_
        refine ne_L0 (r4.ex e5) r5 (flat_I _) ?_
        walk_at "sx"
        have eu : ((news a t).filter fun k => !decide (r[k]? = a[k]?)) = unlike a t r := rfl
        rw [eu] at r4 ⊢
        have e0 : ((unlike a t r).map eI).isEmpty = (unlike a t r).isEmpty := by cases unlike a t r <;> rfl
        rw [e0]
        have ex5 : Ex (Mq M p) H1 H5 := ((e2.trans e3).trans e4).trans e5
        have rs5 := ((rs.ex e3).ex e4).ex e5
        cases hu : unlike a t r with
        | nil =>
          refine ifIsF rfl ?_
          walk_at "sx"
          refine ⟨acc, ⟨_, _, rfl⟩, ex5, w2, i5, ?_⟩
          have eb : bars fr (S.take (k + 1)) r t = bars fr (S.take k) r t := by
            unfold bars
            rw [take_snoc ha, List.filterMap_append]
            simp [barD, hu]
          rw [eb]
          exact rs5
        | cons u us =>
          refine ifIsT rfl ?_
          have hul : u < a.length := unlike_lt (r := r) (t := t) (by rw [hu]; exact List.mem_cons_self)
          have huf : u < fr.length := by omega
          walk_at "sx"
          refine ⟨tyv_l i5.2, ?_⟩
          walk_at "sx"
          rw [hu] at r4
          refine ix_R (M := Mq M p) (n := 0) (r4.ex e5) (.inl rfl) rfl fun v6 r6 => ?_
          cases rep_int r6
          refine Cells.ix (hc1.ex ex5) huf fun v7 r7 => ?_
          walk_at "sx"
          refine ix_R (M := Mq M p) (n := 0) r7 (.inr rfl) rfl fun v8 r8 => ?_
          cases rep_str r8
          walk_at "sx"
          rename_i v9 H6 e6 i6 r6
          refine app_mut hw np i6 (by omega) fun H7 e7 w7 i7 => ?_
          refine ⟨_, ⟨_, _, rfl⟩, (ex5.trans e6).trans e7, w7, i7, ?_⟩
          have eb : bars fr (S.take (k + 1)) r t = bars fr (S.take k) r t ++ [.tup [eS kBar, eS a, eS fr[u].1]] := by
            unfold bars
            rw [take_snoc ha, List.filterMap_append]
            simp [barD, hu, List.getD, huf]
          rw [eb]
          exact ((rs5.ex e6).append (.cons r6 .nil)).ex e7
    · rintro σ H2 ⟨acc, ⟨v0, u0, rfl⟩, e2, w2, i2, rs⟩
      walk_at "sx"
      refine q _ H2 ((e1.trans e2).shut hp) i2.1 (.lst i2.2 np ?_)
      rw [List.take_length] at rs
      exact rs.le fun _ m => .inl m
def spCome (K : PySem.W.Frag) : Sp := fun vs H Q _ => ∃ M I c x fr S r, Wf M I ∧ I H ∧ vs = [c, x, .str (T r)] ∧ Cells K M H c fr ∧ Seeds K M H x S ∧ r.length ≤ 1000 ∧ S.length ≤ 1000 ∧ isRow fr r = true ∧ (∀ s ∈ S, s.length = r.length) ∧
  ∀ y H', Ex M H H' → I H' → Rep K M H' y (.lst (paper fr S r)) → Q y H'
theorem isRow_len {fr : List (List Nat × Nat)} {r : List Nat} (h : isRow fr r = true) : r.length = fr.length := by
  unfold isRow at h
  simp at h
  exact h.1
theorem ok_come (B : Bl mg) (G1 : Df P w K mg base 2 "bar_lines" ["cells", "seeds", "row", "told"] [] (spBars K)) (G2 : Df P w K mg base 1 "is_row" ["cells", "value"] [] (spIsRowD K)) (G3 : Df P w K mg base 1 "lot_of" ["row"] [] (spLot K)) (G4 : Df P w K mg base 4 "taking" ["seeds", "row"] [] (spTaking K))
    (F : At K mg "come" s_come ["cells", "seeds", "row"] []) : Df P w K mg base 5 "come" ["cells", "seeds", "row"] [] (spCome K) := by
  have G2r := row_str G2
  refine F.df sc_come (fun vs H Q E h => ?_) (fun f cdv A outer s H vs Q E hr h => ⟨_, w_come B G1 G2r G3 G4 hr, ?_⟩)
  · obtain ⟨M, I, c, x, fr, S, r, _, _, rfl, _⟩ := h
    rfl
  · obtain ⟨M, I, c, x, fr, S, r, hw, hI, rfl, hc, hx, hr, hS0, hrow, hS, q⟩ := h
    have hfr := isRow_len hrow
    unfold t_come
    walk_at "sx"
    refine ⟨M, I, c, fr, r, hw, hI, rfl, hc, hr, by omega, fun H1 e1 i1 => ?_⟩
    rw [hrow]
    walk_at "sx"
    refine ⟨M, I, x, S, r, hw, i1, rfl, hx.ex e1, hr, hS, fun y H2 e2 i2 r2 => ?_⟩
    refine gs_pair r2 fun y1 y2 r3 r4 => ?_
    cases rep_str r4
    have l1 : (taken S r).1.length ≤ r.length := Nat.le_trans (takes_len _ _ _ _ _) (by simp)
    have l2 : (taken S r).2.length = r.length := takes_tlen S r hS _ _ _ (by simp)
    walk_at "sx"
    rename_i z1 H3 e3 i3 r5 z2 H4 e4 i4 r6
    refine lc_srcM (as := (taken S r).1) (enc := eS) (fun s => .tup [eS kTake, eS s]) hw i4 ((r3.ex e3).ex e4) rfl (szOk (by omega)) (fun _ => rfl) ?_ ?_
    · intro L acc k a v H5 hL ha rv wf hi ex Qe qe
      cases rep_str rv
      walk_at "sx"
      exact qe _ _ (by assumption) (by assumption) (by assumption)
    · intro y6 H6 r7 e6 i6
      refine add_LL hw i6 (r6.ex e6) r7 (szOk (by simp; omega)) fun v7 H7 e7 i7 r8 => ?_
      walk_at "sx"
      refine ⟨M, I, r, hw, i7, rfl, hr, fun H8 e8 i8 => ?_⟩
      walk_at "sx"
      refine ifB (fun h => ?_) (fun h => ?_)
      · have ht : (taken S r).2 = lot r := by simpa using h
        walk_at "sx"
        rename_i u1 H9 e9 i9 r9 u2 H10 e10 i10 r10
        refine add_LL hw i10 (((r8.ex e8).ex e9).ex e10) r10 (szOk (by simp; omega)) fun v11 H11 e11 i11 r11 => ?_
        refine q v11 H11 (by walk_at "ex") i11 ?_
        simp only [paper, if_pos ht]
        exact r11
      · have ht : ¬ (taken S r).2 = lot r := by simpa using h
        walk_at "sx"
        refine ⟨M, I, c, x, fr, S, r, _, hw, i8, rfl, hc.ex (by walk_at "ex"), hx.ex (by walk_at "ex"), hr, by omega, l2, hS0, hS, fun y9 H9 e9 i9 r9 => ?_⟩
        refine add_LL hw i9 ((r8.ex e8).ex e9) r9 (szOk ?_) fun v10 H10 e10 i10 r10 => ?_
        · have := bars_len fr S r (taken S r).2
          simp; omega
        · walk_at "sx"
          rename_i u1 H11 e11 i11 r11 u2 H12 e12 i12 r12
          refine add_LL hw i12 ((r10.ex e11).ex e12) r12 (szOk ?_) fun v13 H13 e13 i13 r13 => ?_
          · have := bars_len fr S r (taken S r).2
            simp; omega
          refine q v13 H13 (by walk_at "ex") i13 ?_
          simp only [paper, if_neg ht]
          rw [← List.append_assoc]
          exact r13
def spTold (K : PySem.W.Frag) : Sp := fun vs H Q _ => ∃ M I c x fr S r, Wf M I ∧ I H ∧ vs = [c, x, .str (T r)] ∧ Cells K M H c fr ∧ Seeds K M H x S ∧ r.length ≤ 1000 ∧ isRow fr r = true ∧ (∀ s ∈ S, s.length = r.length) ∧
  ∀ H', Ex M H H' → I H' → Q (.str (T (taken S r).2)) H'
def spMade (K : PySem.W.Frag) : Sp := fun vs H Q _ => ∃ M I c x fr S r, Wf M I ∧ I H ∧ vs = [c, x, .str (T r)] ∧ Cells K M H c fr ∧ Seeds K M H x S ∧ r.length ≤ 1000 ∧ isRow fr r = true ∧ (∀ s ∈ S, s.length = r.length) ∧
  ∀ H', Ex M H H' → I H' → Q (.bl (decide ((taken S r).2 = lot r))) H'
theorem ok_is_made (B : Bl mg) (G2 : Df P w K mg base 1 "is_row" ["cells", "value"] [] (spIsRowD K)) (G3 : Df P w K mg base 1 "lot_of" ["row"] [] (spLot K)) (G4 : Df P w K mg base 4 "taking" ["seeds", "row"] [] (spTaking K))
    (F : At K mg "is_made" s_is_made ["cells", "seeds", "row"] []) : Df P w K mg base 5 "is_made" ["cells", "seeds", "row"] [] (spMade K) := by
  have G2r := row_str G2
  refine F.df sc_is_made (fun vs H Q E h => ?_) (fun f cdv A outer s H vs Q E hr h => ⟨_, w_is_made B G2r G3 G4 hr, ?_⟩)
  · obtain ⟨M, I, c, x, fr, S, r, _, _, rfl, _⟩ := h
    rfl
  · obtain ⟨M, I, c, x, fr, S, r, hw, hI, rfl, hc, hx, hr, hrow, hS, q⟩ := h
    have hfr := isRow_len hrow
    unfold t_is_made
    walk_at "sx"
    refine ⟨M, I, c, fr, r, hw, hI, rfl, hc, hr, by omega, fun H1 e1 i1 => ?_⟩
    rw [hrow]
    walk_at "sx"
    refine ⟨M, I, x, S, r, hw, i1, rfl, hx.ex e1, hr, hS, fun y H2 e2 i2 r2 => ?_⟩
    walk_at "sx"
    refine ix_R (n := 1) r2 (.inr rfl) rfl fun v3 r3 => ?_
    cases rep_str r3
    walk_at "sx"
    refine ⟨M, I, r, hw, i2, rfl, hr, fun H3 e3 i3 => ?_⟩
    walk_at "sx"
    exact q H3 (by walk_at "ex") i3
end


/-! ### the bag -/
section
variable {P : Program} {w : World} {K : PySem.W.Frag} {mg : Str → Option Value} {base : Heap}
def spBag (K : PySem.W.Frag) : Sp := fun vs H Q _ => ∃ (a : Addr) (ns : List Int), vs = [.ref a] ∧ SqL K H a (ns.map V.int) ∧ ns.length ≤ 63 ∧ ∀ b l H', b ≠ l → BagOk H' b l → Q (.ref b) H'
theorem ok_bag (B : Bl mg) (F : At K mg "_law_bag" s__law_bag ["_law_script"] []) : Df P w K mg base 1 "_law_bag" ["_law_script"] [] (spBag K) := by
  refine F.df sc__law_bag (fun vs H Q E h => ?_) (fun f cdv A outer s H vs Q E hr h => ⟨_, w__law_bag B hr, ?_⟩)
  · obtain ⟨a, ns, rfl, _⟩ := h
    rfl
  · obtain ⟨a, ns, rfl, hS, hl, q⟩ := h
    unfold t__law_bag
    walk_at "sx"
    have ec : cutV (ns.map V.int) none (some 63) = ns.map V.int := by
      have e := cut_to (xs := ns.map V.int) (n := 63)
      refine e.trans (List.take_of_length_le (by simpa using hl))
    refine .inl ⟨a, _, rfl, hS, fun p hp => ?_⟩
    rw [ec]
    have e1 : Ex M0 H (upd H p (.lst (ns.map V.int))) := Ex.of (same_upd hp)
    refine for_src (K := K) (M := M0) (as := ns) (enc := D.int) (.lst upd_same (fun h => h) (Reps.scal (fun i => .int i) ns)) rfl (fun k σ H1 => ∃ m v, σ = [some (.ref a), some (.int (m : Nat)), v] ∧ m < 2147483400 ∧ Ex M0 (upd H p (.lst (ns.map V.int))) H1)
      ⟨42012, none, rfl, by decide, Ex.refl _⟩ (fun k σ H h => by obtain ⟨_, _, _, _, h⟩ := h; exact h) ?_ ?_
    · rintro k z v σ H1 hz ⟨m, v0, rfl, hm, e2⟩ rv
      cases rep_int rv
      walk_at "sx"
      refine mul_r (by decide) ?_
      walk_at "sx"
      refine mod_any (by decide) fun m2 h2 => ?_
      walk_at "sx"
      refine mul_r (by decide) ?_
      walk_at "sx"
      refine mod_any (by decide) fun m3 h3 => ?_
      walk_at "sx"
      exact ⟨m3, _, rfl, by omega, e2⟩
    · rintro σ H1 ⟨m, v0, rfl, hm, e2⟩
      walk_at "sx"
      refine .inl ⟨a, _, rfl, sq_l (e1.trans e2) (fun h => h) hS, fun p2 hp2 => ?_⟩
      rw [ec]
      walk_at "sx"
      refine .inl ⟨p2, _, rfl, .inl (SqL.of upd_same), fun l hl2 => ?_⟩
      walk_at "sx"
      refine ⟨by show 5 ≤ sizeLine; decide, fun b hb => ?_⟩
      have hn : b ≠ l := fun e => by subst e; rw [upd_same] at hb; cases hb
      exact q b l _ hn ⟨ns, 0, 0, m, 0, upd_same, by rw [upd_ne hn.symm, upd_same], by omega, by omega⟩
def spDraw (K : PySem.W.Frag) : Sp := fun vs H Q _ => ∃ (M : Addr → Prop) (I : Hp → Prop) (b : Addr) (n : Int), Wf M I ∧ I H ∧ HasBag M I b ∧ vs = [.ref b, .int n] ∧ 0 < n ∧ n < 2 ^ 200 ∧ ∀ (k : Nat) H', (k : Int) < n → Ex M H H' → I H' → Q (.int (k : Nat)) H'
theorem ok_draw (B : Bl mg) (F : At K mg "_law_draw" s__law_draw ["_law_bag_here", "_law_sides"] []) : Df P w K mg base 1 "_law_draw" ["_law_bag_here", "_law_sides"] [] (spDraw K) := by
  refine F.df sc__law_draw (fun vs H Q E h => ?_) (fun f cdv A outer s H vs Q E hr h => ⟨_, w__law_draw B hr, ?_⟩)
  · obtain ⟨M, I, b, n, _, _, _, rfl, _⟩ := h
    rfl
  · obtain ⟨M, I, b, n, hw, hI, hB, rfl, hn, hn2, q⟩ := h
    have hlog : n.natAbs.log2 < 9000 := by
      have h1 : n.natAbs < 2 ^ 200 := by omega
      have := PySem.Flt.log2_lt_of (n := n.natAbs) (k := 200) (by decide) h1
      omega
    obtain ⟨l, hMb, hMl, hbl, hOk, hput⟩ := hB.ex
    -- the end of it: only the bag has changed
    have fin : ∀ (k : Nat) H', (k : Int) < n → (∀ p, p ≠ b → H' p = H p) → BagOk H' b l → Q (.int (k : Nat)) H' := fun k H' hk e o =>
      q k H' hk (fun p u hp h => by rw [e p fun z => hp (z ▸ hMb)]; exact h) (hput H H' hI (fun p _ hp => e p hp) o)
    obtain ⟨cs, i, g, m, c, h0⟩ := hOk H hI
    unfold t__law_draw
    walk_at "sx"
    refine ix_raw h0.hb rfl ?_
    walk_at "sx"
    refine set_raw h0.hb rfl ?_
    have h1 : BagIs (upd H b (.lst (bagL l i g m (c + 1)))) b l cs i g m (c + 1) := bag_put h0 hbl h0.hm
    have k1 : ∀ p, p ≠ b → (upd H b (.lst (bagL l i g m (c + 1)))) p = H p := fun p hp => upd_ne hp
    -- the rest of the body, whatever the middle did
    have rest : ∀ (σ2 σ3 : Option V) (i g m : Nat) (H2 : Hp), BagIs H2 b l cs i g m (c + 1) → (∀ p, p ≠ b → H2 p = H p) →
        (tSeq (tIfS (tTest (tOp rGtU (tOp (rIx K) (tVar 0) (tC (.int 2))) (tC (.int 0)))) (tSeq (tAsg (tOp rModU (tCB (rInt1) (tCons (tOp (rIx K) (tVar 0) (tC (.int 2))) tNil)) (tVar 1)) (gName 3))
    (tSeq (tAsg (tOp rDivU (tOp (rIx K) (tVar 0) (tC (.int 2))) (tVar 1)) (gSub (tVar 0) (tC (.int 2)) rSetL))
    (tRet (tVar 3)))) tNext)
    (tSeq (tAsg (tCB (rInt1) (tCons (tOp (rIx K) (tVar 0) (tC (.int 3))) tNil)) (gName 4))
    (tSeq (tAsg (tOp rModU (tCB (rInt1) (tCons (tOp (rAddU K) (tOp (rAddU K) (tOp (rAddU K) (tOp rMulU (tOp rMulU (tVar 4) (tVar 4)) (tC (.int 23))) (tOp rMulU (tVar 4) (tC (.int 46021)))) (tOp rMulU (tOp (rIx K) (tVar 0) (tC (.int 4))) (tC (.int 104729)))) (tC (.int 60013))) tNil)) (tC (.int 2147483543))) (gSub (tVar 0) (tC (.int 3)) rSetL))
    (tRet (tOp rModU (tCB (rInt1) (tCons (tOp (rAddU K) (tOp rDivU (tOp (rIx K) (tVar 0) (tC (.int 3))) (tC (.int 67))) (tOp rMulU (tOp rModU (tCB (rInt1) (tCons (tOp (rIx K) (tVar 0) (tC (.int 3))) tNil)) (tC (.int 8009))) (tC (.int 61)))) tNil)) (tVar 1))))))
          { nx := fun _ H' => Q .non H', rt := Q } [some (.ref b), some (.int n), σ2, σ3, none] H2 := by
      intro σ2 σ3 i g m H2 h2 k2
      walk_at "sx"
      refine ix_raw h2.hb rfl ?_
      walk_at "sx"
      refine ifB (fun hg => ?_) (fun hg => ?_)
      · walk_at "sx"
        refine ix_raw h2.hb rfl ?_
        walk_at "sx"
        refine mod_any hn fun k hk => ?_
        walk_at "sx"
        refine ix_raw h2.hb rfl ?_
        walk_at "sx"
        refine div_any hn hlog fun g3 => ?_
        walk_at "sx"
        refine set_raw h2.hb rfl ?_
        walk_at "sx"
        exact fin k _ hk (fun p hp => (upd_ne hp).trans (k2 p hp)) ⟨_, _, _, _, _, bag_put h2 hbl (i' := i) (g' := g3) (c' := c + 1) h2.hm⟩
      · walk_at "sx"
        refine ix_raw h2.hb rfl ?_
        walk_at "sx"
        have hm := h2.hm
        refine mul_r (by omega) ?_
        walk_at "sx"
        refine mul_r (by decide) ?_
        walk_at "sx"
        refine mul_r (by decide) ?_
        walk_at "sx"
        refine ix_raw h2.hb rfl ?_
        walk_at "sx"
        refine mul_r (by decide) ?_
        walk_at "sx"
        refine mod_any (by decide) fun m3 h3 => ?_
        walk_at "sx"
        refine set_raw h2.hb rfl ?_
        have h4 := bag_put h2 hbl (i' := i) (g' := g) (m' := m3) (c' := c + 1) (by omega)
        walk_at "sx"
        refine ix_raw h4.hb rfl ?_
        walk_at "sx"
        refine div_any (by decide) (by decide +kernel) fun d => ?_
        walk_at "sx"
        refine ix_raw h4.hb rfl ?_
        walk_at "sx"
        refine mod_any (by decide) fun e he => ?_
        walk_at "sx"
        refine mul_r (by decide) ?_
        walk_at "sx"
        refine mod_any hn fun k hk => ?_
        exact fin k _ hk (fun p hp => (upd_ne hp).trans (k2 p hp)) ⟨_, _, _, _, _, h4⟩
    walk_at "sx"
    refine ix_raw h1.hb rfl ?_
    walk_at "sx"
    refine ifB (fun hg => ?_) (fun hg => ?_)
    · walk_at "sx"
      refine ix_raw h1.hb rfl ?_
      walk_at "sx"
      refine ix_raw h1.hb rfl ?_
      walk_at "sx"
      refine len_raw h1.hl ?_
      walk_at "sx"
      refine ifB (fun hi => ?_) (fun hi => ?_)
      · have hi2 : i < cs.length := by simpa using hi
        walk_at "sx"
        refine ix_raw h1.hb rfl ?_
        walk_at "sx"
        refine ix_raw h1.hb rfl ?_
        refine ix_raw (v := .int cs[i]) h1.hl (atI_nat' (by simp [hi2])) ?_
        walk_at "sx"
        refine ix_raw h1.hb rfl ?_
        walk_at "sx"
        refine set_raw h1.hb rfl ?_
        have h2 := bag_put h1 hbl (i' := i + 1) (g' := g) (c' := c + 1) h1.hm
        walk_at "sx"
        refine pow_ii ⟨by decide, by decide, by decide⟩ ?_
        walk_at "sx"
        refine ifB (fun hp => ?_) (fun hp => ?_)
        · walk_at "sx"
          refine set_raw h2.hb rfl ?_
          exact rest _ _ (i + 1) cs[i].natAbs m _ (bag_put h2 hbl h2.hm) fun p hp => (upd_ne hp).trans ((upd_ne hp).trans (k1 p hp))
        · walk_at "sx"
          refine ix_raw h2.hb rfl ?_
          walk_at "sx"
          refine mul_r (by decide) ?_
          walk_at "sx"
          refine mod_any (by decide) fun e he => ?_
          walk_at "sx"
          refine mul_r (by decide) ?_
          walk_at "sx"
          refine mod_any (by decide) fun m3 h3 => ?_
          walk_at "sx"
          refine set_raw h2.hb rfl ?_
          exact rest _ _ (i + 1) g m3 _ (bag_put h2 hbl (by omega)) fun p hp => (upd_ne hp).trans ((upd_ne hp).trans (k1 p hp))
      · refine sx_next ?_
        exact rest _ _ i g m _ h1 k1
    · refine ifF ?_
      refine sx_next ?_
      exact rest _ _ i g m _ h1 k1
end


section
variable {P : Program} {w : World} {K : PySem.W.Frag} {mg : Str → Option Value} {base : Heap}
def spOf (K : PySem.W.Frag) : Sp := fun vs H Q _ => ∃ (M : Addr → Prop) (I : Hp → Prop) (b : Addr) (x : V) (d : D) (ds : List D), Wf M I ∧ I H ∧ HasBag M I b ∧ vs = [.ref b, x] ∧ Rep K M H x d ∧ d.elems = some ds ∧ 0 < ds.length ∧ ds.length ≤ 100000 ∧ ∀ v e H', e ∈ ds → Rep K M H' v e → Ex M H H' → I H' → Q v H'
theorem ok_of (B : Bl mg) (G : Df P w K mg base 1 "_law_draw" ["_law_bag_here", "_law_sides"] [] (spDraw K)) (F : At K mg "_law_of" s__law_of ["_law_bag_here", "_law_things"] []) : Df P w K mg base 2 "_law_of" ["_law_bag_here", "_law_things"] [] (spOf K) := by
  refine F.df sc__law_of (fun vs H Q E h => ?_) (fun f cdv A outer s H vs Q E hr h => ⟨_, w__law_of B G hr, ?_⟩)
  · obtain ⟨M, I, b, x, d, ds, _, _, _, rfl, _⟩ := h
    rfl
  · obtain ⟨M, I, b, x, d, ds, hw, hI, hB, rfl, hx, hd, h0, hl, q⟩ := h
    unfold t__law_of
    walk_at "sx"
    refine len_E hx hd (szOk (by omega)) ?_
    walk_at "sx"
    refine ⟨M, I, b, _, hw, hI, hB, rfl, by omega, by omega, fun k H1 hk e1 i1 => ?_⟩
    have hk2 : k < ds.length := by omega
    refine ix_E (e := ds[k]) (hx.ex e1) hd (szOk (by omega)) (by simp [hk2]) fun v rv => ?_
    exact q v _ H1 (List.getElem_mem hk2) rv e1 i1
/-- a list or a tuple, its items in some order -/
def spMixed (K : PySem.W.Frag) : Sp := fun vs H Q _ => ∃ (M : Addr → Prop) (I : Hp → Prop) (b : Addr) (x : V) (d : D) (ds : List D), Wf M I ∧ I H ∧ HasBag M I b ∧ vs = [.ref b, x] ∧ Rep K M H x d ∧ (d = .lst ds ∨ d = .tup ds) ∧ ds.length ≤ 100000 ∧ ∀ v es H', es.Perm ds → Rep K M H' v (.lst es) → Ex M H H' → I H' → Q v H'
theorem Reps.erase {M : Addr → Prop} {H : Hp} : ∀ {xs : List V} {ds : List D} (k : Nat), Reps K M H xs ds → Reps K M H (xs.eraseIdx k) (ds.eraseIdx k)
  | _, _, _, .nil => .nil
  | _, _, 0, .cons _ y => y
  | _, _, k + 1, .cons x y => .cons x (Reps.erase k y)
theorem perm_erase {α : Type} {l : List α} {k : Nat} (h : k < l.length) : (l[k] :: l.eraseIdx k).Perm l := by
  have e : l = l.take k ++ l[k] :: l.drop (k + 1) := by rw [List.getElem_cons_drop, List.take_append_drop]
  have e2 : l.eraseIdx k = l.take k ++ l.drop (k + 1) := List.eraseIdx_eq_take_drop_succ l k
  rw [e2]
  conv => rhs; rw [e]
  exact List.perm_middle.symm
end


/-! ### same -/
def isSc : D → Bool
  | .non => true
  | .bl _ => true
  | .int _ => true
  | .str _ => true
  | _ => false
def fit : Nat → D → Prop
  | 0, d => isSc d = true
  | n + 1, d => isSc d = true ∨ (∃ l, (d = .lst l ∨ d = .tup l) ∧ l.length ≤ 100000 ∧ ∀ e ∈ l, fit n e) ∨ ∃ l, d = .dct l ∧ l.length ≤ 100000 ∧ (l.map (·.1)).Nodup ∧ 1 ≤ n ∧ ∀ kv ∈ l, fit n kv.2
theorem sc_key (k : Key) : isSc (keyD k) = true := by cases k <;> rfl
theorem fit_sc {d : D} (h : isSc d = true) : ∀ n, fit n d
  | 0 => h
  | _ + 1 => .inl h
section
variable {P : Program} {w : World} {K : PySem.W.Frag} {mg : Str → Option Value} {base : Heap}
theorem df_none {x : Str} {st : Stmt} {ps : List Str} {dfl : List V} (F : At K mg x st ps dfl) (k : Nat) : Df P w K mg base k x ps dfl (fun _ _ _ _ => False) := by
  obtain ⟨fd, F1, F2⟩ := F.ex
  exact ⟨F.mgx, ⟨fd, ⟨fun _ _ _ _ h => h.elim, fun _ _ _ _ _ _ _ _ _ _ _ _ _ h => h.elim⟩, F2⟩, F1.kp⟩
def spSame (K : PySem.W.Frag) (n : Nat) : Sp := fun vs H Q _ => ∃ (M : Addr → Prop) (I : Hp → Prop) (x y : V) (d : D), Wf M I ∧ I H ∧ vs = [x, y] ∧ Rep K M H x d ∧ Rep K M H y d ∧ fit n d ∧ ∀ H', Ex M H H' → I H' → Q (.bl true) H'
theorem kit_same {K : PySem.W.Frag} {H : Hp} {x : V} {t c : String} {b : Bool} {Q : VK} (h : TyX K H x (.type t)) (k : kitB t c = some b) (q : Q (.bl b) H) : rIsi K [x, .ty c] H Q :=
  ⟨x, .ty c, .type t, .type c, b, rfl, .ty c, h, kit_ty k, q⟩
/-- isinstance(x, (list, tuple)) -/
theorem kit_lt {K : PySem.W.Frag} {H : Hp} {x : V} {t : String} {b1 b2 : Bool} {p : Addr} {Q : VK} (hp : H p = some (.tup [.ty "list", .ty "tuple"])) (h : TyX K H x (.type t)) (k1 : kitB t "list" = some b1) (k2 : kitB t "tuple" = some b2) (q : Q (.bl (b1 || b2)) H) : rIsiT K [x, .ref p] H Q :=
  ⟨x, p, _, .type t, [.type "list", .type "tuple"], b1 || b2, rfl, hp, .cons (.ty _) (.cons (.ty _) .nil), h, by
    refine kitAny_cons (kit_ty k1) (fun e => ?_) (fun e => by rw [e]; rfl)
    rw [e]
    refine kitAny_cons (kit_ty k2) (fun e2 => ?_) (fun e2 => by rw [e2]; rfl)
    rw [e2]
    exact kitAny_nil, q⟩
theorem same_body {n : Nat} {sp : Sp} {M : Addr → Prop} {I : Hp → Prop} {x y : V} {d : D} {H : Hp} {Q : VK} (hw : Wf M I) (hI : I H) (hx : Rep K M H x d) (hy : Rep K M H y d)
    (hf : isSc d = true ∨ (∃ l, (d = .lst l ∨ d = .tup l) ∧ l.length ≤ 100000 ∧ ∀ e ∈ l, ∀ (M : Addr → Prop) (I : Hp → Prop) (x y : V) (H : Hp) (Q : VK), Wf M I → I H → Rep K M H x e → Rep K M H y e → (∀ H', Ex M H H' → I H' → Q (.bl true) H') → sp [x, y] H Q E0) ∨
      ∃ l, d = .dct l ∧ l.length ≤ 100000 ∧ (l.map (·.1)).Nodup ∧ ∀ e, (e = .lst (l.map fun kv => keyD kv.1) ∨ ∃ kv ∈ l, e = kv.2) → ∀ (M : Addr → Prop) (I : Hp → Prop) (x y : V) (H : Hp) (Q : VK), Wf M I → I H → Rep K M H x e → Rep K M H y e → (∀ H', Ex M H H' → I H' → Q (.bl true) H') → sp [x, y] H Q E0)
    (q : ∀ H', Ex M H H' → I H' → Q (.bl true) H') : t__law_same K sp { nx := fun _ H' => Q .non H', rt := Q } (L2.start n__law_same [x, y]) H := by
  unfold t__law_same
  -- (list, tuple)
  have lt : ∀ {Z : VK} {H : Hp}, I H → (∀ p H2, H2 p = some (.tup [.ty "list", .ty "tuple"]) → Ex M H H2 → I H2 → Z (.ref p) H2) → TupK Z [.ty "list", .ty "tuple"] H := fun {Z H} hI q => by
    refine ⟨by show 2 ≤ sizeLine; decide, fun p hp => ?_⟩
    have s := same_upd (o := .tup [.ty "list", .ty "tuple"]) hp
    exact q p _ upd_same (Ex.of s) (hw.same s hI)
  rcases hf with hsc | ⟨l, hd, hl, hr⟩ | ⟨l, hd, hl, hnd, hr⟩
  · cases d with
    | non =>
      cases rep_non hx
      cases rep_non hy
      walk_at "sx"
      refine ifIsT (by simp) ?_
      walk_at "sx"
      refine ifIsT (by simp) ?_
      walk_at "sx"
      rw [show decide (V.non = V.non) = true by simp]
      exact q H (Ex.refl _) hI
    | bl b =>
      cases rep_bl hx
      cases rep_bl hy
      walk_at "sx"
      refine ifIsF (by simp) ?_
      walk_at "sx"
      refine ifIsF (by simp) ?_
      walk_at "sx"
      refine lt hI fun p H2 hp2 e2 i2 => ?_
      walk_at "sx"
      refine kit_lt hp2 (.base (.bl b)) (b1 := false) (b2 := false) (by decide +kernel) (by decide +kernel) ?_
      refine ex_b ?_
      refine ifIsF rfl ?_
      walk_at "sx"
      refine kit_same (.base (.bl b)) (b := false) (by decide +kernel) ?_
      walk_at "sx"
      refine kit_same (.base (.bl b)) (b := true) (by decide +kernel) ?_
      walk_at "sx"
      refine kit_same (.base (.bl b)) (b := true) (by decide +kernel) ?_
      walk_at "sx"
      refine ifIsF (by simp) ?_
      walk_at "sx"
      refine kit_same (.base (.bl b)) (b := true) (by decide +kernel) ?_
      walk_at "sx"
      refine kit_same (.base (.bl b)) (b := true) (by decide +kernel) ?_
      walk_at "sx"
      refine ifIsF (by simp) ?_
      walk_at "sx"
      refine kit_same (.base (.bl b)) (b := false) (by decide +kernel) ?_
      walk_at "sx"
      refine kit_same (.base (.bl b)) (b := false) (by decide +kernel) ?_
      walk_at "sx"
      refine ifIsT (by simp) ?_
      walk_at "sx"
      rw [show decide (b = b) = true by simp]
      exact q H2 e2 i2
    | int i =>
      cases rep_int hx
      cases rep_int hy
      walk_at "sx"
      refine ifIsF (by simp) ?_
      walk_at "sx"
      refine ifIsF (by simp) ?_
      walk_at "sx"
      refine lt hI fun p H2 hp2 e2 i2 => ?_
      walk_at "sx"
      refine kit_lt hp2 (.base (.int i)) (b1 := false) (b2 := false) (by decide +kernel) (by decide +kernel) ?_
      refine ex_b ?_
      refine ifIsF rfl ?_
      walk_at "sx"
      refine kit_same (.base (.int i)) (b := false) (by decide +kernel) ?_
      walk_at "sx"
      refine kit_same (.base (.int i)) (b := false) (by decide +kernel) ?_
      walk_at "sx"
      refine kit_same (.base (.int i)) (b := false) (by decide +kernel) ?_
      walk_at "sx"
      refine ifIsF (by simp) ?_
      walk_at "sx"
      refine kit_same (.base (.int i)) (b := true) (by decide +kernel) ?_
      walk_at "sx"
      refine kit_same (.base (.int i)) (b := true) (by decide +kernel) ?_
      walk_at "sx"
      refine ifIsF (by simp) ?_
      walk_at "sx"
      refine kit_same (.base (.int i)) (b := false) (by decide +kernel) ?_
      walk_at "sx"
      refine kit_same (.base (.int i)) (b := false) (by decide +kernel) ?_
      walk_at "sx"
      refine ifIsT (by simp) ?_
      walk_at "sx"
      rw [show decide (i = i) = true by simp]
      exact q H2 e2 i2
    | str z =>
      cases rep_str hx
      cases rep_str hy
      walk_at "sx"
      refine ifIsF (by simp) ?_
      walk_at "sx"
      refine ifIsF (by simp) ?_
      walk_at "sx"
      refine lt hI fun p H2 hp2 e2 i2 => ?_
      walk_at "sx"
      refine kit_lt hp2 (.base (.str z)) (b1 := false) (b2 := false) (by decide +kernel) (by decide +kernel) ?_
      refine ex_b ?_
      refine ifIsF rfl ?_
      walk_at "sx"
      refine kit_same (.base (.str z)) (b := false) (by decide +kernel) ?_
      walk_at "sx"
      refine kit_same (.base (.str z)) (b := false) (by decide +kernel) ?_
      walk_at "sx"
      refine kit_same (.base (.str z)) (b := false) (by decide +kernel) ?_
      walk_at "sx"
      refine ifIsF (by simp) ?_
      walk_at "sx"
      refine kit_same (.base (.str z)) (b := false) (by decide +kernel) ?_
      walk_at "sx"
      refine kit_same (.base (.str z)) (b := false) (by decide +kernel) ?_
      walk_at "sx"
      refine ifIsF (by simp) ?_
      walk_at "sx"
      refine kit_same (.base (.str z)) (b := true) (by decide +kernel) ?_
      walk_at "sx"
      refine kit_same (.base (.str z)) (b := true) (by decide +kernel) ?_
      walk_at "sx"
      refine ifIsT (by simp) ?_
      walk_at "sx"
      refine .inl ⟨rfl, ?_⟩
      rw [show decide (V.str z = V.str z) = true by simp]
      exact q H2 e2 i2
    | _ => cases hsc
  · -- lists and tuples alike
    have key : ∀ {t : String} {b1 b2 : Bool}, (∀ H2, Ex M H H2 → TyX K H2 x (.type t) ∧ TyX K H2 y (.type t)) → d.elems = some l → x ≠ .non → y ≠ .non → kitB t "list" = some b1 → kitB t "tuple" = some b2 → (b1 || b2) = true →
        t__law_same K sp { nx := fun _ H' => Q .non H', rt := Q } (L2.start n__law_same [x, y]) H := fun {t b1 b2} ht hde nx ny k1 k2 hb => by
      unfold t__law_same
      walk_at "sx"
      refine ifIsF (by simp [ny]) ?_
      walk_at "sx"
      refine ifIsF (by simp [nx]) ?_
      walk_at "sx"
      refine lt hI fun p H2 hp2 e2 i2 => ?_
      obtain ⟨tx, ty⟩ := ht H2 e2
      walk_at "sx"
      refine kit_lt hp2 ty k1 k2 ?_
      refine ex_b ?_
      refine ifIsT hb ?_
      walk_at "sx"
      refine kit_same tx k1 ?_
      walk_at "sx"
      refine kit_same ty k1 ?_
      walk_at "sx"
      refine ifIsF (by simp) ?_
      walk_at "sx"
      refine kit_same tx k2 ?_
      walk_at "sx"
      refine kit_same ty k2 ?_
      walk_at "sx"
      refine ifIsF (by simp) ?_
      walk_at "sx"
      refine len_E (hx.ex e2) hde (szOk (by omega)) ?_
      walk_at "sx"
      refine len_E (hy.ex e2) hde (szOk (by omega)) ?_
      walk_at "sx"
      refine ifIsT (by simp) ?_
      walk_at "sx"
      refine lc_zipM (as := l) (bs := l) (enc := id) (enc2 := id) (fun _ => .bl true) hw i2 (hx.ex e2) (by simpa using hde) (hy.ex e2) (by simpa using hde) (szOk (by omega)) (fun _ _ => rfl) ?_ ?_
      · intro L acc k a b v u H3 hL ha hb' rv rw' wf hi ex Qe qe
        have eab : a = b := by rw [ha] at hb'; exact Option.some.inj hb'
        subst eab
        walk_at "sx"
        exact hr a (List.mem_of_getElem? ha) _ _ v u H3 _ wf hi rv rw' fun H4 e4 i4 => qe _ H4 (.bl true) i4 e4
      · intro y2 H3 rp e3 i3
        refine all_M (fun _ => true) rp ?_
        rw [show ((l.zip l).all fun _ => true) = true by simp]
        exact q H3 (e2.trans e3) i3
    rcases hd with rfl | rfl
    · refine key (t := "list") (b1 := true) (b2 := false) (fun H2 e => ⟨tyx_of (hx.ex e) (.lst _), tyx_of (hy.ex e) (.lst _)⟩) rfl ?_ ?_ (by decide +kernel) (by decide +kernel) rfl
      · cases hx; exact nofun
      · cases hy; exact nofun
    · refine key (t := "tuple") (b1 := false) (b2 := true) (fun H2 e => ⟨tyx_of (hx.ex e) (.tup _), tyx_of (hy.ex e) (.tup _)⟩) rfl ?_ ?_ (by decide +kernel) (by decide +kernel) rfl
      · cases hx; exact nofun
      · cases hy; exact nofun
  · -- dicts
    subst hd
    have nx : x ≠ .non := by cases hx; exact nofun
    have ny : y ≠ .non := by cases hy; exact nofun
    walk_at "sx"
    refine ifIsF (by simp [ny]) ?_
    walk_at "sx"
    refine ifIsF (by simp [nx]) ?_
    walk_at "sx"
    refine lt hI fun p H2 hp2 e2 i2 => ?_
    have tx : ∀ H3, Ex M H2 H3 → TyX K H3 x (.type "dict") := fun H3 e => tyx_of ((hx.ex e2).ex e) (.dct _)
    have ty : ∀ H3, Ex M H2 H3 → TyX K H3 y (.type "dict") := fun H3 e => tyx_of ((hy.ex e2).ex e) (.dct _)
    walk_at "sx"
    refine kit_lt hp2 (ty _ (Ex.refl _)) (b1 := false) (b2 := false) (by decide +kernel) (by decide +kernel) ?_
    refine ex_b ?_
    refine ifIsF rfl ?_
    walk_at "sx"
    refine kit_same (ty _ (Ex.refl _)) (b := true) (by decide +kernel) ?_
    walk_at "sx"
    refine kit_same (tx _ (Ex.refl _)) (b := true) (by decide +kernel) ?_
    walk_at "sx"
    refine list_keys hw i2 (hx.ex e2) fun v3 H3 e3 i3 r3 => ?_
    walk_at "sx"
    refine list_keys hw i3 ((hy.ex e2).ex e3) fun v4 H4 e4 i4 r4 => ?_
    walk_at "sx"
    refine hr _ (.inl rfl) M I v3 v4 H4 _ hw i4 (r3.ex e4) r4 fun H5 e5 i5 => ?_
    walk_at "sx"
    have e25 : Ex M H2 H5 := (e3.trans e4).trans e5
    have hx5 := (hx.ex e2).ex e25
    have hy5 := (hy.ex e2).ex e25
    refine list_keys hw i5 hy5 fun v6 H6 e6 i6 r6 => ?_
    refine lc_srcM (as := l) (enc := fun kv => keyD kv.1) (fun _ => .bl true) hw i6 r6 rfl (szOk (by omega)) (fun _ => rfl) ?_ ?_
    · intro L acc k a v H7 hL ha rv wf hi ex Qe qe
      have hm := List.mem_of_getElem? ha
      obtain ⟨a1, a2⟩ := a
      have ev : v = kV a1 := by
        cases a1 with
        | inl i => exact rep_int rv
        | inr z => exact rep_str rv
      subst ev
      have rx7 := ((hx5.ex e6).off hL).ex ex
      have ry7 := ((hy5.ex e6).off hL).ex ex
      walk_at "sx"
      refine sx_dget ?_
      walk_at "sx"
      refine dget_R rx7 hnd hm fun u1 ru1 => ?_
      walk_at "sx"
      refine sx_dget ?_
      walk_at "sx"
      refine dget_R ry7 hnd hm fun u2 ru2 => ?_
      walk_at "sx"
      exact hr a2 (.inr ⟨_, hm, rfl⟩) _ _ u1 u2 H7 _ wf hi ru1 ru2 fun H8 e8 i8 => qe _ H8 (.bl true) i8 e8
    · intro y2 H7 rp e7 i7
      walk_at "sx"
      refine all_M (fun _ => true) rp ?_
      rw [show (l.all fun _ => true) = true from List.all_eq_true.mpr fun _ _ => rfl]
      exact q H7 ((e2.trans e25).trans (e6.trans e7)) i7
theorem ok_same (B : Bl mg) (F : At K mg "_law_same" s__law_same ["_law_found", "_law_due"] []) : ∀ n, Df P w K mg base (n + 1) "_law_same" ["_law_found", "_law_due"] [] (spSame K n)
  | 0 => by
    refine F.df sc__law_same (fun vs H Q E h => ?_) (fun f cdv A outer s H vs Q E hr h => ⟨_, w__law_same (kk := 0) B (df_none F 0) hr, ?_⟩)
    · obtain ⟨M, I, x, y, d, _, _, rfl, _⟩ := h
      rfl
    · obtain ⟨M, I, x, y, d, hw, hI, rfl, hx, hy, hf, q⟩ := h
      exact same_body (n := 0) hw hI hx hy (.inl hf) q
  | n + 1 => by
    refine F.df sc__law_same (fun vs H Q E h => ?_) (fun f cdv A outer s H vs Q E hr h => ⟨_, w__law_same (kk := n + 1) B (ok_same B F n) hr, ?_⟩)
    · obtain ⟨M, I, x, y, d, _, _, rfl, _⟩ := h
      rfl
    · obtain ⟨M, I, x, y, d, hw, hI, rfl, hx, hy, hf, q⟩ := h
      refine same_body (n := n) hw hI hx hy ?_ q
      rcases hf with h | ⟨l, h1, h2, h3⟩ | ⟨l, h1, h2, h3, h4, h5⟩
      · exact .inl h
      · exact .inr (.inl ⟨l, h1, h2, fun e he M I x y H Q hw hI hx hy q => ⟨M, I, x, y, e, hw, hI, rfl, hx, hy, h3 e he, q⟩⟩)
      · refine .inr (.inr ⟨l, h1, h2, h3, fun e he M I x y H Q hw hI hx hy q => ⟨M, I, x, y, e, hw, hI, rfl, hx, hy, ?_, q⟩⟩)
        rcases he with rfl | ⟨kv, hkv, rfl⟩
        · obtain ⟨m, rfl⟩ : ∃ m, n = m + 1 := ⟨n - 1, by omega⟩
          refine .inr (.inl ⟨_, .inl rfl, by simpa using h2, fun e he => ?_⟩)
          obtain ⟨kv, _, rfl⟩ := List.mem_map.mp he
          exact fit_sc (sc_key _) _
        · exact h5 kv hkv
end


/-! ### drawn things -/
theorem str_k {k : Nat} {Q : VK} {H : Hp} (h : k < 10) (q : Q (.str (T [48 + k])) H) : rStr1 [.int (k : Nat)] H Q := by
  have e : ∀ k : Fin 10, Str.ofString (toString ((k.val : Nat) : Int)) = T [48 + k.val] := by decide +kernel
  have l : ∀ k : Fin 10, ((k.val : Nat) : Int).natAbs.log2 < 1920 := by decide +kernel
  refine ⟨_, rfl, l ⟨k, h⟩, ?_⟩
  have e2 := e ⟨k, h⟩
  show Q (.str (Str.ofString (toString ((k : Nat) : Int)))) H
  rw [e2]
  exact q
theorem nodup_len {α : Type} [DecidableEq α] : ∀ {l m : List α}, l.Nodup → (∀ a ∈ l, a ∈ m) → l.length ≤ m.length
  | [], _, _, _ => Nat.zero_le _
  | a :: l, m, hn, h => by
    have ha := h a List.mem_cons_self
    have h2 : ∀ b ∈ l, b ∈ m.erase a := fun b hb => by
      have nb : b ≠ a := fun e => (List.nodup_cons.mp hn).1 (e ▸ hb)
      exact (List.mem_erase_of_ne nb).mpr (h b (List.mem_cons_of_mem _ hb))
    have ih := nodup_len (List.nodup_cons.mp hn).2 h2
    have := List.length_erase_of_mem ha
    have := List.length_pos_of_mem ha
    simp only [List.length_cons]
    omega
abbrev abc2 : List Nat := [109, 110, 98, 118, 99, 120, 121, 108, 107, 106, 104, 103, 102, 100, 115, 97, 112, 111, 105, 117, 122, 116, 114, 101, 119, 113]
theorem free_letter {ls : List (List Nat)} (h : ls.length < 26) : ∃ c cs, abc2.filter (fun c => !decide ([c] ∈ ls)) = c :: cs := by
  cases e : abc2.filter (fun c => !decide ([c] ∈ ls)) with
  | cons c cs => exact ⟨c, cs, rfl⟩
  | nil =>
    exfalso
    have hall : ∀ a ∈ abc2.map (fun c => [c]), a ∈ ls := by
      intro a ha
      obtain ⟨c, hc, rfl⟩ := List.mem_map.mp ha
      have := List.filter_eq_nil_iff.mp e c hc
      simpa using this
    have hn : (abc2.map (fun c => [c])).Nodup := by decide
    have := nodup_len hn hall
    simp at this
    omega
section
variable {P : Program} {w : World} {K : PySem.W.Frag} {mg : Str → Option Value} {base : Heap}
/-- a list of texts that is read as it stands -/
def LstS (K : PySem.W.Frag) (I : Hp → Prop) (x : V) (ls : List (List Nat)) : Prop := ∃ p, x = .ref p ∧ ∀ H, I H → H p = some (.lst (ls.map fun l => V.str (T l)))
theorem LstS.inn {I : Hp → Prop} {x : V} {ls : List (List Nat)} {l : List Nat} {H : Hp} {Q : VK} (h : LstS K I x ls) (hI : I H) (q : Q (.bl (decide (l ∈ ls))) H) : rInU K (.str (T l)) x H Q := by
  obtain ⟨p, rfl, hp⟩ := h
  exact .inr (.inl ⟨p, _, rfl, .inl (SqL.of (hp H hI)), rfl, by simp [List.all_map, flatV], by rw [inV_T]; exact q⟩)
theorem LstS.nin {I : Hp → Prop} {x : V} {ls : List (List Nat)} {l : List Nat} {H : Hp} {Q : VK} (h : LstS K I x ls) (hI : I H) (q : Q (.bl (!decide (l ∈ ls))) H) : rNiU K (.str (T l)) x H Q := by
  obtain ⟨p, rfl, hp⟩ := h
  exact .inr (.inl ⟨p, _, rfl, .inl (SqL.of (hp H hI)), rfl, by simp [List.all_map, flatV], by rw [inV_T]; exact q⟩)
/-- a title: one to six small letters -/
def TOk (t : List Nat) : Prop := 1 ≤ t.length ∧ t.length ≤ 6 ∧ ∀ c ∈ t, 97 ≤ c ∧ c ≤ 122
instance (t : List Nat) : Decidable (TOk t) := by unfold TOk; infer_instance
theorem TOk.lt {t : List Nat} (h : TOk t) : ∀ c ∈ t, c < 128 := fun c hc => by have := h.2.2 c hc; omega
def spTitle (K : PySem.W.Frag) : Sp := fun vs H Q _ => ∃ (M : Addr → Prop) (I : Hp → Prop) (b : Addr) (x : V) (ls : List (List Nat)), Wf M I ∧ I H ∧ HasBag M I b ∧ vs = [.ref b, x] ∧ LstS K I x ls ∧ ls.length < 26 ∧ ∀ t H', TOk t → t ∉ ls → Ex M H H' → I H' → Q (.str (T t)) H'
theorem ok_title (B : Bl mg) (G1 : Df P w K mg base 1 "_law_draw" ["_law_bag_here", "_law_sides"] [] (spDraw K)) (G2 : Df P w K mg base 2 "_law_of" ["_law_bag_here", "_law_things"] [] (spOf K))
    (F : At K mg "_law_title" s__law_title ["_law_bag_here", "_law_taken"] []) : Df P w K mg base 3 "_law_title" ["_law_bag_here", "_law_taken"] [] (spTitle K) := by
  refine F.df sc__law_title (fun vs H Q E h => ?_) (fun f cdv A outer s H vs Q E hr h => ⟨_, w__law_title B G1 G2 hr, ?_⟩)
  · obtain ⟨M, I, b, x, ls, _, _, _, rfl, _⟩ := h
    rfl
  · obtain ⟨M, I, b, x, ls, hw, hI, hB, rfl, hx, hl, q⟩ := h
    unfold t__law_title
    -- behind the first half
    have rest : ∀ (t : List Nat) (s3 s4 : Option V) (H1 : Hp), TOk t → Ex M H H1 → I H1 → (tSeq (tIfS (tTest (tOp (rInU K) (tVar 2) (tVar 1))) (tAsg (tOp (rIx K) (tLc (iSrc K (tC (.str (T abc2)))) (gName 4) (tTest (tOp (rNiU K) (tVar 4) (tVar 1))) (tVar 4) [4]) (tC (.int 0))) (gName 2)) tNext)
        (tRet (tVar 2))) { nx := fun _ H' => Q .non H', rt := Q } [some (.ref b), some x, some (.str (T t)), s3, s4] H1 := by
      intro t s3 s4 H1 ht e1 i1
      walk_at "sx"
      refine hx.inn i1 ?_
      walk_at "sx"
      refine ifB (fun h => ?_) (fun h => ?_)
      · walk_at "sx"
        refine lc_srcF (as := abc2) (enc := H08.e1) (fun c => !decide ([c] ∈ ls)) H08.e1 hw i1 (K := K) (.str _) rfl (szOk (by decide)) (fun _ => rfl) ?_ ?_ ?_
        · intro L acc k a v H2 hL ha rv wf hi ex Qt qt
          cases rep_str rv
          walk_at "sx"
          exact hx.nin hi.1 (by
            refine ex_b ?_
            exact qt H2 hi (Ex.refl _))
        · intro L acc k a v H2 hL ha _ rv wf hi ex Qe qe
          cases rep_str rv
          walk_at "sx"
          exact qe _ _ (.str _) hi (Ex.refl _)
        · intro y H2 rp e2 i2
          obtain ⟨c, cs, ec⟩ := free_letter hl
          rw [ec] at rp
          walk_at "sx"
          refine ix_R (n := 0) rp (.inl rfl) rfl fun v rv => ?_
          cases rep_str rv
          walk_at "sx"
          exact q [c] H2 (by have hc : c ∈ abc2 := (List.mem_filter.mp (show c ∈ abc2.filter _ by rw [ec]; exact List.mem_cons_self)).1; have key : ∀ c ∈ abc2, TOk [c] := by decide
                             exact key c hc) (by have h5 : c ∈ abc2.filter (fun c => !decide ([c] ∈ ls)) := by rw [ec]; exact List.mem_cons_self
                                                 simpa using (List.mem_filter.mp h5).2) (e1.trans e2) i2
      · walk_at "sx"
        exact q t H1 ht (of_decide_eq_false h) e1 i1
    walk_at "sx"
    refine ⟨M, I, b, 8, hw, hI, hB, rfl, by decide, by decide, fun k H1 hk e1 i1 => ?_⟩
    walk_at "sx"
    refine ifB (fun h => ?_) (fun h => ?_)
    · walk_at "sx"
      rename_i y H2 e2 i2 r2
      refine ⟨M, I, b, y, _, _, hw, i2, hB, rfl, r2, rfl, by decide, by decide, fun v e H3 he rv e3 i3 => ?_⟩
      obtain ⟨t, rfl, ht⟩ : ∃ t, e = .str (T t) ∧ TOk t := by
        simp only [List.mem_cons, List.not_mem_nil, or_false] at he
        rcases he with rfl | rfl | rfl | rfl | rfl | rfl | rfl | rfl | rfl <;> exact ⟨_, rfl, by decide⟩
      cases rep_str rv
      refine gs_name ?_
      exact rest t none none H3 ht (by walk_at "ex") i3
    · walk_at "sx"
      refine ⟨M, I, b, 6, hw, i1, hB, rfl, by decide, by decide, fun k2 H2 hk2 e2 i2 => ?_⟩
      walk_at "sx"
      refine ⟨_, rfl, by omega, by omega, ?_⟩
      have ek : (1 + (k2 : Int)).toNat = k2 + 1 := by omega
      rw [ek]
      refine lc_rng (K := K) hw i2 (szOk (by omega)) (fun _ => rfl) (fun _ => true) (fun _ d => ∃ c, d = .str (T [c]) ∧ 97 ≤ c ∧ c ≤ 122) ?_ ?_ ?_
      · intro L acc k H3 hL nL hk wf hi ex Qt qt
        walk_at "sx"
        exact qt _ hi (Ex.refl _)
      · intro L acc k H3 hL nL hk _ wf hi ex Qe qe
        walk_at "sx"
        refine ⟨_, _, b, _, _, _, wf, hi, hB.add nL, rfl, .str _, rfl, by decide, by decide, fun v e H4 he rv e4 i4 => ?_⟩
        obtain ⟨c, hc, rfl⟩ := List.mem_map.mp he
        have hc2 : 97 ≤ c ∧ c ≤ 122 := by
          have key : ∀ c ∈ ([113, 119, 101, 114, 116, 122, 117, 105, 111, 112, 97, 115, 100, 102, 103, 104, 106, 107, 108, 121, 120, 99, 118, 98, 110, 109] : List Nat), 97 ≤ c ∧ c ≤ 122 := by decide
          exact key c hc
        exact qe v _ H4 ⟨c, rfl, hc2⟩ rv i4 e4
      · intro y ds H3 a2 rp e3 i3
        walk_at "sx"
        rw [filter_tt] at a2
        obtain ⟨cs, rfl, a3⟩ := a2.ex (g := H08.e1) (Q := fun _ c => 97 ≤ c ∧ c ≤ 122) fun a d ⟨c, e, z⟩ => ⟨c, e, z⟩
        have hcl := a3.length
        have hcs : TOk cs := by
          refine ⟨by simp at hcl; omega, by simp at hcl; omega, ?_⟩
          clear rp a2 hcl
          have key : ∀ {as cs : List Nat}, A2 (fun _ c => 97 ≤ c ∧ c ≤ 122) as cs → ∀ c ∈ cs, 97 ≤ c ∧ c ≤ 122 := by
            intro as cs h
            induction h with
            | nil => intro c hc; cases hc
            | cons x y ih =>
              intro c hc
              rcases List.mem_cons.mp hc with rfl | hc
              · exact x
              · exact ih c hc
          exact key a3
        refine join_1 id (by simpa using rp) ?_ ?_
        · have := a2.length
          simp at this
          omega
        refine gs_name ?_
        exact rest _ none none H3 (by rw [List.map_id]; exact hcs) (by walk_at "ex") i3
end


def sgs (m : Nat) : List Nat := ([46, 48, 49, 50, 51] : List Nat).take (m + 1)
theorem isRow_iff {fr : List (List Nat × Nat)} {l : List Nat} : isRow fr l = true ↔ l.length = fr.length ∧ ∀ (k c : Nat) (p : List Nat × Nat), l[k]? = some c → fr[k]? = some p → c ∈ sgs p.2 := by
  unfold isRow sgs
  rw [Bool.and_eq_true, decide_eq_true_eq, List.all_eq_true]
  constructor
  · rintro ⟨h1, h2⟩
    refine ⟨h1, fun k c p hc hp => ?_⟩
    have hz : (l.zip fr)[k]? = some (c, p) := List.getElem?_zip_eq_some.mpr ⟨hc, hp⟩
    exact of_decide_eq_true (h2 _ (List.mem_of_getElem? hz))
  · rintro ⟨h1, h2⟩
    refine ⟨h1, fun x hx => ?_⟩
    obtain ⟨k, hk⟩ := List.getElem?_of_mem hx
    obtain ⟨a, b⟩ := x
    obtain ⟨ha, hb⟩ := List.getElem?_zip_eq_some.mp hk
    exact decide_eq_true (h2 k a b ha hb)
theorem sgs_dot (m : Nat) : 46 ∈ sgs m := by simp [sgs]
theorem sgs_k {m k : Nat} (h : k < m) (hm : m ≤ 4) : 48 + k ∈ sgs m := by
  have e : ∀ m : Fin 5, ∀ k : Fin 5, k.val < m.val → 48 + k.val ∈ sgs m.val := by decide
  exact e ⟨m, by omega⟩ ⟨k, by omega⟩ h
theorem sgs_lt {m c : Nat} (h : c ∈ sgs m) : c < 128 := by
  have := List.mem_of_mem_take h
  simp at this
  omega
def setAt (l : List Nat) (k c : Nat) : List Nat := l.take k ++ [c] ++ l.drop (k + 1)
theorem setAt_set {l : List Nat} {k c : Nat} (h : k < l.length) : setAt l k c = l.set k c := by
  unfold setAt
  rw [List.set_eq_take_append_cons_drop, if_pos h]
  simp
theorem setAt_row {fr : List (List Nat × Nat)} {l : List Nat} {k c : Nat} {p : List Nat × Nat} (h : isRow fr l = true) (hp : fr[k]? = some p) (hc : c ∈ sgs p.2) : isRow fr (setAt l k c) = true := by
  obtain ⟨h1, h2⟩ := isRow_iff.mp h
  have hk := (List.getElem?_eq_some_iff.mp hp).1
  rw [setAt_set (by omega)]
  refine isRow_iff.mpr ⟨by simp [h1], fun j d q hd hq => ?_⟩
  rw [List.getElem?_set] at hd
  by_cases e : k = j
  · subst e
    rw [if_pos rfl, if_pos (by omega)] at hd
    cases hd
    rw [hp] at hq
    cases hq
    exact hc
  · rw [if_neg e] at hd
    exact h2 j d q hd hq
/-- a frame: between 1 and 4 values a cell -/
def FrOk (fr : List (List Nat × Nat)) : Prop := ∀ p ∈ fr, 1 ≤ p.2 ∧ p.2 ≤ 4 ∧ TOk p.1
section
variable {P : Program} {w : World} {K : PySem.W.Frag} {mg : Str → Option Value} {base : Heap}
theorem atI_last {xs : List V} {y : V} : atI (xs ++ [y]) (-1) = some y := by
  unfold atI ixN
  rw [if_neg (by decide), if_pos (by simp; omega)]
  have e : ((-1 : Int) + ((xs ++ [y]).length : Nat)).toNat = xs.length := by simp; omega
  show (xs ++ [y])[((-1 : Int) + ((xs ++ [y]).length : Nat)).toNat]? = some y
  rw [e]
  simp
def spFrame (K : PySem.W.Frag) : Sp := fun vs H Q _ => ∃ (M : Addr → Prop) (I : Hp → Prop) (b : Addr) (n m : Nat), Wf M I ∧ I H ∧ HasBag M I b ∧ vs = [.ref b, .int n, .int m] ∧ n ≤ 20 ∧ 1 ≤ m ∧ m ≤ 4 ∧ ∀ y fr H', fr.length = n → FrOk fr → (fr.map (·.1)).Nodup → Rep K M H' y (.lst (fr.map eC)) → Ex M H H' → I H' → Q y H'
theorem ok_frame (B : Bl mg) (G1 : Df P w K mg base 1 "_law_draw" ["_law_bag_here", "_law_sides"] [] (spDraw K)) (G2 : Df P w K mg base 3 "_law_title" ["_law_bag_here", "_law_taken"] [] (spTitle K))
    (F : At K mg "_law_frame" s__law_frame ["_law_bag_here", "_law_size_here", "_law_widest"] []) : Df P w K mg base 4 "_law_frame" ["_law_bag_here", "_law_size_here", "_law_widest"] [] (spFrame K) := by
  refine F.df sc__law_frame (fun vs H Q E h => ?_) (fun f cdv A outer s H vs Q E hr h => ⟨_, w__law_frame B G1 G2 hr, ?_⟩)
  · obtain ⟨M, I, b, n, m, _, _, _, rfl, _⟩ := h
    rfl
  · obtain ⟨M, I, b, n, m, hw, hI, hB, rfl, hn, hm1, hm2, q⟩ := h
    unfold t__law_frame
    walk_at "sx"
    refine lst_mut hw hI (by decide) fun p H1 hp np e1 w1 i1 => ?_
    walk_at "sx"
    refine lst_mut w1 i1 (by decide) fun p2 H2 hp2 np2 e2 w2 i2 => ?_
    walk_at "sx"
    refine ⟨_, rfl, by omega, by omega, ?_⟩
    rw [Int.toNat_natCast]
    have npp : p2 ≠ p := fun e => np2 (e ▸ .inr rfl)
    refine for_rng (fun k σ H3 => ∃ fs ts fr v, σ = [some (.ref b), some (.int (n : Nat)), some (.int (m : Nat)), some (.ref p), some (.ref p2), v] ∧ fr.length = k ∧ ts.length = k ∧ FrOk fr ∧ (ts = fr.map (·.1) ∧ ts.Nodup) ∧
        Wf (Mq (Mq M p) p2) (Iq (Iq I p (.lst fs)) p2 (.lst (ts.map fun l => V.str (T l)))) ∧ Iq (Iq I p (.lst fs)) p2 (.lst (ts.map fun l => V.str (T l))) H3 ∧ Ex (Mq (Mq M p) p2) H2 H3 ∧ Reps K (Mq (Mq M p) p2) H3 fs (fr.map eC))
      ⟨[], [], [], _, rfl, rfl, rfl, (fun _ h => nomatch h), ⟨rfl, by simp⟩, w2, i2, Ex.refl _, .nil⟩ ?_ ?_
    · rintro k σ H3 hk ⟨fs, ts, fr, v, rfl, hf, ht, ok, ⟨htf, hnd⟩, w3, i3, e3, rs⟩
      walk_at "sx"
      refine ⟨tyv_l i3.2, ?_⟩
      walk_at "sx"
      have hB3 := (hB.add (o := .lst fs) np).add (o := .lst (ts.map fun l => V.str (T l))) np2
      refine ⟨_, _, b, _, ts, w3, i3, hB3, rfl, ⟨p2, rfl, fun H h => h.2⟩, by omega, fun t H4 ht4 hn4 e4 i4 => ?_⟩
      walk_at "sx"
      refine app_mut (hw.add p _) np2 i4 (by simp; omega) fun H5 e5 w5 i5 => ?_
      have et : ts.map (fun l => V.str (T l)) ++ [V.str (T t)] = (ts ++ [t]).map fun l => V.str (T l) := by simp
      rw [et] at w5 i5
      walk_at "sx"
      refine ⟨tyv_l i5.1.2, ?_⟩
      walk_at "sx"
      refine ix_raw (v := .str (T t)) i5.2 (by rw [← et]; exact atI_last) ?_
      walk_at "sx"
      have hB5 := (hB.add (o := .lst fs) np).add (o := .lst ((ts ++ [t]).map fun l => V.str (T l))) np2
      refine ⟨_, _, b, _, w5, i5, hB5, rfl, by omega, by omega, fun d H6 hd e6 i6 => ?_⟩
      have ed : (1 : Int) + (d : Nat) = ((d + 1 : Nat) : Int) := by omega
      walk_at "sx"
      rename_i v7 H7 e7 i7 r7
      rw [ed] at r7
      -- frame.append: the list at p
      have ix := i7.1
      have fl : fs.length ≤ 20 := by have := rs.length; simp at this; omega
      refine ⟨p, fs, v7, rfl, rfl, i7.1.2, Nat.lt_of_le_of_lt fl (by decide), ?_⟩
      have i8 : Iq (Iq I p (.lst (fs ++ [v7]))) p2 (.lst ((ts ++ [t]).map fun l => V.str (T l))) (upd H7 p (.lst (fs ++ [v7]))) := by
        obtain ⟨u1, u2⟩ := hw.put (o' := .lst (fs ++ [v7])) np i7.1
        exact ⟨u1, by rw [upd_ne npp]; exact i7.2⟩
      have e8 : Ex (Mq (Mq M p) p2) H7 (upd H7 p (.lst (fs ++ [v7]))) := fun a o n h => by
        rw [upd_ne fun z => n (.inl (.inr z))]; exact h
      generalize upd H7 p (.lst (fs ++ [v7])) = H8 at i8 e8
      refine ⟨fs ++ [v7], ts ++ [t], fr ++ [(t, d + 1)], _, rfl, by simp [hf], by simp [ht], fun x hx => ?_, ⟨by rw [List.map_append, ← htf]; rfl, List.nodup_append.mpr ⟨hnd, by simp, fun a ha b hb => by rw [List.mem_singleton.mp hb]; exact fun e => hn4 (e ▸ ha)⟩⟩, (hw.add p _).add p2 _, i8, ((((e3.trans e4).trans e5).trans e6).trans e7).trans e8, ?_⟩
      · rcases List.mem_append.mp hx with z | z
        · exact ok x z
        · rw [List.mem_singleton.mp z]; exact ⟨by show 1 ≤ d + 1; omega, by show d + 1 ≤ 4; omega, ht4⟩
      · rw [List.map_append]
        exact (((((rs.ex e4).ex e5).ex e6).ex e7).append (.cons r7 .nil)).ex e8
    · rintro σ H3 ⟨fs, ts, fr, v, rfl, hf, ht, ok, ⟨htf, hnd⟩, w3, i3, e3, rs⟩
      walk_at "sx"
      refine q _ fr H3 hf ok (by rw [← htf]; exact hnd) (.lst i3.1.2 np (rs.le fun _ m => .inl (.inl m))) ?_ i3.1.1
      exact (e1.trans ((e2.trans e3).shut hp2)).shut hp
def spRow (K : PySem.W.Frag) : Sp := fun vs H Q _ => ∃ (M : Addr → Prop) (I : Hp → Prop) (b : Addr) (x : V) (fr : List (List Nat × Nat)) (m : Int), Wf M I ∧ I H ∧ HasBag M I b ∧ vs = [.ref b, x, .int m] ∧ Rep K M H x (.lst (fr.map eC)) ∧ FrOk fr ∧ fr.length ≤ 100 ∧ ∀ l H', isRow fr l = true → Ex M H H' → I H' → Q (.str (T l)) H'
theorem ok_row (B : Bl mg) (G : Df P w K mg base 1 "_law_draw" ["_law_bag_here", "_law_sides"] [] (spDraw K)) (F : At K mg "_law_row" s__law_row ["_law_bag_here", "_law_frame_here", "_law_thin"] [.int 2]) : Df P w K mg base 2 "_law_row" ["_law_bag_here", "_law_frame_here", "_law_thin"] [.int 2] (spRow K) := by
  refine F.df sc__law_row (fun vs H Q E h => ?_) (fun f cdv A outer s H vs Q E hr h => ⟨_, w__law_row B G hr, ?_⟩)
  · obtain ⟨M, I, b, x, fr, m, _, _, _, rfl, _⟩ := h
    rfl
  · obtain ⟨M, I, b, x, fr, m, hw, hI, hB, rfl, hx, hfr, hl, q⟩ := h
    unfold t__law_row
    walk_at "sx"
    refine lc_src (as := fr) (enc := eC) hw hI hx rfl (szOk (by omega)) (fun _ => rfl) (fun _ => true) (fun p d => ∃ c, d = .str (T [c]) ∧ c ∈ sgs p.2) ?_ ?_ ?_
    · intro L acc k a v H3 hL nL ha rv wf hi ex Qt qt
      walk_at "sx"
      exact qt _ hi (Ex.refl _)
    · intro L acc k a v H3 hL nL ha _ rv wf hi ex Qe qe
      have oka := hfr a (List.mem_of_getElem? ha)
      walk_at "sx"
      refine ⟨_, _, b, _, wf, hi, hB.add nL, rfl, by decide, by decide, fun k2 H4 hk2 e4 i4 => ?_⟩
      walk_at "sx"
      refine ifB (fun h => ?_) (fun h => ?_)
      · walk_at "sx"
        exact qe _ _ H4 ⟨46, rfl, sgs_dot _⟩ (.str _) i4 e4
      · walk_at "sx"
        refine ix_R (n := 1) (rv.ex e4) (.inr rfl) rfl fun v5 r5 => ?_
        cases rep_int r5
        walk_at "sx"
        refine ⟨_, _, b, _, wf, i4, hB.add nL, rfl, by omega, by omega, fun k3 H5 hk3 e5 i5 => ?_⟩
        walk_at "sx"
        refine str_k (by omega) ?_
        exact qe _ _ H5 ⟨48 + k3, rfl, sgs_k (by omega) oka.2.1⟩ (.str _) i5 (e4.trans e5)
    · intro y ds H3 a2 rp e3 i3
      walk_at "sx"
      rw [filter_tt] at a2
      obtain ⟨cs, rfl, a3⟩ := a2.ex (g := H08.e1) (Q := fun p c => c ∈ sgs p.2) fun a d ⟨c, e, z⟩ => ⟨c, e, z⟩
      have hcl := a3.length
      refine join_1 id (by simpa using rp) (by omega) ?_
      rw [List.map_id]
      refine q cs H3 (isRow_iff.mpr ⟨hcl, fun k c p hc hp => ?_⟩) e3 i3
      clear rp a2 q
      have : ∀ {as : List (List Nat × Nat)} {bs : List Nat} {k c : Nat} {p : List Nat × Nat}, A2 (fun p c => c ∈ sgs p.2) as bs → bs[k]? = some c → as[k]? = some p → c ∈ sgs p.2 := by
        intro as bs k c p h
        induction h generalizing k with
        | nil => intro h; simp at h
        | cons x y ih =>
          cases k with
          | zero => intro h1 h2; simp at h1 h2; rw [← h1, ← h2]; exact x
          | succ k => intro h1 h2; exact ih (by simpa using h1) (by simpa using h2)
      exact this a3 hc hp
end


/-! ### the law's own plain functions -/
def dedup : List (List Nat) → List (List Nat) → List (List Nat)
  | acc, [] => acc
  | acc, a :: l => dedup (if a ∈ acc then acc else acc ++ [a]) l
theorem dedup_mem {a : List Nat} : ∀ {l acc : List (List Nat)}, a ∈ dedup acc l ↔ a ∈ acc ∨ a ∈ l
  | [], acc => by simp [dedup]
  | b :: l, acc => by
    unfold dedup
    rw [dedup_mem (l := l)]
    by_cases h : b ∈ acc
    · rw [if_pos h]
      constructor
      · rintro (z | z)
        · exact .inl z
        · exact .inr (List.mem_cons_of_mem _ z)
      · rintro (z | z)
        · exact .inl z
        · rcases List.mem_cons.mp z with rfl | z
          · exact .inl h
          · exact .inr z
    · rw [if_neg h]
      simp only [List.mem_append, List.mem_cons, List.not_mem_nil, or_false]
      constructor
      · rintro ((z | z) | z)
        · exact .inl z
        · exact .inr (.inl z)
        · exact .inr (.inr z)
      · rintro (z | z | z)
        · exact .inl (.inl z)
        · exact .inl (.inr z)
        · exact .inr z
theorem dedup_snoc {a : List Nat} : ∀ {l acc : List (List Nat)}, dedup acc (l ++ [a]) = if a ∈ dedup acc l then dedup acc l else dedup acc l ++ [a]
  | [], acc => rfl
  | b :: l, acc => by
    simp only [List.cons_append]
    unfold dedup
    exact dedup_snoc
theorem dedup_len : ∀ {l acc : List (List Nat)}, (dedup acc l).length ≤ acc.length + l.length
  | [], acc => by simp [dedup]
  | b :: l, acc => by
    unfold dedup
    refine Nat.le_trans dedup_len ?_
    split <;> simp <;> omega
def fresh (s t : List Nat) : List Nat := (List.range s.length).filter fun k => !decide (s[k]? = some 46) && decide (t[k]? = some 46)
def fits (s r t : List Nat) : Bool := !(fresh s t).isEmpty && ((fresh s t).filter fun k => !decide (r[k]? = s[k]?)).isEmpty
def ready (S : List (List Nat)) (r t : List Nat) : List (List Nat) := S.filter fun s => fits s r t
def lfStep (S : List (List Nat)) (r t : List Nat) : List Nat := match (ready S r t).getLast? with
  | none => t
  | some s => uni t (lot s)
def lfN (S : List (List Nat)) (r : List Nat) : Nat → List Nat
  | 0 => List.replicate r.length 46
  | n + 1 => lfStep S r (lfN S r n)
theorem lfStep_len {S : List (List Nat)} {r t : List Nat} (hS : ∀ s ∈ S, s.length = r.length) (h : t.length = r.length) : (lfStep S r t).length = r.length := by
  unfold lfStep
  split
  · exact h
  · rename_i s hs
    have := hS s (List.mem_filter.mp (List.mem_of_getLast? hs)).1
    rw [uni_len (by rw [lot_len]; omega)]
    exact h
theorem lfN_len {S : List (List Nat)} {r : List Nat} (hS : ∀ s ∈ S, s.length = r.length) : ∀ n, (lfN S r n).length = r.length
  | 0 => by simp [lfN]
  | n + 1 => lfStep_len hS (lfN_len hS n)
def takeP : D → Bool
  | .tup [.str z, _] => decide (z = T kTake)
  | _ => false
def takeF : D → D
  | .tup [_, e] => e
  | _ => .non
def IsLn (d : D) : Prop := ∃ k es, d = .tup (eS k :: es) ∧ es.length ≤ 5
section
variable {P : Program} {w : World} {K : PySem.W.Frag} {mg : Str → Option Value} {base : Heap}
/-- a list that is handed back new -/
def spOnce (K : PySem.W.Frag) : Sp := fun vs H Q _ => ∃ (M : Addr → Prop) (I : Hp → Prop) (x : V) (ls : List (List Nat)), Wf M I ∧ I H ∧ vs = [x] ∧ Rep K M H x (.lst (ls.map eS)) ∧ ls.length ≤ 1000 ∧ ∀ p H', H p = none → ¬ M p → H' p = some (.lst ((dedup [] ls).map fun l => V.str (T l))) → Ex M H H' → I H' → Q (.ref p) H'
theorem ok_once (B : Bl mg) (F : At K mg "_law_once" s__law_once ["_law_things"] []) : Df P w K mg base 1 "_law_once" ["_law_things"] [] (spOnce K) := by
  refine F.df sc__law_once (fun vs H Q E h => ?_) (fun f cdv A outer s H vs Q E hr h => ⟨_, w__law_once B hr, ?_⟩)
  · obtain ⟨M, I, x, ls, _, _, rfl, _⟩ := h
    rfl
  · obtain ⟨M, I, x, ls, hw, hI, rfl, hx, hl, q⟩ := h
    unfold t__law_once
    walk_at "sx"
    refine lst_mut hw hI (by decide) fun p H1 hp np e1 w1 i1 => ?_
    walk_at "sx"
    refine for_src (as := ls) (enc := eS) ((hx.off hp).ex e1) rfl (fun k σ H2 => ∃ v, σ = [some x, some (.ref p), v] ∧ Ex (Mq M p) H1 H2 ∧ Iq I p (.lst ((dedup [] (ls.take k)).map fun l => V.str (T l))) H2)
      ⟨_, rfl, Ex.refl _, i1⟩ (fun k σ H h => by obtain ⟨_, _, h, _⟩ := h; exact h) ?_ ?_
    · rintro k a v σ H2 ha ⟨v0, rfl, e2, i2⟩ rv
      cases rep_str rv
      have es : dedup [] (ls.take (k + 1)) = if a ∈ dedup [] (ls.take k) then dedup [] (ls.take k) else dedup [] (ls.take k) ++ [a] := by rw [take_snoc ha, dedup_snoc]
      walk_at "sx"
      refine LstS.nin (K := K) (I := Iq I p (.lst ((dedup [] (ls.take k)).map fun l => V.str (T l)))) ⟨p, rfl, fun H h => h.2⟩ i2 ?_
      walk_at "sx"
      refine ifB (fun h => ?_) (fun h => ?_)
      · have h2 : ¬ a ∈ dedup [] (ls.take k) := by simpa using h
        walk_at "sx"
        refine ⟨tyv_l i2.2, ?_⟩
        walk_at "sx"
        have dl : (dedup [] (ls.take k)).length ≤ 1000 := by
          refine Nat.le_trans dedup_len ?_
          simp; omega
        refine app_mut hw np i2 (by simp; omega) fun H3 e3 w3 i3 => ?_
        refine ⟨_, rfl, e2.trans e3, ?_⟩
        rw [es, if_neg h2, List.map_append]
        exact i3
      · have h2 : a ∈ dedup [] (ls.take k) := by simpa using h
        walk_at "sx"
        refine ⟨_, rfl, e2, ?_⟩
        rw [es, if_pos h2]
        exact i2
    · rintro σ H2 ⟨v0, rfl, e2, i2⟩
      walk_at "sx"
      rw [List.take_length] at i2
      exact q p H2 hp np i2.2 ((e1.trans e2).shut hp) i2.1
def spSize (K : PySem.W.Frag) : Sp := fun vs H Q _ => ∃ (M : Addr → Prop) (I : Hp → Prop) (b : Addr), Wf M I ∧ I H ∧ HasBag M I b ∧ vs = [.ref b] ∧ ∀ (n : Nat) H', 1 ≤ n → n ≤ 6 → Ex M H H' → I H' → Q (.int n) H'
theorem ok_size (B : Bl mg) (G : Df P w K mg base 2 "_law_of" ["_law_bag_here", "_law_things"] [] (spOf K)) (F : At K mg "_law_size" s__law_size ["_law_bag_here"] []) : Df P w K mg base 3 "_law_size" ["_law_bag_here"] [] (spSize K) := by
  refine F.df sc__law_size (fun vs H Q E h => ?_) (fun f cdv A outer s H vs Q E hr h => ⟨_, w__law_size B G hr, ?_⟩)
  · obtain ⟨M, I, b, _, _, _, rfl, _⟩ := h
    rfl
  · obtain ⟨M, I, b, hw, hI, hB, rfl, q⟩ := h
    unfold t__law_size
    walk_at "sx"
    rename_i y H2 e2 i2 r2
    refine ⟨M, I, b, y, _, _, hw, i2, hB, rfl, r2, rfl, by decide, by decide, fun v e H3 he rv e3 i3 => ?_⟩
    simp only [List.mem_cons, List.not_mem_nil, or_false] at he
    rcases he with rfl | rfl | rfl | rfl | rfl | rfl | rfl | rfl | rfl | rfl <;> cases rep_int rv
    · exact q 2 H3 (by decide) (by decide) (e2.trans e3) i3
    · exact q 3 H3 (by decide) (by decide) (e2.trans e3) i3
    · exact q 3 H3 (by decide) (by decide) (e2.trans e3) i3
    · exact q 4 H3 (by decide) (by decide) (e2.trans e3) i3
    · exact q 4 H3 (by decide) (by decide) (e2.trans e3) i3
    · exact q 5 H3 (by decide) (by decide) (e2.trans e3) i3
    · exact q 3 H3 (by decide) (by decide) (e2.trans e3) i3
    · exact q 1 H3 (by decide) (by decide) (e2.trans e3) i3
    · exact q 2 H3 (by decide) (by decide) (e2.trans e3) i3
    · exact q 6 H3 (by decide) (by decide) (e2.trans e3) i3
theorem ok_lot (B : Bl mg) (F : At K mg "_law_lot" s__law_lot ["_law_r"] []) : Df P w K mg base 1 "_law_lot" ["_law_r"] [] (spLot K) := by
  refine F.df sc__law_lot (fun vs H Q E h => ?_) (fun f cdv A outer s H vs Q E hr h => ⟨_, w__law_lot B hr, ?_⟩)
  · obtain ⟨M, I, l, _, _, rfl, _⟩ := h
    rfl
  · obtain ⟨M, I, l, hw, hI, rfl, hl, q⟩ := h
    unfold t__law_lot
    walk_at "sx"
    refine lc_srcM (as := l) (enc := H08.e1) (fun c => .str (T [if c = 46 then 46 else 43])) hw hI (by walk_at "rep") rfl (by walk_at "sz") (fun _ => rfl) ?_ ?_
    · intro L acc k a v H hL ha rv wf hi ex Qe q
      cases rep_str rv
      walk_at "sx"
      refine ifB (fun h => ?_) (fun h => ?_) <;> walk_at "sx"
      · exact q _ _ (by simp at h; simp [h]; exact .str _) hi (Ex.refl _)
      · exact q _ _ (by simp at h; simp [h]; exact .str _) hi (Ex.refl _)
    · intro y H' rp ex hi
      walk_at "sx"
      exact join_1 _ rp (by omega) (q _ ex hi)
theorem ok_join (B : Bl mg) (F : At K mg "_law_join" s__law_join ["_law_x", "_law_y"] []) : Df P w K mg base 1 "_law_join" ["_law_x", "_law_y"] [] (spUni K) := by
  refine F.df sc__law_join (fun vs H Q E h => ?_) (fun f cdv A outer s H vs Q E hr h => ⟨_, w__law_join B hr, ?_⟩)
  · obtain ⟨M, I, l, m, _, _, rfl, _⟩ := h
    rfl
  · obtain ⟨M, I, l, m, hw, hI, rfl, hl, q⟩ := h
    unfold t__law_join
    walk_at "sx"
    refine lc_zipM (as := l) (bs := m) (enc := H08.e1) (enc2 := H08.e1) (fun p => .str (T [if 43 = p.1 ∨ 43 = p.2 then 43 else 46])) hw hI (.str _) rfl (.str _) rfl (by walk_at "sz") (fun _ _ => rfl) ?_ ?_
    · intro L acc k a b v u H hL ha hb rv rw wf hi ex Qe q
      cases rep_str rv
      cases rep_str rw
      walk_at "sx"
      refine ifB (fun h => ?_) (fun h => ?_) <;> walk_at "sx"
      · exact q _ _ (by simp at h; simp [h]; exact .str _) hi (Ex.refl _)
      · exact q _ _ (by simp at h; simp [h]; exact .str _) hi (Ex.refl _)
    · intro y H' rp ex hi
      walk_at "sx"
      exact join_1 _ rp (by simp; omega) (q _ ex hi)
def spLay (K : PySem.W.Frag) : Sp := fun vs H Q _ => ∃ M I l m, Wf M I ∧ I H ∧ vs = [.str (T l), .str (T m)] ∧ l.length ≤ 1000 ∧ ∀ H', Ex M H H' → I H' → Q (.str (T (lay l m))) H'
theorem ok_lay (B : Bl mg) (F : At K mg "_law_lay" s__law_lay ["_law_newer_row", "_law_older_row"] []) : Df P w K mg base 1 "_law_lay" ["_law_newer_row", "_law_older_row"] [] (spLay K) := by
  refine F.df sc__law_lay (fun vs H Q E h => ?_) (fun f cdv A outer s H vs Q E hr h => ⟨_, w__law_lay B hr, ?_⟩)
  · obtain ⟨M, I, l, m, _, _, rfl, _⟩ := h
    rfl
  · obtain ⟨M, I, l, m, hw, hI, rfl, hl, q⟩ := h
    unfold t__law_lay
    walk_at "sx"
    refine lc_zipM (as := l) (bs := m) (enc := H08.e1) (enc2 := H08.e1) (fun p => .str (T [if p.1 = 46 then p.2 else p.1])) hw hI (.str _) rfl (.str _) rfl (by walk_at "sz") (fun _ _ => rfl) ?_ ?_
    · intro L acc k a b v u H hL ha hb rv rw wf hi ex Qe q
      cases rep_str rv
      cases rep_str rw
      walk_at "sx"
      refine ifB (fun h => ?_) (fun h => ?_) <;> walk_at "sx"
      · exact q _ _ (by simp at h; simp [h]; exact .str _) hi (Ex.refl _)
      · exact q _ _ (by simp at h; simp [h]; exact .str _) hi (Ex.refl _)
    · intro y H' rp ex hi
      walk_at "sx"
      exact join_1 _ rp (by simp; omega) (q _ ex hi)
theorem rep46 (n : Nat) : (List.replicate n [46]).flatten = List.replicate n 46 := by
  induction n with
  | zero => rfl
  | succ n ih => simp [List.replicate_succ]
def spBlankF (K : PySem.W.Frag) : Sp := fun vs H Q _ => ∃ M x ds, vs = [x] ∧ Rep K M H x (.lst ds) ∧ ds.length ≤ 1000 ∧ Q (.str (T (List.replicate ds.length 46))) H
def spFresh (K : PySem.W.Frag) : Sp := fun vs H Q _ => ∃ M I s t, Wf M I ∧ I H ∧ vs = [.str (T s), .str (T t)] ∧ s.length ≤ 1000 ∧ t.length = s.length ∧ ∀ y H', Ex M H H' → I H' → Rep K M H' y (.lst ((fresh s t).map eI)) → Q y H'
theorem ok_fresh (B : Bl mg) (F : At K mg "_law_fresh" s__law_fresh ["_law_s", "_law_told"] []) : Df P w K mg base 1 "_law_fresh" ["_law_s", "_law_told"] [] (spFresh K) := by
  refine F.df sc__law_fresh (fun vs H Q E h => ?_) (fun f cdv A outer s H vs Q E hr h => ⟨_, w__law_fresh B hr, ?_⟩)
  · obtain ⟨M, I, l, m, _, _, rfl, _⟩ := h
    rfl
  · obtain ⟨M, I, l, m, hw, hI, rfl, hl, hm, q⟩ := h
    unfold t__law_fresh
    walk_at "sx"
    refine ⟨_, rfl, by omega, by omega, ?_⟩
    rw [Int.toNat_natCast]
    refine lc_rngF (K := K) (fun k => !decide (l[k]? = some 46) && decide (m[k]? = some 46)) eI hw hI (szOk (by omega)) (fun _ => rfl) ?_ ?_ ?_
    · intro L acc k H hL hk wf hi ex Qt q
      have hk2 : k < m.length := by omega
      rw [Int.zero_add]
      walk_at "sx"
      refine ix_T (z := l[k]) (by walk_at "sz") (by simp [hk]) ?_
      walk_at "sx"
      have e1 : (!decide (l[k]? = some 46) && decide (m[k]? = some 46)) = (!decide (l[k] = 46) && decide (m[k] = 46)) := by simp [hk, hk2]
      refine ifB (fun h => ?_) (fun h => ?_)
      · walk_at "sx"
        refine ix_T (z := m[k]) (by walk_at "sz") (by simp [hk2]) ?_
        walk_at "sx"
        have := q H hi (Ex.refl _)
        rw [e1] at this
        (try rw [dec1] at h)
        rw [h, Bool.true_and] at this
        (try rw [dec1])
        exact this
      · have := q H hi (Ex.refl _)
        rw [e1] at this
        (try rw [dec1] at h)
        rw [h, Bool.false_and] at this
        exact this
    · intro L acc k H hL hk hp wf hi ex Qe q
      rw [Int.zero_add]
      walk_at "sx"
      exact q _ _ (.int _) hi (Ex.refl _)
    · intro y H' rp ex hi
      exact q y H' ex hi rp
theorem fresh_len (s t : List Nat) : (fresh s t).length ≤ s.length := by
  unfold fresh
  refine Nat.le_trans (List.length_filter_le _ _) (by simp)
theorem fresh_lt {s t : List Nat} {k : Nat} (h : k ∈ fresh s t) : k < s.length := by simpa using (List.mem_filter.mp h).1
def spFits (K : PySem.W.Frag) : Sp := fun vs H Q _ => ∃ M I s r t, Wf M I ∧ I H ∧ vs = [.str (T s), .str (T r), .str (T t)] ∧ s.length ≤ 1000 ∧ t.length = s.length ∧ r.length = s.length ∧ ∀ H', Ex M H H' → I H' → Q (.bl (fits s r t)) H'
theorem ok_fits (B : Bl mg) (G : Df P w K mg base 1 "_law_fresh" ["_law_s", "_law_told"] [] (spFresh K)) (F : At K mg "_law_fits" s__law_fits ["_law_s", "_law_r", "_law_told"] []) : Df P w K mg base 2 "_law_fits" ["_law_s", "_law_r", "_law_told"] [] (spFits K) := by
  refine F.df sc__law_fits (fun vs H Q E h => ?_) (fun f cdv A outer s H vs Q E hr h => ⟨_, w__law_fits B G hr, ?_⟩)
  · obtain ⟨M, I, s, r, t, _, _, rfl, _⟩ := h
    rfl
  · obtain ⟨M, I, s, r, t, hw, hI, rfl, hs, ht, hr, q⟩ := h
    unfold t__law_fits
    walk_at "sx"
    refine ⟨M, I, s, t, hw, hI, rfl, hs, ht, fun y H1 e1 i1 r1 => ?_⟩
    walk_at "sx"
    refine lst_end (K := K) hw i1 .nil (by decide) fun y2 H2 e2 i2 r2 => ?_
    refine ne_L0 (r1.ex e2) r2 (flat_I _) ?_
    walk_at "sx"
    have e0 : ((fresh s t).map eI).isEmpty = (fresh s t).isEmpty := by cases fresh s t <;> rfl
    rw [e0]
    refine ifB (fun h => ?_) (fun h => ?_)
    · walk_at "sx"
      refine lc_srcF (as := fresh s t) (enc := eI) (fun k => !decide (r[k]? = s[k]?)) eI hw i2 (r1.ex e2) rfl (szOk (by have := fresh_len s t; omega)) (fun _ => rfl) ?_ ?_ ?_
      · intro L acc k a v H3 hL ha rv wf hi ex Qt qt
        cases rep_int rv
        have hk : a < s.length := fresh_lt (List.mem_of_getElem? ha)
        have hk2 : a < r.length := by omega
        walk_at "sx"
        refine ix_T (z := r[a]) (by walk_at "sz") (by simp [hk2]) ?_
        walk_at "sx"
        refine ix_T (z := s[a]) (by walk_at "sz") (by simp [hk]) ?_
        walk_at "sx"
        first
          | rw [dec1, at_eq hk2 hk]
          | rw [at_eq hk2 hk]
        exact qt _ hi (Ex.refl _)
      · intro L acc k a v H3 hL ha _ rv wf hi ex Qe qe
        cases rep_int rv
        walk_at "sx"
        exact qe _ _ (.int _) hi (Ex.refl _)
      · intro y3 H3 r3 e3 i3
        walk_at "sx"
        refine lst_end (K := K) hw i3 .nil (by decide) fun y4 H4 e4 i4 r4 => ?_
        refine eq_L0 (r3.ex e4) r4 (flat_I _) ?_
        have ef : (((fresh s t).filter fun k => !decide (r[k]? = s[k]?)).map eI).isEmpty = fits s r t := by
          unfold fits
          rw [h, Bool.true_and]
          cases (fresh s t).filter fun k => !decide (r[k]? = s[k]?) <;> rfl
        rw [ef]
        exact q H4 (by walk_at "ex") i4
    · have ef : fits s r t = false := by unfold fits; rw [h]; rfl
      rw [ef] at q
      exact q H2 (by walk_at "ex") i2
end


/-! ### stacks that tell every cell -/
abbrev Mk0 (s : List Nat) (k : Nat) : Prop := ∃ c, s[k]? = some c ∧ c ≠ 46
def Rw (fr : List (List Nat × Nat)) (s : List Nat) : Prop := isRow fr s = true ∧ ∃ k, Mk0 s k
/-- what a band may be made of -/
structure GoodS (fr : List (List Nat × Nat)) (S : List (List Nat)) : Prop where
  rw : ∀ s ∈ S, Rw fr s
  nd : S.Nodup
  all : ∀ k, k < fr.length → ∃ s ∈ S, Mk0 s k
theorem not_blank {l : List Nat} (h : ¬ lot l = List.replicate l.length 46) : ∃ k, Mk0 l k := by
  apply Classical.byContradiction
  intro hn
  apply h
  refine List.ext_getElem (by rw [lot_len]; simp) fun k h1 h2 => ?_
  rw [List.getElem_replicate]
  have hk : k < l.length := by simpa using h2
  have : l[k] = 46 := by
    apply Classical.byContradiction
    intro hc
    exact hn ⟨k, l[k], by simp [hk], hc⟩
  simp [lot, this]
theorem mk_set {l : List Nat} {k c : Nat} (h : k < l.length) (hc : c ≠ 46) : Mk0 (setAt l k c) k := by
  rw [setAt_set h]
  exact ⟨c, by simp [h], hc⟩
theorem mk_set2 {l : List Nat} {k j c : Nat} (h : k < l.length) (hj : j ≠ k) (hm : Mk0 l j) : Mk0 (setAt l k c) j := by
  rw [setAt_set h]
  obtain ⟨d, h1, h2⟩ := hm
  exact ⟨d, by rw [List.getElem?_set_ne (Ne.symm hj)]; exact h1, h2⟩
theorem dedup_nd : ∀ {l acc : List (List Nat)}, acc.Nodup → (dedup acc l).Nodup
  | [], acc, h => by unfold dedup; exact h
  | a :: l, acc, h => by
    unfold dedup
    split
    · exact dedup_nd h
    · rename_i hm
      exact dedup_nd (List.nodup_append.mpr ⟨h, by simp, fun x hx y hy => by rw [List.mem_singleton.mp hy]; exact fun e => hm (e ▸ hx)⟩)
/-! ### the stack of seeds -/
section
variable {P : Program} {w : World} {K : PySem.W.Frag} {mg : Str → Option Value} {base : Heap}
/-- row[:k] + str(a value drawn for cell k) + row[k + 1:] -/
theorem put_te {M : Addr → Prop} {I : Hp → Prop} {H : Hp} {σ : L2.St} {a c k : Nat} {b : Addr} {x : V} {fr : List (List Nat × Nat)} {l : List Nat} {p : List Nat × Nat} {Q : VK} (hw : Wf M I) (hI : I H) (hB : HasBag M I b) (hx : Rep K M H x (.lst (fr.map eC))) (hfr : FrOk fr) (hl : l.length ≤ 1000)
    (h0 : σ[0]? = some (some (.ref b))) (h1 : σ[1]? = some (some x)) (ha : σ[a]? = some (some (.str (T l)))) (hc : σ[c]? = some (some (.int (k : Nat)))) (hp : fr[k]? = some p)
    (q : ∀ d H', d < p.2 → Ex M H H' → I H' → Q (.str (T (setAt l k (48 + d)))) H') :
    tOp (rAddU K) (tOp (rAddU K) (tSl (rSlU K) (tVar a) tNoPart (tPart (tVar c))) (tCB (rStr1) (tCons (tCall (spDraw K) (([] : List V).drop 0) E0 (tCons (tVar 0) (tCons (tOp (rIx K) (tOp (rIx K) (tVar 1) (tVar c)) (tC (.int 1))) tNil))) tNil))) (tSl (rSlU K) (tVar a) (tPart (tOp (rAddU K) (tVar c) (tC (.int 1)))) tNoPart) σ H Q := by
  have okp := hfr p (List.mem_of_getElem? hp)
  refine sx_op (sx_op (sx_sl (sx_var ha (sx_nopart (sx_part (sx_var hc ⟨_, rfl, ?_⟩))))))
  refine sl_Tto (by walk_at "sz") ?_
  refine sx_cb (sx_cons (sx_call (sx_cons (sx_var h0 (sx_cons (sx_op (sx_op (sx_var h1 (sx_var hc ?_)))))))))
  refine ix_R (n := k) (e := eC p) hx (.inl rfl) (by simp [hp]) fun v1 r1 => ?_
  refine sx_c ?_
  refine ix_R (n := 1) r1 (.inr rfl) rfl fun v2 r2 => ?_
  cases rep_int r2
  refine sx_nil ?_
  refine ⟨M, I, b, _, hw, hI, hB, rfl, by omega, by omega, fun d H1 hd e1 i1 => ?_⟩
  refine sx_nil ?_
  refine str_k (by omega) ?_
  refine add_TT (by walk_at "sz") ?_
  refine sx_sl (sx_var ha (sx_part (sx_op (sx_var hc (sx_c (add_ii ⟨_, rfl, ?_⟩))))))
  refine sx_nopart ?_
  have e : (k : Int) + 1 = ((k + 1 : Nat) : Int) := by omega
  rw [e]
  refine sl_Tfrom (by walk_at "sz") ?_
  refine add_TT (by walk_at "sz") ?_
  exact q d H1 (by omega) e1 i1
def spStack (K : PySem.W.Frag) : Sp := fun vs H Q _ => ∃ (M : Addr → Prop) (I : Hp → Prop) (b : Addr) (x : V) (fr : List (List Nat × Nat)) (n : Nat), Wf M I ∧ I H ∧ HasBag M I b ∧ vs = [.ref b, x, .int n] ∧ Rep K M H x (.lst (fr.map eC)) ∧ FrOk fr ∧ 1 ≤ fr.length ∧ fr.length ≤ 20 ∧ 1 ≤ n ∧ n ≤ 20 ∧ ∀ y S H', S ≠ [] → S.length ≤ n → GoodS fr S → Rep K M H' y (.lst (S.map eS)) → Ex M H H' → I H' → Q y H'
theorem flat_S {ls : List (List Nat)} (h : ∀ s ∈ ls, ∀ c ∈ s, c < 128) : ∀ d ∈ ls.map eS, Flat d := by
  intro d hd
  obtain ⟨s, hs, rfl⟩ := List.mem_map.mp hd
  exact ok_T (h s hs)
theorem row_lt {fr : List (List Nat × Nat)} {s : List Nat} (h : isRow fr s = true) : ∀ c ∈ s, c < 128 := by
  intro c hc
  obtain ⟨h1, h2⟩ := isRow_iff.mp h
  obtain ⟨k, hk, e⟩ := List.getElem_of_mem hc
  have hk2 : k < fr.length := by omega
  exact sgs_lt (h2 k c fr[k] (by simp [hk, e]) (by simp [hk2]))
theorem pop_mut {M : Addr → Prop} {I : Hp → Prop} {H : Hp} {p : Addr} {xs : List V} {y : V} {Q : VK} (hw : Wf M I) (hp : ¬ M p) (hI : Iq I p (.lst (xs ++ [y])) H) (q : ∀ H', Ex (Mq M p) H H' → Wf (Mq M p) (Iq I p (.lst xs)) → Iq I p (.lst xs) H' → Q y H') : rPop (.ref p) [] H Q := by
  refine ⟨p, _, y, rfl, rfl, hI.2, by simp, ?_⟩
  rw [List.dropLast_concat]
  obtain ⟨i, e⟩ := hw.put (o' := .lst xs) hp hI
  exact q _ e (hw.add _ _) i
theorem map_snocS {ls : List (List Nat)} {l : List Nat} : (ls.map fun l => V.str (T l)) ++ [V.str (T l)] = (ls ++ [l]).map fun l => V.str (T l) := by simp
theorem reps_S {M : Addr → Prop} {H : Hp} : ∀ (ls : List (List Nat)), Reps K M H (ls.map fun l => V.str (T l)) (ls.map eS)
  | [] => .nil
  | _ :: ls => .cons (.str _) (reps_S ls)
theorem ok_stack (B : Bl mg) (G1 : Df P w K mg base 1 "_law_draw" ["_law_bag_here", "_law_sides"] [] (spDraw K)) (G2 : Df P w K mg base 1 "_law_lot" ["_law_r"] [] (spLot K)) (G3 : Df P w K mg base 2 "_law_of" ["_law_bag_here", "_law_things"] [] (spOf K)) (G4 : Df P w K mg base 1 "_law_once" ["_law_things"] [] (spOnce K)) (G5 : Df P w K mg base 2 "_law_row" ["_law_bag_here", "_law_frame_here", "_law_thin"] [.int 2] (spRow K))
    (F : At K mg "_law_stack" s__law_stack ["_law_bag_here", "_law_frame_here", "_law_size_here"] []) : Df P w K mg base 3 "_law_stack" ["_law_bag_here", "_law_frame_here", "_law_size_here"] [] (spStack K) := by
  refine F.df sc__law_stack (fun vs H Q E h => ?_) (fun f cdv A outer s H vs Q E hr h => ⟨_, w__law_stack B G1 G2 G3 G4 G5 hr, ?_⟩)
  · obtain ⟨M, I, b, x, fr, n, _, _, _, rfl, _⟩ := h
    rfl
  · obtain ⟨M, I, b, x, fr, n, hw, hI, hB, rfl, hx, hfr, hf1, hf2, hn1, hn2, q⟩ := h
    unfold t__law_stack
    walk_at "sx"
    refine lst_mut hw hI (by decide) fun p H1 hp np e1 w1 i1 => ?_
    walk_at "sx"
    rename_i y H2 e2 i2 r2
    have hB1 := hB.add (o := .lst []) np
    have hx2 := ((hx.off hp).ex e1).ex e2
    refine ⟨_, _, b, y, _, _, w1, i2, hB1, rfl, r2, rfl, by decide, by decide, fun v e H3 he rv e3 i3 => ?_⟩
    obtain ⟨m, rfl⟩ : ∃ m, e = .int m := by
      simp only [List.mem_cons, List.not_mem_nil, or_false] at he
      rcases he with rfl | rfl | rfl <;> exact ⟨_, rfl⟩
    cases rep_int rv
    have hx3 := hx2.ex e3
    walk_at "sx"
    refine ⟨_, rfl, by omega, by omega, ?_⟩
    rw [Int.toNat_natCast]
    refine for_rng (fun k σ H4 => ∃ ls u5 u6 u7, σ = [some (.ref b), some x, some (.int (n : Nat)), some (.ref p), some (.int m), u5, u6, u7, none] ∧ ls.length = k ∧ (∀ s ∈ ls, Rw fr s) ∧
        Wf (Mq M p) (Iq I p (.lst (ls.map fun l => V.str (T l)))) ∧ Iq I p (.lst (ls.map fun l => V.str (T l))) H4 ∧ Ex (Mq M p) H3 H4)
      ⟨[], _, _, _, rfl, rfl, (fun _ h => nomatch h), w1, i3, Ex.refl _⟩ ?_ ?_
    · rintro k σ H4 hk ⟨ls, u5, u6, u7, rfl, hls, hrow, w4, i4, e4⟩
      have hB4 := hB.add (o := .lst (ls.map fun l => V.str (T l))) np
      have hx4 := hx3.ex e4
      -- the last step
      have rest : ∀ (l : List Nat) (u5 u7 : Option V) (H5 : Hp), Rw fr l → Ex (Mq M p) H4 H5 → Iq I p (.lst (ls.map fun l => V.str (T l))) H5 → ∀ E : Ends, (∀ u5 u6 u7 H6, Wf (Mq M p) (Iq I p (.lst ((ls ++ [l]).map fun l => V.str (T l)))) → Iq I p (.lst ((ls ++ [l]).map fun l => V.str (T l))) H6 → Ex (Mq M p) H4 H6 → E.nx [some (.ref b), some x, some (.int (n : Nat)), some (.ref p), some (.int m), u5, u6, u7, none] H6) →
          (tDrop (tBM K "list" rAppend (tVar 3) (tCons (tVar 6) tNil))) E [some (.ref b), some x, some (.int (n : Nat)), some (.ref p), some (.int m), u5, some (.str (T l)), u7, none] H5 := by
        intro l u5 u7 H5 hl e5 i5 E qn
        walk_at "sx"
        refine ⟨tyv_l i5.2, ?_⟩
        walk_at "sx"
        refine app_mut hw np i5 (by simp; omega) fun H6 e6 w6 i6 => ?_
        rw [map_snocS] at w6 i6
        exact qn _ _ _ H6 w6 i6 (e5.trans e6)
      have fin : ∀ (l : List Nat), Rw fr l → ∀ u5 u6 u7 H6, Wf (Mq M p) (Iq I p (.lst ((ls ++ [l]).map fun l => V.str (T l)))) → Iq I p (.lst ((ls ++ [l]).map fun l => V.str (T l))) H6 → Ex (Mq M p) H4 H6 →
          ∃ (ls : List (List Nat)) (u5' u6' u7' : Option V), [some (.ref b), some x, some (.int (n : Nat)), some (.ref p), some (.int m), u5, u6, u7, none] = [some (.ref b), some x, some (.int (n : Nat)), some (.ref p), some (.int m), u5', u6', u7', none] ∧ ls.length = k + 1 ∧ (∀ s ∈ ls, Rw fr s) ∧ Wf (Mq M p) (Iq I p (.lst (ls.map fun l => V.str (T l)))) ∧ Iq I p (.lst (ls.map fun l => V.str (T l))) H6 ∧ Ex (Mq M p) H3 H6 := by
        intro l hl u5 u6 u7 H6 w6 i6 e6
        refine ⟨ls ++ [l], _, _, _, rfl, by simp [hls], fun s hs => ?_, w6, i6, e4.trans e6⟩
        rcases List.mem_append.mp hs with z | z
        · exact hrow s z
        · rw [List.mem_singleton.mp z]; exact hl
      walk_at "sx"
      refine ⟨_, _, b, x, fr, m, w4, i4, hB4, rfl, hx4, hfr, by omega, fun l H5 hl e5 i5 => ?_⟩
      have hll := isRow_len hl
      walk_at "sx"
      refine ⟨_, _, l, w4, i5, rfl, by omega, fun H6 e6 i6 => ?_⟩
      walk_at "sx"
      refine len_R ((hx4.ex e5).ex e6) (.inl rfl) ?_
      rw [List.length_map]
      walk_at "sx"
      refine mul_Ti (by omega) (by decide) ?_
      walk_at "sx"
      refine ifB (fun h => ?_) (fun h => ?_)
      · walk_at "sx"
        refine len_R ((hx4.ex e5).ex e6) (.inl rfl) ?_
        rw [List.length_map]
        walk_at "sx"
        refine ⟨_, _, b, _, w4, i6, hB4, rfl, by omega, by omega, fun k7 H7 hk7 e7 i7 => ?_⟩
        have hk8 : k7 < fr.length := by omega
        refine gs_name ?_
        with_reducible refine sx_asg ?_
        refine put_te (p := fr[k7]) (l := l) (k := k7) w4 i7 hB4 (((hx4.ex e5).ex e6).ex e7) hfr (by omega) rfl rfl rfl rfl (by simp [hk8]) fun d H8 hd e8 i8 => ?_
        refine gs_name ?_
        have hgood : Rw fr (setAt l k7 (48 + d)) := ⟨setAt_row hl (by simp [hk8]) (sgs_k hd (hfr _ (List.getElem_mem _)).2.1), k7, mk_set (by omega) (by omega)⟩
        exact rest _ _ _ H8 hgood (((e5.trans e6).trans e7).trans e8) i8 _ (fin _ hgood)
      · refine sx_next ?_
        have hgood : Rw fr l := ⟨hl, not_blank (by rw [hll]; exact fun e => by have h := of_decide_eq_false h; exact h (by first | exact e | (rw [e]; exact (rep46 _).symm) | (rw [e, rep46])))⟩
        exact rest l _ _ H6 hgood (e5.trans e6) i6 _ (fin l hgood)
    · rintro σ H4 ⟨ls, u5, u6, u7, rfl, hls, hrow, w4, i4, e4⟩
      have eA : Ex M H H4 := (e1.trans ((e2.trans e3).trans e4)).shut hp
      have hxA := hx.ex eA
      walk_at "sx"
      refine ⟨M, I, _, ls, hw, i4.1, rfl, .lst i4.2 np (reps_S ls), by omega, fun p2 H5 hp2 np2 h5 e5 i5 => ?_⟩
      have hB2 : ∀ o, HasBag (Mq M p2) (Iq I p2 o) b := fun o => hB.add np2
      have hx5 : Rep K (Mq M p2) H5 x (.lst (fr.map eC)) := by
        have e6 : Ex (Mq M p2) H4 H5 := fun a o n h => e5 a o (fun m => n (.inl m)) h
        exact (hxA.off hp2).ex e6
      have i6 : Iq I p2 (.lst ((dedup [] ls).map fun l => V.str (T l))) H5 := ⟨i5, h5⟩
      walk_at "sx"
      refine len_R hx5 (.inl rfl) ?_
      rw [List.length_map]
      walk_at "sx"
      refine ⟨_, rfl, by omega, by omega, ?_⟩
      rw [Int.toNat_natCast]
      have l0 : ls ≠ [] := by
        intro h
        rw [h] at hls
        simp at hls
        omega
      refine for_rng (fun k σ H6 => ∃ S u6 u7 u8, σ = [some (.ref b), some x, some (.int (n : Nat)), some (.ref p2), some (.int m), u5, u6, u7, u8] ∧ S ≠ [] ∧ S.length ≤ n ∧ ((∀ s ∈ S, Rw fr s) ∧ S.Nodup ∧ ∀ j, j < k → ∃ s ∈ S, Mk0 s j) ∧
          Wf (Mq M p2) (Iq I p2 (.lst (S.map fun l => V.str (T l)))) ∧ Iq I p2 (.lst (S.map fun l => V.str (T l))) H6 ∧ Ex (Mq M p2) H5 H6)
        ⟨dedup [] ls, _, _, _, rfl, ?_, ?_, ⟨?_, dedup_nd (by simp), fun j hj => absurd hj (Nat.not_lt_zero _)⟩, hw.add _ _, i6, Ex.refl _⟩ ?_ ?_
      · cases ls with
        | nil => exact absurd rfl l0
        | cons a ls =>
          intro h
          have : a ∈ dedup [] (a :: ls) := dedup_mem.mpr (.inr List.mem_cons_self)
          rw [h] at this
          cases this
      · refine Nat.le_trans dedup_len ?_
        simp; omega
      · intro s hs
        rcases dedup_mem.mp hs with h | h
        · cases h
        · exact hrow s h
      · rintro k σ H6 hk ⟨S, v6, v7, v8, rfl, hS0, hSl, ⟨hSR, hnd, htold⟩, w6, i6, e6⟩
        have hSr : ∀ s ∈ S, isRow fr s = true := fun s hs => (hSR s hs).1
        have rS : Rep K M H6 (.ref p2) (.lst (S.map eS)) := .lst i6.2 np2 (reps_S S)
        have hx6 := hx5.ex e6
        rw [Int.zero_add]
        walk_at "sx"
        refine lc_srcF (as := S) (enc := eS) (fun s => !decide (s[k]? = some 46)) eS hw i6.1 rS rfl (szOk (by omega)) (fun _ => rfl) ?_ ?_ ?_
        · intro L acc k2 a v H7 hL ha rv wf hi ex Qt qt
          cases rep_str rv
          have hal := isRow_len (hSr a (List.mem_of_getElem? ha))
          have hka : k < a.length := by omega
          walk_at "sx"
          refine ix_T (z := a[k]) (by walk_at "sz") (by simp [hka]) ?_
          walk_at "sx"
          have := qt H7 hi (Ex.refl _)
          have e1 : (!decide (a[k]? = some 46)) = (!decide (a[k] = 46)) := by simp [hka]
          rw [e1] at this
          (try rw [dec1])
          exact this
        · intro L acc k2 a v H7 hL ha _ rv wf hi ex Qe qe
          cases rep_str rv
          walk_at "sx"
          exact qe _ _ (.str _) hi (Ex.refl _)
        · intro y7 H7 r7 e7 i7
          walk_at "sx"
          refine lst_end (K := K) hw i7 .nil (by decide) fun y8 H8 e8 i8 r8 => ?_
          refine eq_L0 (r7.ex e8) r8 (flat_S fun s hs => ?_) ?_
          · exact row_lt (hSr s (List.mem_filter.mp hs).1)
          have i9 : Iq I p2 (.lst (S.map fun l => V.str (T l))) H8 := ⟨i8, e8 _ _ np2 (e7 _ _ np2 i6.2)⟩
          have e9 : Ex (Mq M p2) H5 H8 := fun a o n h => e8 a o (fun m => n (.inl m)) (e7 a o (fun m => n (.inl m)) (e6 a o n h))
          walk_at "sx"
          refine ifB (fun h => ?_) (fun h => ?_)
          · obtain ⟨S1, s, rfl⟩ : ∃ S1 s, S = S1 ++ [s] := ⟨S.dropLast, S.getLast hS0, (List.dropLast_concat_getLast hS0).symm⟩
            have hs := hSr s (by simp)
            have hsl := isRow_len hs
            walk_at "sx"
            refine ⟨tyv_l i9.2, ?_⟩
            rw [← map_snocS] at i9
            refine pop_mut hw np2 i9 fun H10 e10 w10 i10 => ?_
            walk_at "sx"
            refine ⟨tyv_l i10.2, ?_⟩
            refine sx_cons ?_
            refine put_te (p := fr[k]) (l := s) (k := k) w10 i10 (hB2 _) ((hx5.ex e9).ex e10) hfr (by omega) rfl rfl rfl rfl (by simp [hk]) fun d H11 hd e11 i11 => ?_
            refine sx_nil ?_
            refine app_mut hw np2 i11 (by simp at hSl ⊢; omega) fun H12 e12 w12 i12 => ?_
            rw [map_snocS] at w12 i12
            have hks : k < s.length := by omega
            have hall : ∀ z ∈ S1 ++ [s], z[k]? = some 46 := fun z hz => by
              have h := List.isEmpty_iff.mp h
              have h := List.map_eq_nil_iff.mp h
              have h := List.filter_eq_nil_iff.mp h z hz
              simpa using h
            have hnew : setAt s k (48 + d) ∉ S1 := fun hz => by
              have := hall _ (List.mem_append_left _ hz)
              obtain ⟨c, h1, h2⟩ := mk_set (c := 48 + d) hks (by omega)
              rw [this] at h1
              cases h1
              exact h2 rfl
            refine ⟨S1 ++ [setAt s k (48 + d)], _, _, _, rfl, by simp, by simpa using hSl, ⟨fun z hz => ?_, ?_, fun j hj => ?_⟩, w12, i12, ((e9.trans e10).trans e11).trans e12⟩
            · rcases List.mem_append.mp hz with u | u
              · exact hSR z (List.mem_append_left _ u)
              · rw [List.mem_singleton.mp u]
                exact ⟨setAt_row hs (by simp [hk]) (sgs_k hd (hfr _ (List.getElem_mem _)).2.1), k, mk_set hks (by omega)⟩
            · exact List.nodup_append.mpr ⟨(List.nodup_append.mp hnd).1, by simp, fun a ha b hb => by rw [List.mem_singleton.mp hb]; exact fun e => hnew (e ▸ ha)⟩
            · by_cases hjk : j = k
              · rw [hjk]
                exact ⟨_, List.mem_append_right _ (List.mem_singleton.mpr rfl), mk_set hks (by omega)⟩
              · obtain ⟨z, hz, hm⟩ := htold j (by omega)
                rcases List.mem_append.mp hz with u | u
                · exact ⟨z, List.mem_append_left _ u, hm⟩
                · rw [List.mem_singleton.mp u] at hm
                  exact ⟨_, List.mem_append_right _ (List.mem_singleton.mpr rfl), mk_set2 hks hjk hm⟩
          · walk_at "sx"
            refine ⟨S, _, _, _, rfl, hS0, hSl, ⟨hSR, hnd, fun j hj => ?_⟩, w6, i9, e9⟩
            by_cases hjk : j = k
            · rw [hjk]
              cases e : S.filter (fun s => !decide (s[k]? = some 46)) with
              | nil =>
                rw [e] at h
                cases h
              | cons z zs =>
                have hz : z ∈ S.filter (fun s => !decide (s[k]? = some 46)) := by rw [e]; exact List.mem_cons_self
                obtain ⟨h1, h2⟩ := List.mem_filter.mp hz
                have hzl := isRow_len (hSr z h1)
                have hkz : k < z.length := by omega
                exact ⟨z, h1, z[k], by simp [hkz], by simpa [hkz] using h2⟩
            · exact htold j (by omega)
      · rintro σ H6 ⟨S, v6, v7, v8, rfl, hS0, hSl, ⟨hSR, hnd, htold⟩, w6, i6, e6⟩
        have hSr : ∀ s ∈ S, isRow fr s = true := fun s hs => (hSR s hs).1
        walk_at "sx"
        refine q _ S H6 hS0 hSl ⟨hSR, hnd, htold⟩ (.lst i6.2 np2 (reps_S S)) ?_ i6.1
        exact eA.trans (fun a o n h => by
          by_cases z : a = p2
          · rw [z, hp2] at h; cases h
          · exact e6 a o (fun m => m.elim n z) (e5 a o n h))
end


/-! ### what is told in the end -/
def Tm (n : Nat) (t : List Nat) : Prop := t.length = n ∧ ∀ c ∈ t, c = 46 ∨ c = 43
def On (t : List Nat) (k : Nat) : Prop := t[k]? = some 43
theorem tm_rep (n : Nat) : Tm n (List.replicate n 46) := ⟨by simp, fun c h => .inl (List.eq_of_mem_replicate h)⟩
theorem on_rep {n k : Nat} : ¬ On (List.replicate n 46) k := by
  intro h
  have := List.mem_of_getElem? h
  have := List.eq_of_mem_replicate this
  omega
theorem tm_off {n k : Nat} {t : List Nat} (h : Tm n t) (hk : k < n) (ho : ¬ On t k) : t[k]? = some 46 := by
  have e : t[k]? = some (t[k]'(by rw [h.1]; exact hk)) := by simp [h.1, hk]
  rcases h.2 _ (List.mem_of_getElem? e) with z | z
  · rw [e, z]
  · rw [z] at e; exact absurd e ho
theorem uni_get {t u : List Nat} {k a b : Nat} (h1 : t[k]? = some a) (h2 : u[k]? = some b) : (uni t u)[k]? = some (if 43 = a ∨ 43 = b then 43 else 46) := by
  unfold uni
  rw [List.getElem?_map, show (t.zip u)[k]? = some (a, b) from List.getElem?_zip_eq_some.mpr ⟨h1, h2⟩]
  rfl
theorem lay_get {t u : List Nat} {k a b : Nat} (h1 : t[k]? = some a) (h2 : u[k]? = some b) : (lay t u)[k]? = some (if a = 46 then b else a) := by
  unfold lay
  rw [List.getElem?_map, show (t.zip u)[k]? = some (a, b) from List.getElem?_zip_eq_some.mpr ⟨h1, h2⟩]
  rfl
theorem lay_len {l m : List Nat} (h : m.length = l.length) : (lay l m).length = l.length := by simp [lay, h]
theorem get_some {t : List Nat} {k : Nat} (h : k < t.length) : ∃ a, t[k]? = some a := ⟨t[k], by simp [h]⟩
theorem tm_uni {n : Nat} {t s : List Nat} (h : Tm n t) (hs : s.length = n) : Tm n (uni t (lot s)) := by
  refine ⟨by rw [uni_len (by rw [lot_len, hs, h.1])]; exact h.1, fun c hc => ?_⟩
  unfold uni at hc
  obtain ⟨p, _, rfl⟩ := List.mem_map.mp hc
  by_cases e : 43 = p.1 ∨ 43 = p.2
  · exact .inr (if_pos e)
  · exact .inl (if_neg e)
def Mk (s : List Nat) (k : Nat) : Prop := ∃ c, s[k]? = some c ∧ c ≠ 46
theorem on_uni {n k : Nat} {t s : List Nat} (h : Tm n t) (hs : s.length = n) : On (uni t (lot s)) k ↔ On t k ∨ Mk s k := by
  by_cases hk : k < n
  · obtain ⟨a, ha⟩ := get_some (t := t) (k := k) (by rw [h.1]; exact hk)
    obtain ⟨c, hc⟩ := get_some (t := s) (k := k) (by rw [hs]; exact hk)
    unfold On Mk
    rw [uni_get ha (lot_get hc), ha]
    by_cases e : c = 46
    · subst e
      rw [if_pos rfl]
      have h2 : (43 = a ∨ 43 = 46) ↔ a = 43 := by omega
      simp only [h2, hc]
      by_cases e2 : a = 43
      · simp [e2]
      · simp [e2]
    · rw [if_neg e, if_pos (.inr rfl)]
      simp [hc, e]
  · have h1 : (uni t (lot s))[k]? = none := List.getElem?_eq_none (by rw [(tm_uni h hs).1]; omega)
    have h2 : t[k]? = none := List.getElem?_eq_none (by rw [h.1]; omega)
    have h3 : s[k]? = none := List.getElem?_eq_none (by rw [hs]; omega)
    simp [On, Mk, h1, h2, h3]
theorem tm_ext {n : Nat} {t u : List Nat} (ht : Tm n t) (hu : Tm n u) (h : ∀ k, On t k ↔ On u k) : t = u := by
  refine List.ext_getElem? fun k => ?_
  by_cases hk : k < n
  · by_cases e : On t k
    · exact Eq.trans e (Eq.symm ((h k).mp e))
    · rw [tm_off ht hk e, tm_off hu hk fun z => e ((h k).mpr z)]
  · rw [List.getElem?_eq_none (by rw [ht.1]; omega), List.getElem?_eq_none (by rw [hu.1]; omega)]
/-- a seed that tells more -/
def Can (s t r : List Nat) : Prop := (∃ k, Mk s k ∧ ¬ On t k) ∧ ∀ k, Mk s k → ¬ On t k → r[k]? = s[k]?
theorem can_iff {s t r : List Nat} : canTake s t r = true ↔ Can s t r := by
  unfold canTake Can
  rw [Bool.and_eq_true]
  refine and_congr ?_ ?_
  · constructor
    · intro h
      cases e : news s t with
      | nil => rw [e] at h; simp at h
      | cons k ks =>
        obtain ⟨c, h1, h2, h3⟩ := news_mem.mp (show k ∈ news s t by rw [e]; exact List.mem_cons_self)
        exact ⟨k, ⟨c, h1, h2⟩, h3⟩
    · rintro ⟨k, ⟨c, h1, h2⟩, h3⟩
      have := news_mem.mpr ⟨c, h1, h2, h3⟩
      cases e : news s t with
      | nil => rw [e] at this; cases this
      | cons k ks => rfl
  · rw [List.all_eq_true]
    constructor
    · rintro h k ⟨c, h1, h2⟩ h3
      exact of_decide_eq_true (h k (news_mem.mpr ⟨c, h1, h2, h3⟩))
    · intro h k hk
      obtain ⟨c, h1, h2, h3⟩ := news_mem.mp hk
      exact decide_eq_true (h k ⟨c, h1, h2⟩ h3)
theorem fresh_mem {n : Nat} {s t : List Nat} (ht : Tm n t) (hs : s.length = n) {k : Nat} : k ∈ fresh s t ↔ Mk s k ∧ ¬ On t k := by
  unfold fresh Mk
  rw [List.mem_filter, List.mem_range, Bool.and_eq_true]
  constructor
  · rintro ⟨h1, h2, h3⟩
    obtain ⟨c, hc⟩ := get_some h1
    refine ⟨⟨c, hc, fun e => ?_⟩, fun o => ?_⟩
    · rw [hc, e] at h2; simp at h2
    · unfold On at o
      rw [o] at h3; simp at h3
  · rintro ⟨⟨c, hc, e⟩, o⟩
    have hk := (List.getElem?_eq_some_iff.mp hc).1
    refine ⟨hk, ?_, ?_⟩
    · rw [hc]; simp [e]
    · rw [tm_off ht (by omega) o]; simp
theorem fits_iff {n : Nat} {s t r : List Nat} (ht : Tm n t) (hs : s.length = n) : fits s r t = true ↔ Can s t r := by
  unfold fits Can
  rw [Bool.and_eq_true]
  refine and_congr ?_ ?_
  · constructor
    · intro h
      cases e : fresh s t with
      | nil => rw [e] at h; simp at h
      | cons k ks => exact ⟨k, (fresh_mem ht hs).mp (by rw [e]; exact List.mem_cons_self)⟩
    · rintro ⟨k, h⟩
      have := (fresh_mem ht hs).mpr h
      cases e : fresh s t with
      | nil => rw [e] at this; cases this
      | cons k ks => rfl
  · rw [List.isEmpty_iff, List.filter_eq_nil_iff]
    constructor
    · intro h k h1 h2
      have := h k ((fresh_mem ht hs).mpr ⟨h1, h2⟩)
      simpa using this
    · intro h k hk
      obtain ⟨h1, h2⟩ := (fresh_mem ht hs).mp hk
      simp [h k h1 h2]
/-- lots that the seeds reach -/
inductive Gr (S : List (List Nat)) (r : List Nat) : List Nat → Prop
  | base : Gr S r (List.replicate r.length 46)
  | step {t s : List Nat} : Gr S r t → s ∈ S → Can s t r → Gr S r (uni t (lot s))
def Stuck (S : List (List Nat)) (r t : List Nat) : Prop := ∀ s ∈ S, ¬ Can s t r
section
variable {S S0 : List (List Nat)} {r t : List Nat}
theorem Gr.tm (hS : ∀ s ∈ S, s.length = r.length) (h : Gr S r t) : Tm r.length t := by
  induction h with
  | base => exact tm_rep _
  | step _ hs _ ih => exact tm_uni ih (hS _ hs)
theorem Gr.under {L : List Nat} (hS : ∀ s ∈ S, s.length = r.length) (h0 : ∀ s ∈ S, s ∈ S0) (hL : Stuck S0 r L) (h : Gr S r t) : ∀ k, On t k → On L k := by
  induction h with
  | base => intro k h; exact absurd h on_rep
  | @step t s g hs hc ih =>
    intro k hk
    rcases (on_uni (g.tm hS) (hS s hs)).mp hk with z | z
    · exact ih k z
    · by_cases o : On L k
      · exact o
      · exfalso
        refine hL s (h0 s hs) ⟨⟨k, z, o⟩, fun j hj hn => hc.2 j hj fun o2 => hn (ih j o2)⟩
theorem gr_one {L : List Nat} (hS : ∀ s ∈ S, s.length = r.length) (h0 : ∀ s, s ∈ S ↔ s ∈ S0) (ht : Gr S r t) (hL : Gr S0 r L) (st : Stuck S r t) (sL : Stuck S0 r L) : t = L := by
  have hS0 : ∀ s ∈ S0, s.length = r.length := fun s hs => hS s ((h0 s).mpr hs)
  exact tm_ext (ht.tm hS) (hL.tm hS0) fun k => ⟨ht.under hS (fun s => (h0 s).mp) sL k, hL.under hS0 (fun s => (h0 s).mpr) st k⟩
theorem on_all : ∀ {t : List Nat}, open_ t = 0 → ∀ {k : Nat}, k < t.length → On t k
  | [], _, _, h => by simp at h
  | c :: t, h, k, hk => by
    rw [open_cons] at h
    have e : c = 43 := by
      by_cases e : c = 43
      · exact e
      · rw [if_neg e] at h; omega
    cases k with
    | zero => simp [On, e]
    | succ k =>
      have := on_all (t := t) (by omega) (k := k) (by simpa using hk)
      simpa [On] using this
theorem stuck_0 (hS : ∀ s ∈ S, s.length = r.length) (hl : t.length = r.length) (h : open_ t = 0) : Stuck S r t := by
  rintro s hs ⟨⟨k, ⟨c, hc, _⟩, ho⟩, _⟩
  have := (List.getElem?_eq_some_iff.mp hc).1
  exact ho (on_all h (by rw [hl, ← hS s hs]; exact this))
theorem can_open {n : Nat} {s : List Nat} (ht : Tm n t) (hs : s.length = n) (h : Can s t r) : open_ (uni t (lot s)) < open_ t := by
  obtain ⟨⟨k, ⟨c, hc, e⟩, ho⟩, _⟩ := h
  have hk := (List.getElem?_eq_some_iff.mp hc).1
  refine open_lt (k := k) (by rw [lot_len, hs, ht.1]) ?_ ho (by rw [ht.1]; omega)
  rw [lot_get hc, if_neg e]
theorem first_some {s : List Nat} (h : first S t r = some s) : s ∈ S ∧ Can s t r :=
  ⟨List.mem_of_find?_eq_some h, can_iff.mp (by have := List.find?_some (p := fun s => canTake s t r) h; exact this)⟩
theorem first_none (h : first S t r = none) : Stuck S r t := fun s hs hc => by
  have := List.find?_eq_none.mp h s hs
  exact this (can_iff.mpr hc)
/-- what the seeds taken say -/
structure Says (S : List (List Nat)) (r : List Nat) (tk : List (List Nat)) (t : List Nat) : Prop where
  gr : Gr S r t
  mem : ∀ s ∈ tk, s ∈ S
  lays : ∀ u : List Nat, u.length = r.length → ∀ k : Nat, (List.foldr lay u tk)[k]? = if t[k]? = some 43 then r[k]? else u[k]?
  lots : ∀ u : List Nat, Tm r.length u → Tm r.length (List.foldr (fun s u => uni u (lot s)) u tk) ∧ ∀ k : Nat, On (List.foldr (fun s u => uni u (lot s)) u tk) k ↔ On t k ∨ On u k
theorem says_0 : Says S r [] (List.replicate r.length 46) where
  gr := .base
  mem := fun _ h => nomatch h
  lays := fun u _ k => by rw [if_neg (show ¬ (List.replicate r.length 46)[k]? = some 43 from on_rep)]; rfl
  lots := fun u hu => ⟨hu, fun k => ⟨.inr, fun h => h.elim (fun z => absurd z on_rep) id⟩⟩
theorem Says.step {s : List Nat} {tk : List (List Nat)} (hS : ∀ s ∈ S, s.length = r.length) (h : Says S r tk t) (hs : s ∈ S) (hc : Can s t r) : Says S r (tk ++ [s]) (uni t (lot s)) where
  gr := h.gr.step hs hc
  mem := fun x hx => by
    rcases List.mem_append.mp hx with z | z
    · exact h.mem x z
    · rw [List.mem_singleton.mp z]; exact hs
  lays := fun u hu k => by
    have hsl := hS s hs
    have tm := h.gr.tm hS
    rw [List.foldr_append]
    show (List.foldr lay (lay s u) tk)[k]? = _
    rw [h.lays (lay s u) (by rw [lay_len (by rw [hu, hsl])]; exact hsl) k]
    have ou := on_uni (k := k) tm hsl
    by_cases o : t[k]? = some 43
    · rw [if_pos o, if_pos (show (uni t (lot s))[k]? = some 43 from ou.mpr (.inl o))]
    · rw [if_neg o]
      by_cases m : Mk s k
      · rw [show (uni t (lot s))[k]? = some 43 from ou.mpr (.inr m), if_pos rfl, hc.2 k m o]
        obtain ⟨c, hc2, e⟩ := m
        have hk := (List.getElem?_eq_some_iff.mp hc2).1
        obtain ⟨b, hb⟩ := get_some (t := u) (k := k) (by omega)
        rw [lay_get hc2 hb, if_neg e, hc2]
      · rw [if_neg (show ¬ (uni t (lot s))[k]? = some 43 from fun z => (ou.mp z).elim o m)]
        by_cases hk : k < s.length
        · obtain ⟨c, hc2⟩ := get_some hk
          obtain ⟨b, hb⟩ := get_some (t := u) (k := k) (by omega)
          have e : c = 46 := by
            by_cases e : c = 46
            · exact e
            · exact absurd ⟨c, hc2, e⟩ m
          rw [lay_get hc2 hb, if_pos e, hb]
        · rw [List.getElem?_eq_none (by rw [lay_len (by rw [hu, hsl])]; omega), List.getElem?_eq_none (by omega)]
  lots := fun u hu => by
    have hsl := hS s hs
    have tm := h.gr.tm hS
    rw [List.foldr_append]
    show Tm r.length (List.foldr _ (uni u (lot s)) tk) ∧ ∀ k : Nat, On (List.foldr _ (uni u (lot s)) tk) k ↔ _
    obtain ⟨h1, h2⟩ := h.lots (uni u (lot s)) (tm_uni hu hsl)
    refine ⟨h1, fun k => ?_⟩
    rw [h2 k, on_uni hu hsl, on_uni tm hsl]
    constructor
    · rintro (z | z | z)
      · exact .inl (.inl z)
      · exact .inr z
      · exact .inl (.inr z)
    · rintro ((z | z) | z)
      · exact .inl z
      · exact .inr (.inr z)
      · exact .inr (.inl z)
theorem takes_says (hS : ∀ s ∈ S, s.length = r.length) : ∀ {n : Nat} {tk : List (List Nat)} {t : List Nat}, Says S r tk t → open_ t ≤ n → Says S r (takes S r n tk t).1 (takes S r n tk t).2 ∧ Stuck S r (takes S r n tk t).2
  | 0, tk, t, h, ho => ⟨h, stuck_0 hS (h.gr.tm hS).1 (Nat.le_zero.mp ho)⟩
  | n + 1, tk, t, h, ho => by
    unfold takes
    cases e : first S t r with
    | none => exact ⟨h, first_none e⟩
    | some s =>
      obtain ⟨h1, h2⟩ := first_some e
      have := can_open (h.gr.tm hS) (hS s h1) h2
      exact takes_says hS (h.step hS h1 h2) (by omega)
theorem taken_says (hS : ∀ s ∈ S, s.length = r.length) : Says S r (taken S r).1 (taken S r).2 ∧ Stuck S r (taken S r).2 := takes_says hS says_0 (by rw [open_rep]; exact Nat.le_refl _)
theorem lf_says (hS : ∀ s ∈ S, s.length = r.length) : ∀ n, Gr S r (lfN S r n) ∧ (open_ (lfN S r n) + n ≤ r.length ∨ Stuck S r (lfN S r n))
  | 0 => ⟨.base, .inl (by show open_ (List.replicate r.length 46) + 0 ≤ _; rw [open_rep]; omega)⟩
  | n + 1 => by
    obtain ⟨g, h⟩ := lf_says hS n
    have tm := g.tm hS
    show Gr S r (lfStep S r (lfN S r n)) ∧ _
    rw [show lfN S r (n + 1) = lfStep S r (lfN S r n) from rfl]
    unfold lfStep
    cases e : (ready S r (lfN S r n)).getLast? with
    | none =>
      refine ⟨g, .inr fun s hs hc => ?_⟩
      have e2 := List.getLast?_eq_none_iff.mp e
      have : s ∈ ready S r (lfN S r n) := List.mem_filter.mpr ⟨hs, (fits_iff tm (hS s hs)).mpr hc⟩
      rw [e2] at this
      cases this
    | some s =>
      have hm := List.mem_filter.mp (List.mem_of_getLast? e)
      have hc := (fits_iff tm (hS s hm.1)).mp hm.2
      refine ⟨g.step hm.1 hc, ?_⟩
      rcases h with h | h
      · have := can_open tm (hS s hm.1) hc
        exact .inl (by show open_ (uni (lfN S r n) (lot s)) + (n + 1) ≤ _; omega)
      · exact absurd hc (h s hm.1)
theorem lf_end (hS : ∀ s ∈ S, s.length = r.length) : Gr S r (lfN S r r.length) ∧ Stuck S r (lfN S r r.length) := by
  obtain ⟨g, h⟩ := lf_says hS r.length
  refine ⟨g, ?_⟩
  rcases h with h | h
  · exact stuck_0 hS (g.tm hS).1 (by omega)
  · exact h
/-- in whichever order the seeds stand, they tell the same -/
theorem told_one (hS : ∀ s ∈ S, s.length = r.length) (h0 : ∀ s, s ∈ S ↔ s ∈ S0) : (taken S r).2 = lfN S0 r r.length := by
  have hS0 : ∀ s ∈ S0, s.length = r.length := fun s hs => hS s ((h0 s).mpr hs)
  obtain ⟨h1, h2⟩ := taken_says hS
  obtain ⟨h3, h4⟩ := lf_end hS0
  exact gr_one hS h0 h1.gr h3 h2 h4
theorem lots_end (hS : ∀ s ∈ S, s.length = r.length) : (taken S r).1.foldr (fun s u => uni u (lot s)) (List.replicate r.length 46) = (taken S r).2 := by
  obtain ⟨h1, _⟩ := taken_says hS
  obtain ⟨a, b⟩ := h1.lots _ (tm_rep _)
  exact tm_ext a (h1.gr.tm hS) fun k => ⟨fun h => ((b k).mp h).elim id fun z => absurd z on_rep, fun h => (b k).mpr (.inl h)⟩
theorem lays_get (hS : ∀ s ∈ S, s.length = r.length) (k : Nat) : ((taken S r).1.foldr lay (List.replicate r.length 46))[k]? = if (taken S r).2[k]? = some 43 then r[k]? else (List.replicate r.length 46)[k]? :=
  (taken_says hS).1.lays _ (by simp) k
def mask (r t : List Nat) : List Nat := (List.range r.length).map fun k => if t[k]? = some 43 then r.getD k 46 else 46
theorem lays_mask (hS : ∀ s ∈ S, s.length = r.length) : (taken S r).1.foldr lay (List.replicate r.length 46) = mask r (taken S r).2 := by
  refine List.ext_getElem? fun k => ?_
  rw [lays_get hS k]
  unfold mask
  rw [List.getElem?_map]
  by_cases hk : k < r.length
  · rw [List.getElem?_range hk]
    obtain ⟨c, hc⟩ := get_some hk
    by_cases e : (taken S r).2[k]? = some 43
    · rw [if_pos e, hc]
      simp [e, hc]
    · rw [if_neg e]
      simp [e, hk]
  · rw [List.getElem?_eq_none (l := List.replicate r.length 46) (by simp; omega), List.getElem?_eq_none (l := r) (by omega), List.getElem?_eq_none (l := List.range r.length) (by simp; omega)]
    simp
theorem lays_made (hS : ∀ s ∈ S, s.length = r.length) (h : (taken S r).2 = lot r) : (taken S r).1.foldr lay (List.replicate r.length 46) = r := by
  refine List.ext_getElem? fun k => ?_
  rw [lays_get hS k, h]
  by_cases hk : k < r.length
  · obtain ⟨c, hc⟩ := get_some hk
    rw [lot_get hc, hc]
    by_cases e : c = 46
    · simp [e, hk]
    · simp [e]
  · rw [List.getElem?_eq_none (l := r) (by omega), List.getElem?_eq_none (l := List.replicate r.length 46) (by simp; omega)]
    simp
theorem taken_mem (hS : ∀ s ∈ S, s.length = r.length) : ∀ s ∈ (taken S r).1, s ∈ S := (taken_says hS).1.mem
end


/-! ### looking a paper over -/
/-- plain data, at most n deep -/
inductive Pl : Nat → D → Prop
  | non (n : Nat) : Pl n .non
  | bl (n : Nat) (b : Bool) : Pl n (.bl b)
  | int (n : Nat) (i : Int) : Pl n (.int i)
  | str (n : Nat) {l : List Nat} : l.length ≤ 1000 → (∀ c ∈ l, c < 128) → Pl n (.str (T l))
  | lst {n : Nat} {l : List D} : l.length ≤ 1000 → (∀ e ∈ l, Pl n e) → Pl (n + 1) (.lst l)
  | tup {n : Nat} {l : List D} : l.length ≤ 1000 → (∀ e ∈ l, Pl n e) → Pl (n + 1) (.tup l)
  | dct {n : Nat} {l : List (Key × D)} : l.length ≤ 1000 → (l.map (·.1)).Nodup → (∀ kv ∈ l, Pl n kv.2) → Pl (n + 1) (.dct l)
theorem Pl.shows {n : Nat} {d : D} (h : Pl n d) : Shows d := by
  cases h
  · exact ⟨_, .non⟩
  · exact ⟨_, .bl _⟩
  · exact ⟨_, .int _⟩
  · exact ⟨_, .str _⟩
  · exact ⟨_, .lst _⟩
  · exact ⟨_, .tup _⟩
  · exact ⟨_, .dct _⟩
theorem Pl.txt {n : Nat} {l : List Nat} (h : Pl n (.str (T l))) : l.length ≤ 1000 := by
  generalize e : D.str (T l) = d at h
  cases h with
  | @str n m h1 h2 =>
    have := T_inj (by injection e)
    rw [this]; exact h1
  | _ => cases e
theorem Pl.els {n : Nat} {l : List D} (h : Pl n (.tup l)) : l.length ≤ 1000 ∧ ∀ e ∈ l, ∃ m, Pl m e := by
  cases h with
  | tup h1 h2 => exact ⟨h1, fun e he => ⟨_, h2 e he⟩⟩
def hasForm (w : List Nat) (n : Nat) : D → Bool
  | .tup (.str z :: es) => decide (es.length + 1 = n) && decide (z = T w)
  | _ => false
def optI : Option Nat → V
  | none => .non
  | some k => .int (k : Nat)
/-- the next seed that stands to be barred: n places from p on -/
def nb (S : List (List Nat)) (t : List Nat) : Nat → Nat → Option Nat
  | 0, _ => none
  | n + 1, p => if (news (S.getD p []) t).isEmpty then nb S t n (p + 1) else some p
def nextBar (S : List (List Nat)) (t : List Nat) (p : Nat) : Option Nat := nb S t (S.length - p) p
def txt : D → List Nat
  | .str z => z.cps.toList
  | _ => []
def el (k : Nat) : D → D
  | .tup l => l.getD k .non
  | _ => .non
def takeH (S : List (List Nat)) (r t : List Nat) : D → Bool
  | .str z => decide (z.cps.toList ∈ S) && canTake z.cps.toList t r
  | _ => false
def barH (fr : List (List Nat × Nat)) (s r t : List Nat) (e1 e2 : D) : Bool :=
  isStr e1 && (isStr e2 && (decide (txt e1 = s) && decide (txt e2 ∈ (unlike s t r).map fun k => (fr.getD k ([], 0)).1)))
def lastH (S : List (List Nat)) (r t : List Nat) (p : Nat) (d : D) : Bool :=
  if hasForm kMade 1 d then decide (p = 0) && decide (t = lot r) else if hasForm kBarred 1 d then !decide (t = lot r) && (nextBar S t p).isNone else false
def lookE (S : List (List Nat)) (r : List Nat) (d : D) (more : Bool) (at_ : Nat) (t : List Nat) (p : Nat) : V :=
  if lastH S r t p d then (if more then .int (at_ + 1 : Nat) else .non) else .int (at_ : Nat)
def lookR (fr : List (List Nat × Nat)) (S : List (List Nat)) (r : List Nat) (N : Nat) : List D → Nat → List Nat → Nat → V
  | [], _, _, _ => .int (N : Nat)
  | d :: ds, at_, t, p =>
    if hasForm kTake 2 d && (decide (p = 0) && takeH S r t (el 1 d)) then lookR fr S r N ds (at_ + 1) (uni t (lot (txt (el 1 d)))) p
    else match nextBar S t p with
      | some j => if hasForm kBar 3 d && barH fr (S.getD j []) r t (el 1 d) (el 2 d) then lookR fr S r N ds (at_ + 1) t (j + 1) else lookE S r d (!ds.isEmpty) at_ t p
      | none => lookE S r d (!ds.isEmpty) at_ t p
def lookL (fr : List (List Nat × Nat)) (S : List (List Nat)) : List D → V
  | [] => .int (0 : Nat)
  | h :: ds => if hasForm kRow 2 h && isRowD fr (el 1 h) then lookR fr S (txt (el 1 h)) (ds.length + 1) ds 1 (List.replicate fr.length 46) 0 else .int (0 : Nat)
def lookF (fr : List (List Nat × Nat)) (S : List (List Nat)) : D → V
  | .lst l => lookL fr S l
  | .tup l => lookL fr S l
  | _ => .int (0 : Nat)
theorem form_el {w : List Nat} {n : Nat} {d : D} (h : hasForm w n d = true) : ∃ l, d = .tup l ∧ l.length = n ∧ ∃ es, l = .str (T w) :: es := by
  unfold hasForm at h
  split at h
  · obtain ⟨h1, h2⟩ := Bool.and_eq_true_iff.mp h
    have h1 := of_decide_eq_true h1
    have h2 := of_decide_eq_true h2
    exact ⟨_, rfl, by simp [h1], _, by rw [h2]⟩
  · cases h
section
variable {P : Program} {w : World} {K : PySem.W.Frag} {mg : Str → Option Value} {base : Heap}
def spForm (K : PySem.W.Frag) : Sp := fun vs H Q _ => ∃ (M : Addr → Prop) (x : V) (d : D) (m : Nat) (l : List Nat) (n : Nat), vs = [x, .str (T l), .int (n : Nat)] ∧ Rep K M H x d ∧ Pl m d ∧ 1 ≤ n ∧ Q (.bl (hasForm l n d)) H
theorem ok_has_form (B : Bl mg) (F : At K mg "has_form" s_has_form ["line", "word", "many"] []) : Df P w K mg base 1 "has_form" ["line", "word", "many"] [] (spForm K) := by
  refine F.df sc_has_form (fun vs H Q E h => ?_) (fun f cdv A outer s H vs Q E hr h => ⟨_, w_has_form B hr, ?_⟩)
  · obtain ⟨M, x, d, m, l, n, rfl, _⟩ := h
    rfl
  · obtain ⟨M, x, d, m, l, n, rfl, hx, hp, hn, q⟩ := h
    unfold t_has_form
    walk_at "sx"
    refine isi_tup hx hp.shows ?_
    walk_at "sx"
    refine ifB (fun h => ?_) (fun h => ?_)
    · obtain ⟨es, rfl⟩ : ∃ es, d = .tup es := by cases d <;> first | exact ⟨_, rfl⟩ | cases h
      obtain ⟨hl, he⟩ := hp.els
      walk_at "sx"
      refine len_R hx (.inr rfl) ?_
      walk_at "sx"
      refine ifB (fun h2 => ?_) (fun h2 => ?_)
      · have h2 : (es.length : Int) = n := of_decide_eq_true h2
        cases es with
        | nil => simp at h2; omega
        | cons e es =>
          obtain ⟨m2, pe⟩ := he e List.mem_cons_self
          walk_at "sx"
          refine ix_R (n := 0) hx (.inr rfl) rfl fun v1 r1 => ?_
          walk_at "sx"
          refine isi_str r1 pe.shows ?_
          walk_at "sx"
          refine ifB (fun h3 => ?_) (fun h3 => ?_)
          · obtain ⟨z, rfl⟩ : ∃ z, e = .str (T z) := by cases e <;> first | exact ⟨_, rfl⟩ | cases h3
            walk_at "sx"
            refine ix_R (n := 0) hx (.inr rfl) rfl fun v2 r2 => ?_
            cases rep_str r2
            walk_at "sx"
            have e1 : hasForm l n (.tup (.str (T z) :: es)) = decide (z = l) := by
              have hl1 : es.length + 1 = n := by simp at h2; omega
              show (decide (es.length + 1 = n) && decide (T z = T l)) = _
              rw [decide_eq_true hl1, Bool.true_and]
              exact dec_congr ⟨fun e => T_inj e, fun e => by rw [e]⟩
            rw [e1] at q
            exact q
          · have e1 : hasForm l n (.tup (e :: es)) = false := by
              cases e <;> first | rfl | cases h3
            rw [e1] at q
            exact q
      · have h2 : ¬ (es.length : Int) = n := of_decide_eq_false h2
        have e1 : hasForm l n (.tup es) = false := by
          cases es with
          | nil => rfl
          | cons e es =>
            cases e <;> first | rfl | (show (decide (es.length + 1 = n) && _) = false; rw [decide_eq_false (by simp at h2; omega)]; rfl)
        rw [e1] at q
        exact q
    · have e1 : hasForm l n d = false := by cases d <;> first | rfl | cases h
      rw [e1] at q
      exact q
def spNext (K : PySem.W.Frag) : Sp := fun vs H Q _ => ∃ (M : Addr → Prop) (I : Hp → Prop) (x : V) (S : List (List Nat)) (t : List Nat) (p : Nat), Wf M I ∧ I H ∧ vs = [x, .str (T t), .int (p : Nat)] ∧ Seeds K M H x S ∧ t.length ≤ 1000 ∧ S.length ≤ 1000 ∧ p ≤ S.length ∧ (∀ s ∈ S, s.length = t.length) ∧ ∀ H', Ex M H H' → I H' → Q (optI (nextBar S t p)) H'
theorem Seeds.ix {M : Addr → Prop} {H : Hp} {x : V} {S : List (List Nat)} {k : Nat} {Q : VK} (h : Seeds K M H x S) (hk : k < S.length) (q : Q (.str (T S[k])) H) : rIx K x (.int (k : Nat)) H Q := by
  obtain ⟨d, h1, h2⟩ := h
  refine ix_R (e := eS S[k]) h1 h2 (by simp [hk]) fun v r => ?_
  cases rep_str r
  exact q
theorem Seeds.len {M : Addr → Prop} {H : Hp} {x : V} {S : List (List Nat)} {Q : VK} (h : Seeds K M H x S) (q : Q (.int (S.length : Nat)) H) : rLen K [x] H Q := by
  obtain ⟨d, h1, h2⟩ := h
  exact len_R h1 h2 (by rw [List.length_map]; exact q)
theorem ok_next_to_bar (B : Bl mg) (G : Df P w K mg base 1 "new_places" ["seed", "told"] [] (spNews K)) (F : At K mg "next_to_bar" s_next_to_bar ["seeds", "told", "passed"] []) : Df P w K mg base 2 "next_to_bar" ["seeds", "told", "passed"] [] (spNext K) := by
  refine F.df sc_next_to_bar (fun vs H Q E h => ?_) (fun f cdv A outer s H vs Q E hr h => ⟨_, w_next_to_bar B G hr, ?_⟩)
  · obtain ⟨M, I, x, S, t, p, _, _, rfl, _⟩ := h
    rfl
  · obtain ⟨M, I, x, S, t, p, hw, hI, rfl, hx, ht, hS0, hp, hS, q⟩ := h
    unfold t_next_to_bar
    walk_at "sx"
    refine hx.len ?_
    walk_at "sx"
    refine ⟨_, _, rfl, by omega, ?_⟩
    have en : ((S.length : Int) - (p : Nat)).toNat = S.length - p := by omega
    rw [en]
    refine for_rng (fun k σ H1 => ∃ u, σ = [some x, some (.str (T t)), some (.int (p : Nat)), u] ∧ I H1 ∧ Ex M H H1 ∧ nextBar S t p = nb S t (S.length - p - k) (p + k))
      ⟨_, rfl, hI, Ex.refl _, rfl⟩ ?_ ?_
    · rintro k σ H1 hk ⟨u, rfl, i1, e1, hn⟩
      have ek : (p : Int) + (k : Nat) = ((p + k : Nat) : Int) := by omega
      have hk2 : p + k < S.length := by omega
      have hsl := hS S[p + k] (List.getElem_mem _)
      rw [ek]
      walk_at "sx"
      refine (hx.ex e1).ix hk2 ?_
      walk_at "sx"
      refine ⟨M, I, _, t, hw, i1, rfl, by omega, by omega, fun y H2 e2 i2 r2 => ?_⟩
      walk_at "sx"
      refine lst_end (K := K) hw i2 .nil (by decide) fun y3 H3 e3 i3 r3 => ?_
      refine ne_L0 (r2.ex e3) r3 (flat_I _) ?_
      walk_at "sx"
      have e0 : ((news S[p + k] t).map eI).isEmpty = (news S[p + k] t).isEmpty := by cases news S[p + k] t <;> rfl
      rw [e0]
      have eg : S.getD (p + k) [] = S[p + k] := by simp [List.getD, hk2]
      have es : S.length - p - k = (S.length - p - (k + 1)) + 1 := by omega
      refine ifB (fun h => ?_) (fun h => ?_)
      · walk_at "sx"
        have en2 : nextBar S t p = some (p + k) := by
          rw [hn, es]
          unfold nb
          rw [eg, if_neg (by simpa using h)]
        rw [en2] at q
        exact q H3 ((e1.trans e2).trans e3) i3
      · walk_at "sx"
        refine ⟨_, rfl, i3, (e1.trans e2).trans e3, ?_⟩
        rw [hn, es]
        conv => lhs; unfold nb
        rw [eg, if_pos (by simpa using h)]
        rfl
    · rintro σ H1 ⟨u, rfl, i1, e1, hn⟩
      walk_at "sx"
      have en2 : nextBar S t p = none := by
        rw [hn, show S.length - p - (S.length - p) = 0 by omega]
        rfl
      rw [en2] at q
      exact q H1 e1 i1
def spTakeH (K : PySem.W.Frag) : Sp := fun vs H Q _ => ∃ M I x S r t v a e m, Wf M I ∧ I H ∧ vs = [x, .str (T r), .str (T t), v] ∧ Seeds K M H x S ∧ Rep K M H v (.tup [a, e]) ∧ Pl m e ∧ r.length ≤ 1000 ∧ t.length = r.length ∧ (∀ s ∈ S, s.length = r.length) ∧ ∀ H', Ex M H H' → I H' → Q (.bl (takeH S r t e)) H'
theorem ok_take_holds (B : Bl mg) (G : Df P w K mg base 2 "can_take" ["seed", "told", "row"] [] (spCan K)) (F : At K mg "take_holds" s_take_holds ["seeds", "row", "told", "line"] []) : Df P w K mg base 3 "take_holds" ["seeds", "row", "told", "line"] [] (spTakeH K) := by
  refine F.df sc_take_holds (fun vs H Q E h => ?_) (fun f cdv A outer s H vs Q E hr h => ⟨_, w_take_holds B G hr, ?_⟩)
  · obtain ⟨M, I, x, S, r, t, v, a, e, m, _, _, rfl, _⟩ := h
    rfl
  · obtain ⟨M, I, x, S, r, t, v, a, e, m, hw, hI, rfl, hx, hv, hp, hr, ht, hS, q⟩ := h
    unfold t_take_holds
    walk_at "sx"
    refine ix_R (n := 1) hv (.inr rfl) rfl fun v1 r1 => ?_
    walk_at "sx"
    refine isi_str r1 hp.shows ?_
    walk_at "sx"
    refine ifB (fun h => ?_) (fun h => ?_)
    · obtain ⟨z, rfl⟩ : ∃ z, e = .str (T z) := by cases e <;> first | exact ⟨_, rfl⟩ | cases h
      cases rep_str r1
      have et : takeH S r t (.str (T z)) = (decide (z ∈ S) && canTake z t r) := rfl
      rw [et] at q
      walk_at "sx"
      obtain ⟨d, hd, hd2⟩ := hx
      refine in_L hd hd2 ?_
      walk_at "sx"
      refine ifB (fun h => ?_) (fun h => ?_)
      · have hz : z ∈ S := of_decide_eq_true h
        have hzl := hS z hz
        walk_at "sx"
        refine ⟨M, I, z, t, r, hw, hI, rfl, by omega, by omega, by omega, fun H1 e1 i1 => ?_⟩
        rw [h, Bool.true_and] at q
        exact q H1 e1 i1
      · rw [h, Bool.false_and] at q
        exact q H (Ex.refl _) hI
    · have et : takeH S r t e = false := by cases e <;> first | rfl | cases h
      rw [et] at q
      exact q H (Ex.refl _) hI
def spBarH (K : PySem.W.Frag) : Sp := fun vs H Q _ => ∃ M I c fr s r t v a e1 e2 m, Wf M I ∧ I H ∧ vs = [c, .str (T s), .str (T r), .str (T t), v] ∧ Cells K M H c fr ∧ Rep K M H v (.tup [a, e1, e2]) ∧ Pl m e1 ∧ Pl m e2 ∧ r.length ≤ 1000 ∧ t.length = r.length ∧ s.length = r.length ∧ fr.length = r.length ∧ ∀ H', Ex M H H' → I H' → Q (.bl (barH fr s r t e1 e2)) H'
theorem ok_bar_holds (B : Bl mg) (G : Df P w K mg base 1 "new_places" ["seed", "told"] [] (spNews K)) (F : At K mg "bar_holds" s_bar_holds ["cells", "seed", "row", "told", "line"] []) : Df P w K mg base 2 "bar_holds" ["cells", "seed", "row", "told", "line"] [] (spBarH K) := by
  refine F.df sc_bar_holds (fun vs H Q E h => ?_) (fun f cdv A outer s H vs Q E hr h => ⟨_, w_bar_holds B G hr, ?_⟩)
  · obtain ⟨M, I, c, fr, s, r, t, v, a, e1, e2, m, _, _, rfl, _⟩ := h
    rfl
  · obtain ⟨M, I, c, fr, s, r, t, v, a, d1, d2, m, hw, hI, rfl, hc, hv, hp1, hp2, hr, ht, hs, hfr, q⟩ := h
    unfold t_bar_holds barH at *
    walk_at "sx"
    refine ix_R (n := 1) hv (.inr rfl) rfl fun v1 r1 => ?_
    walk_at "sx"
    refine isi_str r1 hp1.shows ?_
    walk_at "sx"
    refine ifB (fun h => ?_) (fun h => ?_)
    · have h : isStr d1 = false := by simpa using h
      walk_at "sx"
      rw [h, Bool.false_and] at q
      exact q H (Ex.refl _) hI
    · have h : isStr d1 = true := by simpa using h
      obtain ⟨z1, rfl⟩ : ∃ z, d1 = .str (T z) := by cases d1 <;> first | exact ⟨_, rfl⟩ | cases h
      rw [h, Bool.true_and] at q
      walk_at "sx"
      refine ix_R (n := 2) hv (.inr rfl) rfl fun v2 r2 => ?_
      walk_at "sx"
      refine isi_str r2 hp2.shows ?_
      walk_at "sx"
      refine ifB (fun h => ?_) (fun h => ?_)
      · have h : isStr d2 = false := by simpa using h
        walk_at "sx"
        rw [h, Bool.false_and] at q
        exact q H (Ex.refl _) hI
      · have h : isStr d2 = true := by simpa using h
        obtain ⟨z2, rfl⟩ : ∃ z, d2 = .str (T z) := by cases d2 <;> first | exact ⟨_, rfl⟩ | cases h
        rw [h, Bool.true_and] at q
        walk_at "sx"
        refine ix_R (n := 1) hv (.inr rfl) rfl fun v3 r3 => ?_
        cases rep_str r3
        walk_at "sx"
        have et : txt (.str (T z1)) = z1 := rfl
        rw [et] at q
        refine ifB (fun h => ?_) (fun h => ?_)
        · have h : ¬ z1 = s := by simpa using h
          walk_at "sx"
          rw [decide_eq_false h, Bool.false_and] at q
          exact q H (Ex.refl _) hI
        · have h : z1 = s := by simpa using h
          walk_at "sx"
          rw [decide_eq_true h, Bool.true_and] at q
          refine ix_R (n := 2) hv (.inr rfl) rfl fun v4 r4 => ?_
          cases rep_str r4
          walk_at "sx"
          refine ⟨M, I, s, t, hw, hI, rfl, by omega, by omega, fun y H3 e3 i3 r3 => ?_⟩
          refine lc_srcF (as := news s t) (enc := eI) (fun k => !decide (r[k]? = s[k]?)) (fun k => eS (fr.getD k ([], 0)).1) hw i3 r3 rfl (szOk (by have := news_len s t; omega)) (fun _ => rfl) ?_ ?_ ?_
          · intro L acc2 k2 z v2 H4 hL hz rv2 wf hi ex Qt qt
            cases rep_int rv2
            have hk := news_lt (List.mem_of_getElem? hz)
            have hk2 : z < r.length := by omega
            walk_at "sx"
            refine ix_T (z := r[z]) (by walk_at "sz") (by simp [hk2]) ?_
            walk_at "sx"
            refine ix_T (z := s[z]) (by walk_at "sz") (by simp [hk]) ?_
            walk_at "sx"
            (try rw [dec1])
            rw [at_eq hk2 hk]
            exact qt _ hi (Ex.refl _)
          · intro L acc2 k2 z v2 H4 hL hz _ rv2 wf hi ex Qe qe
            cases rep_int rv2
            have hk := news_lt (List.mem_of_getElem? hz)
            have hkf : z < fr.length := by omega
            walk_at "sx"
            refine Cells.ix (((hc.ex e3).off hL).ex ex) hkf fun v7 r7 => ?_
            walk_at "sx"
            refine ix_R (n := 0) r7 (.inr rfl) rfl fun v8 r8 => ?_
            refine qe _ _ ?_ hi (Ex.refl _)
            rw [show fr.getD z ([], 0) = fr[z] from by simp [List.getD, hkf]]
            exact r8
          · intro y2 H4 r4 e4 i4
            have eu : ((news s t).filter fun k => !decide (r[k]? = s[k]?)) = unlike s t r := rfl
            rw [eu] at r4
            refine in_L (ls := (unlike s t r).map fun k => (fr.getD k ([], 0)).1) r4 (.inl (by rw [List.map_map]; rfl)) ?_
            exact q H4 (e3.trans e4) i4
def spLastH (K : PySem.W.Frag) : Sp := fun vs H Q _ => ∃ (M : Addr → Prop) (I : Hp → Prop) (x : V) (S : List (List Nat)) (r t : List Nat) (p : Nat) (v : V) (d : D) (m : Nat), Wf M I ∧ I H ∧ vs = [x, .str (T r), .str (T t), .int (p : Nat), v] ∧ Seeds K M H x S ∧ Rep K M H v d ∧ Pl m d ∧ r.length ≤ 1000 ∧ t.length = r.length ∧ S.length ≤ 1000 ∧ p ≤ S.length ∧ (∀ s ∈ S, s.length = r.length) ∧ ∀ H', Ex M H H' → I H' → Q (.bl (lastH S r t p d)) H'
theorem opt_non {o : Option Nat} : decide (optI o = .non) = o.isNone := by cases o <;> simp [optI]
theorem ok_last_holds (B : Bl mg) (G1 : Df P w K mg base 1 "has_form" ["line", "word", "many"] [] (spForm K)) (G2 : Df P w K mg base 1 "lot_of" ["row"] [] (spLot K)) (G3 : Df P w K mg base 2 "next_to_bar" ["seeds", "told", "passed"] [] (spNext K)) (F : At K mg "last_holds" s_last_holds ["seeds", "row", "told", "passed", "line"] []) : Df P w K mg base 3 "last_holds" ["seeds", "row", "told", "passed", "line"] [] (spLastH K) := by
  refine F.df sc_last_holds (fun vs H Q E h => ?_) (fun f cdv A outer s H vs Q E hr h => ⟨_, w_last_holds B G1 G2 G3 hr, ?_⟩)
  · obtain ⟨M, I, x, S, r, t, p, v, d, m, _, _, rfl, _⟩ := h
    rfl
  · obtain ⟨M, I, x, S, r, t, p, v, d, m, hw, hI, rfl, hx, hv, hp, hr, ht, hS0, hpS, hS, q⟩ := h
    unfold t_last_holds
    unfold lastH at q
    walk_at "sx"
    refine ⟨M, v, d, m, kMade, 1, rfl, hv, hp, by decide, ?_⟩
    walk_at "sx"
    refine ifB (fun h => ?_) (fun h => ?_)
    · rw [if_pos h] at q
      walk_at "sx"
      have ep : decide ((p : Int) = 0) = decide (p = 0) := dec_congr ⟨fun h => by omega, fun h => by omega⟩
      rw [ep]
      refine ifB (fun h => ?_) (fun h => ?_)
      · walk_at "sx"
        refine ⟨M, I, r, hw, hI, rfl, hr, fun H1 e1 i1 => ?_⟩
        walk_at "sx"
        rw [h, Bool.true_and] at q
        exact q H1 e1 i1
      · rw [h, Bool.false_and] at q
        exact q H (Ex.refl _) hI
    · rw [if_neg (by rw [h]; decide)] at q
      walk_at "sx"
      refine ⟨M, v, d, m, kBarred, 1, rfl, hv, hp, by decide, ?_⟩
      walk_at "sx"
      refine ifB (fun h => ?_) (fun h => ?_)
      · rw [if_pos h] at q
        walk_at "sx"
        refine ⟨M, I, r, hw, hI, rfl, hr, fun H1 e1 i1 => ?_⟩
        walk_at "sx"
        refine ifB (fun h => ?_) (fun h => ?_)
        · walk_at "sx"
          refine ⟨M, I, x, S, t, p, hw, i1, rfl, hx.ex e1, by omega, hS0, hpS, fun s hs => by rw [hS s hs, ht], fun H2 e2 i2 => ?_⟩
          walk_at "sx"
          rw [opt_non]
          rw [h, Bool.true_and] at q
          exact q H2 (e1.trans e2) i2
        · rw [h, Bool.false_and] at q
          exact q H1 e1 i1
      · rw [if_neg (by rw [h]; decide)] at q
        walk_at "sx"
        exact q H (Ex.refl _) hI
end


section
variable {P : Program} {w : World} {K : PySem.W.Frag} {mg : Str → Option Value} {base : Heap}
theorem lt_tup {M : Addr → Prop} {I : Hp → Prop} {Z : VK} {H : Hp} (hw : Wf M I) (hI : I H) (q : ∀ p H2, H2 p = some (.tup [.ty "list", .ty "tuple"]) → Ex M H H2 → I H2 → Z (.ref p) H2) : TupK Z [.ty "list", .ty "tuple"] H := by
  refine ⟨by show 2 ≤ sizeLine; decide, fun p hp => ?_⟩
  have s := same_upd (o := .tup [.ty "list", .ty "tuple"]) hp
  exact q p _ upd_same (Ex.of s) (hw.same s hI)
theorem isi_lt {M : Addr → Prop} {H : Hp} {x : V} {d : D} {p : Addr} {Q : VK} (hp : H p = some (.tup [.ty "list", .ty "tuple"])) (h : Rep K M H x d) (hs : Shows d) (q : Q (.bl (isLst d || isTup d)) H) : rIsiT K [x, .ref p] H Q := by
  obtain ⟨t, ht⟩ := hs
  have tx := tyx_of h ht
  cases ht with
  | non => exact kit_lt hp tx (b1 := false) (b2 := false) (by decide +kernel) (by decide +kernel) q
  | bl b => exact kit_lt hp tx (b1 := false) (b2 := false) (by decide +kernel) (by decide +kernel) q
  | int b => exact kit_lt hp tx (b1 := false) (b2 := false) (by decide +kernel) (by decide +kernel) q
  | str b => exact kit_lt hp tx (b1 := false) (b2 := false) (by decide +kernel) (by decide +kernel) q
  | lst b => exact kit_lt hp tx (b1 := true) (b2 := false) (by decide +kernel) (by decide +kernel) q
  | tup b => exact kit_lt hp tx (b1 := false) (b2 := true) (by decide +kernel) (by decide +kernel) q
  | dct b => exact kit_lt hp tx (b1 := false) (b2 := false) (by decide +kernel) (by decide +kernel) q
theorem seq_of {d : D} (h : (isLst d || isTup d) = true) : ∃ l, d = .lst l ∨ d = .tup l := by
  cases d <;> first | exact ⟨_, .inl rfl⟩ | exact ⟨_, .inr rfl⟩ | cases h
theorem Pl.seq {n : Nat} {d : D} {l : List D} (h : Pl n d) (hd : d = .lst l ∨ d = .tup l) : l.length ≤ 1000 ∧ ∀ e ∈ l, Pl (n - 1) e := by
  rcases hd with rfl | rfl
  · cases h with
    | lst h1 h2 => exact ⟨h1, h2⟩
  · cases h with
    | tup h1 h2 => exact ⟨h1, h2⟩
theorem nb_lt {S : List (List Nat)} {t : List Nat} : ∀ {n p k : Nat}, nb S t n p = some k → p ≤ k ∧ k < p + n
  | 0, p, k, h => by cases h
  | n + 1, p, k, h => by
    unfold nb at h
    split at h
    · have := nb_lt h
      omega
    · cases h; omega
theorem next_lt {S : List (List Nat)} {t : List Nat} {p k : Nat} (h : nextBar S t p = some k) : p ≤ k ∧ k < S.length := by
  have := nb_lt h
  omega
theorem takeH_mem {S : List (List Nat)} {r t : List Nat} {e : D} (h : takeH S r t e = true) : ∃ z, e = .str (T z) ∧ z ∈ S := by
  cases e with
  | str z => exact ⟨z.cps.toList, rfl, of_decide_eq_true (Bool.and_eq_true_iff.mp h).1⟩
  | _ => cases h
theorem lookL_cons {fr : List (List Nat × Nat)} {S : List (List Nat)} {h : D} {ds : List D} : lookL fr S (h :: ds) = if hasForm kRow 2 h && isRowD fr (el 1 h) then lookR fr S (txt (el 1 h)) (ds.length + 1) ds 1 (List.replicate fr.length 46) 0 else .int (0 : Nat) := rfl
def spLook (K : PySem.W.Frag) : Sp := fun vs H Q _ => ∃ (M : Addr → Prop) (I : Hp → Prop) (c x v : V) (fr : List (List Nat × Nat)) (S : List (List Nat)) (d : D) (m : Nat), Wf M I ∧ I H ∧ vs = [c, x, v] ∧ Cells K M H c fr ∧ Seeds K M H x S ∧ Rep K M H v d ∧ Pl m d ∧ fr.length ≤ 1000 ∧ S.length ≤ 1000 ∧ (∀ s ∈ S, s.length = fr.length) ∧ ∀ H', Ex M H H' → I H' → Q (lookF fr S d) H'
theorem ok_look (B : Bl mg) (G1 : Df P w K mg base 2 "bar_holds" ["cells", "seed", "row", "told", "line"] [] (spBarH K)) (G2 : Df P w K mg base 1 "blank" ["many"] [] (spBlank K)) (G3 : Df P w K mg base 1 "has_form" ["line", "word", "many"] [] (spForm K)) (G4 : Df P w K mg base 1 "is_row" ["cells", "value"] [] (spIsRowD K)) (G5 : Df P w K mg base 3 "last_holds" ["seeds", "row", "told", "passed", "line"] [] (spLastH K))
    (G6 : Df P w K mg base 1 "lot_of" ["row"] [] (spLot K)) (G7 : Df P w K mg base 2 "next_to_bar" ["seeds", "told", "passed"] [] (spNext K)) (G8 : Df P w K mg base 3 "take_holds" ["seeds", "row", "told", "line"] [] (spTakeH K)) (G9 : Df P w K mg base 1 "union" ["one", "other"] [] (spUni K))
    (F : At K mg "look" s_look ["cells", "seeds", "paper"] []) : Df P w K mg base 4 "look" ["cells", "seeds", "paper"] [] (spLook K) := by
  refine F.df sc_look (fun vs H Q E h => ?_) (fun f cdv A outer s H vs Q E hr h => ⟨_, w_look B G1 G2 G3 G4 G5 G6 G7 G8 G9 hr, ?_⟩)
  · obtain ⟨M, I, c, x, v, fr, S, d, m, _, _, rfl, _⟩ := h
    rfl
  · obtain ⟨M, I, c, x, v, fr, S, d, m, hw, hI, rfl, hc, hx, hv, hp, hfl, hSl, hS, q⟩ := h
    unfold t_look
    walk_at "sx"
    refine lt_tup hw hI fun p0 H1 hp0 e1 i1 => ?_
    walk_at "sx"
    refine isi_lt hp0 (hv.ex e1) hp.shows ?_
    walk_at "sx"
    refine ifB (fun h => ?_) (fun h => ?_)
    · have h : (isLst d || isTup d) = false := by simpa using h
      walk_at "sx"
      have e : lookF fr S d = .int (0 : Nat) := by cases d <;> first | rfl | cases h
      rw [e] at q
      exact q H1 e1 i1
    have h : (isLst d || isTup d) = true := by rw [Bool.not_eq_false'] at h; exact h
    obtain ⟨l, hd⟩ := seq_of h
    obtain ⟨hl, hpe⟩ := hp.seq hd
    have eF : lookF fr S d = lookL fr S l := by rcases hd with rfl | rfl <;> rfl
    rw [eF] at q
    walk_at "sx"
    refine len_R (hv.ex e1) hd ?_
    walk_at "sx"
    cases l with
    | nil =>
      walk_at "sx"
      exact q H1 e1 i1
    | cons h0 ds =>
    refine ifIsF (by simp; omega) ?_
    have ph0 := hpe h0 List.mem_cons_self
    walk_at "sx"
    refine ix_R (n := 0) (hv.ex e1) hd rfl fun v2 r2 => ?_
    walk_at "sx"
    refine ⟨M, v2, h0, _, kRow, 2, rfl, r2, ph0, by decide, ?_⟩
    walk_at "sx"
    refine ifB (fun h => ?_) (fun h => ?_)
    · have h : hasForm kRow 2 h0 = false := by simpa using h
      walk_at "sx"
      rw [lookL_cons, h, Bool.false_and, if_neg Bool.false_ne_true] at q
      exact q H1 e1 i1
    have hf0 : hasForm kRow 2 h0 = true := by simpa using h
    obtain ⟨l0, rfl, hl0, es0, hes0⟩ := form_el hf0
    obtain ⟨e0, rfl⟩ : ∃ e0, l0 = [.str (T kRow), e0] := by
      subst hes0
      cases es0 with
      | nil => simp at hl0
      | cons e0 es1 => cases es1 with
        | nil => exact ⟨e0, rfl⟩
        | cons _ _ => simp at hl0
    obtain ⟨m0, pe0⟩ : ∃ m0, Pl m0 e0 := ph0.els.2 e0 (by simp)
    walk_at "sx"
    refine ix_R (n := 0) (hv.ex e1) hd rfl fun v3 r3 => ?_
    walk_at "sx"
    refine ix_R (n := 1) r3 (.inr rfl) rfl fun v4 r4 => ?_
    walk_at "sx"
    refine ⟨M, I, c, v4, fr, e0, hw, i1, rfl, hc.ex e1, r4, pe0.shows, fun l e => by subst e; exact pe0.txt, hfl, fun H2 e2 i2 => ?_⟩
    have e02 := e1.trans e2
    walk_at "sx"
    refine ifB (fun h => ?_) (fun h => ?_)
    · have h : isRowD fr e0 = false := by simpa using h
      walk_at "sx"
      have h' : isRowD fr (el 1 (.tup [.str (T kRow), e0])) = false := h
      rw [lookL_cons, hf0, h', Bool.true_and, if_neg Bool.false_ne_true] at q
      exact q H2 e02 i2
    have hrd : isRowD fr e0 = true := by simpa using h
    obtain ⟨r, rfl⟩ : ∃ r, e0 = .str (T r) := by cases e0 <;> first | exact ⟨_, rfl⟩ | cases hrd
    have hrow : isRow fr r = true := hrd
    have hrl := isRow_len hrow
    have eL : lookL fr S (.tup [.str (T kRow), .str (T r)] :: ds) = lookR fr S r (ds.length + 1) ds 1 (List.replicate fr.length 46) 0 := by
      have h' : isRowD fr (el 1 (.tup [.str (T kRow), .str (T r)])) = true := hrow
      rw [lookL_cons, hf0, h', Bool.true_and, if_pos rfl]
      rfl
    rw [eL] at q
    walk_at "sx"
    refine ix_R (n := 0) (hv.ex e02) hd rfl fun v5 r5 => ?_
    walk_at "sx"
    refine ix_R (n := 1) r5 (.inr rfl) rfl fun v6 r6 => ?_
    cases rep_str r6
    walk_at "sx"
    refine (hc.ex e02).len ?_
    walk_at "sx"
    refine ⟨_, rfl, hfl, ?_⟩
    walk_at "sx"
    refine len_R (hv.ex e02) hd ?_
    walk_at "sx"
    refine ⟨_, _, rfl, by omega, ?_⟩
    have en : (((.tup [.str (T kRow), .str (T r)] :: ds : List D).length : Int) - 1).toNat = ds.length := by simp
    rw [en]
    refine for_rng (fun k σ H3 => ∃ t p u6 u7 u8, σ = [some c, some x, some v, some (.str (T r)), some (.str (T t)), some (.int (p : Nat)), u6, u7, u8] ∧ p ≤ S.length ∧ t.length = r.length ∧ I H3 ∧ Ex M H H3 ∧ lookR fr S r (ds.length + 1) ds 1 (List.replicate fr.length 46) 0 = lookR fr S r (ds.length + 1) (ds.drop k) (1 + k) t p)
      ⟨_, 0, _, _, _, rfl, Nat.zero_le _, by simp [hrl], i2, e02, rfl⟩ ?_ ?_
    · rintro k σ H3 hk ⟨t, p, u6, u7, u8, rfl, hpS, htl, i3, e3, hLR⟩
      have hk1 : ds[k]? = some ds[k] := by simp [hk]
      have hdr : ds.drop k = ds[k] :: ds.drop (k + 1) := (List.drop_eq_getElem_cons hk)
      have hmem : ds[k] ∈ (.tup [.str (T kRow), .str (T r)] :: ds : List D) := List.mem_cons_of_mem _ (List.getElem_mem _)
      have pd := hpe _ hmem
      rw [hdr] at hLR
      generalize hdd : ds[k] = dk at *
      have ei : (1 : Int) + (k : Nat) = ((1 + k : Nat) : Int) := by omega
      rw [ei]
      walk_at "sx"
      refine ix_R (n := 1 + k) (e := dk) (hv.ex e3) hd (by rw [show 1 + k = k + 1 by omega, List.getElem?_cons_succ]; exact hk1) fun v9 r9 => ?_
      walk_at "sx"
      refine ⟨M, I, x, S, t, p, hw, i3, rfl, hx.ex e3, by omega, hSl, hpS, fun s hs => by rw [hS s hs]; omega, fun H4 e4 i4 => ?_⟩
      have e04 := e3.trans e4
      have r94 := r9.ex e4
      -- what stands behind the two first tests
      have rest : ∀ H5, Ex M H4 H5 → I H5 → lookR fr S r (ds.length + 1) ds 1 (List.replicate fr.length 46) 0 = lookE S r dk (!(ds.drop (k + 1)).isEmpty) (1 + k) t p → ∀ E : Ends, (∀ v H', Q v H' → E.rt v H') →
          (tIfS (tB (tCall (spLastH K) (([] : List V).drop 0) E0 (tCons (tVar 1) (tCons (tVar 3) (tCons (tVar 4) (tCons (tVar 5) (tCons (tVar 7) tNil))))))) (tRet (tIf (tTest (tOp rLtU (tOp (rAddU K) (tVar 6) (tC (.int 1))) (tCB (rLen K) (tCons (tVar 2) tNil)))) (tOp (rAddU K) (tVar 6) (tC (.int 1))) (tC .non))) (tRet (tVar 6)))
            E [some c, some x, some v, some (.str (T r)), some (.str (T t)), some (.int (p : Nat)), some (.int (1 + k : Nat)), some v9, some (optI (nextBar S t p))] H5 := by
        intro H5 e5 i5 hE E hE2
        rw [hE] at q
        walk_at "sx"
        refine ⟨M, I, x, S, r, t, p, v9, dk, _, hw, i5, rfl, hx.ex (e04.trans e5), r94.ex e5, pd, by omega, by omega, hSl, hpS, fun s hs => by rw [hS s hs]; omega, fun H6 e6 i6 => ?_⟩
        have e06 := (e04.trans e5).trans e6
        unfold lookE at q
        walk_at "sx"
        refine ifB (fun h => ?_) (fun h => ?_)
        · rw [if_pos h] at q
          walk_at "sx"
          refine len_R (hv.ex e06) hd ?_
          walk_at "sx"
          refine ifB (fun h => ?_) (fun h => ?_)
          · have hlt : k + 1 < ds.length := by simp at h; omega
            have hne : (ds.drop (k + 1)).isEmpty = false := by simp; omega
            rw [hne] at q
            walk_at "sx"
            refine hE2 _ _ ?_
            have e : ((1 + k : Nat) : Int) + 1 = ((1 + k + 1 : Nat) : Int) := by omega
            rw [e]
            exact q H6 e06 i6
          · have hge : ds.length ≤ k + 1 := by simp at h; omega
            have hne : (ds.drop (k + 1)).isEmpty = true := by simp; omega
            rw [hne] at q
            walk_at "sx"
            exact hE2 _ _ (q H6 e06 i6)
        · rw [if_neg (by rw [h]; decide)] at q
          walk_at "sx"
          exact hE2 _ _ (q H6 e06 i6)
      -- the second test
      have second : ∀ H5, Ex M H4 H5 → I H5 → (hasForm kTake 2 dk && (decide (p = 0) && takeH S r t (el 1 dk))) = false → ∀ E : Ends, (∀ v H', Q v H' → E.rt v H') → (∀ σ H', (∃ t p u6 u7 u8, σ = [some c, some x, some v, some (.str (T r)), some (.str (T t)), some (.int (p : Nat)), u6, u7, u8] ∧ p ≤ S.length ∧ t.length = r.length ∧ I H' ∧ Ex M H H' ∧ lookR fr S r (ds.length + 1) ds 1 (List.replicate fr.length 46) 0 = lookR fr S r (ds.length + 1) (ds.drop (k + 1)) (1 + (k + 1)) t p) → E.nx σ H') →
          (tIfS (tAnd (tB (tCall (spForm K) (([] : List V).drop 0) E0 (tCons (tVar 7) (tCons (tC (.str (T [98, 97, 114]))) (tCons (tC (.int 3)) tNil))))) (tAnd (tTest (tOp rNotN (tVar 8) (tC .non))) (tB (tCall (spBarH K) (([] : List V).drop 0) E0 (tCons (tVar 0) (tCons (tOp (rIx K) (tVar 1) (tVar 8)) (tCons (tVar 3) (tCons (tVar 4) (tCons (tVar 7) tNil))))))))) (tAsg (tOp (rAddU K) (tVar 8) (tC (.int 1))) (gName 5)) (tIfS (tB (tCall (spLastH K) (([] : List V).drop 0) E0 (tCons (tVar 1) (tCons (tVar 3) (tCons (tVar 4) (tCons (tVar 5) (tCons (tVar 7) tNil))))))) (tRet (tIf (tTest (tOp rLtU (tOp (rAddU K) (tVar 6) (tC (.int 1))) (tCB (rLen K) (tCons (tVar 2) tNil)))) (tOp (rAddU K) (tVar 6) (tC (.int 1))) (tC .non))) (tRet (tVar 6))))
            E [some c, some x, some v, some (.str (T r)), some (.str (T t)), some (.int (p : Nat)), some (.int (1 + k : Nat)), some v9, some (optI (nextBar S t p))] H5 := by
        intro H5 e5 i5 hA E hE2 hN
        conv at hLR => rhs; unfold lookR
        rw [if_neg (by rw [hA]; decide)] at hLR
        have r95 := r94.ex e5
        with_reducible refine sx_ifS ?_
        walk_at "sx"
        refine ⟨M, v9, dk, _, kBar, 3, rfl, r95, pd, by decide, ?_⟩
        walk_at "sx"
        refine ifB (fun h => ?_) (fun h => ?_)
        · have hf := h
          obtain ⟨l3, rfl, hl3, es3, hes3⟩ := form_el hf
          obtain ⟨a1, a2, rfl⟩ : ∃ a1 a2, l3 = [.str (T kBar), a1, a2] := by
            subst hes3
            match es3, hl3 with
            | [a1, a2], _ => exact ⟨a1, a2, rfl⟩
          obtain ⟨m1, pa1⟩ := pd.els.2 a1 (by simp)
          have pa := (pd.seq (.inr rfl)).2
          have pa1 := pa a1 (by simp)
          have pa2 := pa a2 (by simp)
          walk_at "sx"
          cases hnx : nextBar S t p with
          | none =>
            rw [hnx] at hLR
            refine ifIsF (by simp [optI]) ?_
            refine ifIsF rfl ?_
            rw [← hnx]
            exact rest H5 e5 i5 hLR E hE2
          | some j =>
            rw [hnx] at hLR
            have hj := next_lt hnx
            refine ifIsT (by simp [optI]) ?_
            rw [show optI (some j) = V.int ((j : Nat) : Int) from rfl]
            walk_at "sx"
            refine (hx.ex (e04.trans e5)).ix hj.2 ?_
            walk_at "sx"
            have hsj := hS S[j] (List.getElem_mem _)
            refine ⟨M, I, c, fr, S[j], r, t, v9, _, a1, a2, _, hw, i5, rfl, hc.ex (e04.trans e5), r95, pa1, pa2, by omega, by omega, by omega, by omega, fun H6 e6 i6 => ?_⟩
            have eg : S.getD j [] = S[j] := by simp [List.getD, hj.2]
            have hLR2 : lookR fr S r (ds.length + 1) ds 1 (List.replicate fr.length 46) 0 = if barH fr S[j] r t a1 a2 = true then lookR fr S r (ds.length + 1) (ds.drop (k + 1)) (1 + k + 1) t (j + 1) else lookE S r (.tup [.str (T kBar), a1, a2]) (!(ds.drop (k + 1)).isEmpty) (1 + k) t p := by
              rw [hLR]
              simp only [hf, Bool.true_and, eg]
              rfl
            walk_at "sx"
            refine ifB (fun h => ?_) (fun h => ?_)
            · rw [if_pos h] at hLR2
              walk_at "sx"
              refine hN _ _ ⟨t, j + 1, some (.int (1 + k : Nat)), some v9, some (.int (j : Nat)), ?_, by omega, htl, i6, (e04.trans e5).trans e6, hLR2⟩
              have e : ((j : Nat) : Int) + 1 = ((j + 1 : Nat) : Int) := by omega
              rw [e]
              try rfl
            · rw [if_neg (by rw [h]; decide)] at hLR2
              have := rest H6 (e5.trans e6) i6 hLR2 E hE2
              rw [hnx] at this
              exact this
        · refine ifIsF rfl ?_
          refine rest H5 e5 i5 ?_ E hE2
          rw [hLR]
          cases nextBar S t p with
          | none => rfl
          | some j => simp [h]
      walk_at "sx"
      refine ⟨M, v9, dk, _, kTake, 2, rfl, r94, pd, by decide, ?_⟩
      walk_at "sx"
      refine ifB (fun h => ?_) (fun h => ?_)
      · have hf := h
        obtain ⟨l3, rfl, hl3, es3, hes3⟩ := form_el hf
        obtain ⟨a1, rfl⟩ : ∃ a1, l3 = [.str (T kTake), a1] := by
          subst hes3
          match es3, hl3 with
          | [a1], _ => exact ⟨a1, rfl⟩
        have pa1 := (pd.seq (.inr rfl)).2 a1 (by simp)
        walk_at "sx"
        have ep : decide ((p : Int) = 0) = decide (p = 0) := dec_congr ⟨fun h => by omega, fun h => by omega⟩
        rw [ep]
        refine ifB (fun h => ?_) (fun h => ?_)
        · have hp0 := h
          walk_at "sx"
          refine ⟨M, I, x, S, r, t, v9, _, a1, _, hw, i4, rfl, hx.ex e04, r94, pa1, by omega, by omega, fun s hs => by rw [hS s hs]; omega, fun H5 e5 i5 => ?_⟩
          walk_at "sx"
          refine ifB (fun h => ?_) (fun h => ?_)
          · obtain ⟨z, rfl, hz⟩ := takeH_mem h
            have hzl := hS z hz
            walk_at "sx"
            refine ix_R (n := 1) (r94.ex e5) (.inr rfl) rfl fun v10 r10 => ?_
            cases rep_str r10
            walk_at "sx"
            refine ⟨M, I, z, hw, i5, rfl, by omega, fun H6 e6 i6 => ?_⟩
            walk_at "sx"
            refine ⟨M, I, t, _, hw, i6, rfl, by omega, fun H7 e7 i7 => ?_⟩
            walk_at "sx"
            refine ⟨uni t (lot z), p, _, _, _, rfl, hpS, by rw [uni_len (by rw [lot_len]; omega)]; exact htl, i7, ((e04.trans e5).trans e6).trans e7, ?_⟩
            rw [hLR]
            conv => lhs; unfold lookR
            rw [if_pos (by rw [hf, hp0]; exact h)]
            rfl
          · refine second H5 e5 i5 (by rw [hf, hp0]; exact h) _ (fun _ _ h => h) (fun _ _ h => h)
        · refine ifIsF rfl ?_
          exact second H4 (Ex.refl _) i4 (by rw [h]; simp) _ (fun _ _ h => h) (fun _ _ h => h)
      · refine ifIsF rfl ?_
        exact second H4 (Ex.refl _) i4 (by rw [h]; rfl) _ (fun _ _ h => h) (fun _ _ h => h)
    · rintro σ H3 ⟨t, p, u6, u7, u8, rfl, hpS, htl, i3, e3, hLR⟩
      walk_at "sx"
      refine len_R (hv.ex e3) hd ?_
      rw [hLR, List.drop_of_length_le (Nat.le_refl _)] at q
      exact q H3 e3 i3
end


/-! ### == over lines -/
def isS (z : Str) : D → Bool
  | .str y => decide (y = z)
  | _ => false
theorem beq_str (a b : Str) : (a == b) = decide (a = b) := by
  by_cases h : a = b
  · subst h; simp
  · rw [decide_eq_false h]
    exact beq_eq_false_iff_ne.mpr h
theorem eqv_s1 {e : D} {z : Str} : PyData.eqv (pyD e) (.str z) = isS z e := by
  cases e <;> simp [pyD, PyData.eqv, isS, beq_str]
theorem eqv_s2 {e : D} {z : Str} : PyData.eqv (.str z) (pyD e) = isS z e := by
  cases e <;> simp [pyD, PyData.eqv, isS, beq_str]
  exact ⟨fun h => h.symm, fun h => h.symm⟩
theorem form_1 {w : List Nat} {l : List D} : hasForm w 1 (.tup l) = match l with
    | [e] => isS (T w) e
    | _ => false := by
  match l with
  | [] => rfl
  | [e] => cases e <;> simp [hasForm, isS]
  | e :: f :: l => cases e <;> simp [hasForm]
theorem eqv_tt (a b : List PyData) : PyData.eqv (.tuple a) (.tuple b) = PyData.eqvAll a b := by simp only [PyData.eqv]
theorem eqv_cc (x y : PyData) (a b : List PyData) : PyData.eqvAll (x :: a) (y :: b) = (PyData.eqv x y && PyData.eqvAll a b) := by simp only [PyData.eqvAll]
theorem eqv_nn : PyData.eqvAll [] [] = true := by simp only [PyData.eqvAll]
theorem eqv_nc (y : PyData) (b : List PyData) : PyData.eqvAll [] (y :: b) = false := by simp only [PyData.eqvAll]
theorem eqv_cn (y : PyData) (b : List PyData) : PyData.eqvAll (y :: b) [] = false := by simp only [PyData.eqvAll]
theorem eqv_f1 {w : List Nat} {l : List D} : PyData.eqv (pyD (.tup l)) (.tuple [.str (T w)]) = hasForm w 1 (.tup l) := by
  rw [form_1]
  match l with
  | [] => simp only [pyD, pyAll, eqv_tt, eqv_nc]
  | [e] => simp only [pyD, pyAll, eqv_tt, eqv_cc, eqv_nn, Bool.and_true, eqv_s1]
  | e :: f :: l => simp only [pyD, pyAll, eqv_tt, eqv_cc, eqv_cn, Bool.and_false]
theorem eqv_f2 {w : List Nat} {l : List D} : PyData.eqv (.tuple [.str (T w)]) (pyD (.tup l)) = hasForm w 1 (.tup l) := by
  rw [form_1]
  match l with
  | [] => simp only [pyD, pyAll, eqv_tt, eqv_cn]
  | [e] => simp only [pyD, pyAll, eqv_tt, eqv_cc, eqv_nn, Bool.and_true, eqv_s2]
  | e :: f :: l => simp only [pyD, pyAll, eqv_tt, eqv_cc, eqv_nc, Bool.and_false]
theorem any_strs {S : List (List Nat)} {e : D} : ((pyAll (S.map eS)).any fun z => PyData.eqv z (pyD e)) = (isStr e && decide (txt e ∈ S)) := by
  induction S with
  | nil => cases e <;> simp [pyAll, isStr]
  | cons a S ih =>
    simp only [List.map_cons, pyAll, List.any_cons, ih]
    have : PyData.eqv (pyD (eS a)) (pyD e) = (isStr e && decide (txt e = a)) := by
      show PyData.eqv (.str (T a)) (pyD e) = _
      rw [eqv_s2]
      cases e with
      | str z =>
        show decide (z = T a) = decide (z.cps.toList = a)
        exact dec_congr ⟨fun h => by rw [h]; rfl, fun h => by rw [← h]; rfl⟩
      | _ => rfl
    rw [this, Bool.eq_iff_iff]
    cases e with
    | str z =>
      show (decide (z.cps.toList = a) || decide (z.cps.toList ∈ S)) = true ↔ decide (z.cps.toList ∈ a :: S) = true
      rw [Bool.or_eq_true, decide_eq_true_iff, decide_eq_true_iff, decide_eq_true_iff, List.mem_cons]
    | _ => simp [isStr]
theorem eqAll_S {S : List (List Nat)} (h : ∀ s ∈ S, ∀ c ∈ s, c < 128) : ∀ n, eqAll n (S.map eS) = true := by
  intro n
  induction S with
  | nil => simp [eqAll]
  | cons a S ih =>
    have h1 := ok_T (h a List.mem_cons_self)
    simp only [List.map_cons, eqAll, eqOk, h1, Bool.true_and]
    exact ih fun s hs => h s (List.mem_cons_of_mem _ hs)
theorem eqAll_mem {n : Nat} : ∀ {l : List D}, eqAll n l = true → ∀ e ∈ l, eqOk n e = true
  | [], _, e, he => by cases he
  | d :: l, h, e, he => by
    obtain ⟨h1, h2⟩ := Bool.and_eq_true_iff.mp (show (eqOk n d && eqAll n l) = true by simpa [eqAll] using h)
    rcases List.mem_cons.mp he with rfl | he
    · exact h1
    · exact eqAll_mem h2 e he
/-- a line: if it is a tuple, its parts may be compared -/
def LOk (d : D) : Prop := ∀ l, d = .tup l → eqAll 20 l = true
theorem LOk.eqs {l : List D} (h : LOk (.tup l)) : eqOk 21 (.tup l) = true ∧ ∀ e ∈ l, eqOk 20 e = true :=
  ⟨by simpa [eqOk] using h l rfl, eqAll_mem (h l rfl)⟩
theorem gs_quad {K : PySem.W.Frag} {M : Addr → Prop} {σ : L2.St} {H : Hp} {v : V} {a b c d : Nat} {G : L2.St → Hp → Prop} {d1 d2 d3 d4 : D} (h : Rep K M H v (.tup [d1, d2, d3, d4])) (q : ∀ x y z u, Rep K M H x d1 → Rep K M H y d2 → Rep K M H z d3 → Rep K M H u d4 → G ((((σ.set a (some x)).set b (some y)).set c (some z)).set d (some u)) H) : gTup K 4 (gCons (gName a) (gCons (gName b) (gCons (gName c) (gCons (gName d) gNil)))) v σ H G := by
  cases h with
  | tup h n r => cases r with
    | cons r1 r2 => cases r2 with
      | cons r2 r3 => cases r3 with
        | cons r3 r4 => cases r4 with
          | cons r4 r5 =>
            cases r5
            exact ⟨_, _, rfl, SqT.of h, rfl, _, _, rfl, _, _, rfl, _, _, rfl, _, _, rfl, rfl, q _ _ _ _ r1 r2 r3 r4⟩
section
variable {P : Program} {w : World} {K : PySem.W.Frag} {mg : Str → Option Value} {base : Heap}
theorem fresh_emp {n : Nat} {s t : List Nat} (ht : Tm n t) (hs : s.length = n) : (fresh s t).isEmpty = (news s t).isEmpty := by
  have key : ∀ k, k ∈ fresh s t ↔ k ∈ news s t := fun k => by
    rw [fresh_mem ht hs, news_mem]
    constructor
    · rintro ⟨⟨c, h1, h2⟩, h3⟩
      exact ⟨c, h1, h2, h3⟩
    · rintro ⟨c, h1, h2, h3⟩
      exact ⟨⟨c, h1, h2⟩, h3⟩
  cases e1 : fresh s t with
  | nil =>
    cases e2 : news s t with
    | nil => rfl
    | cons k ks =>
      have := (key k).mpr (by rw [e2]; exact List.mem_cons_self)
      rw [e1] at this
      cases this
  | cons k ks =>
    cases e2 : news s t with
    | nil =>
      have := (key k).mp (by rw [e1]; exact List.mem_cons_self)
      rw [e2] at this
      cases this
    | cons _ _ => rfl
theorem nb_filter {S : List (List Nat)} {t : List Nat} : ∀ {n p : Nat}, ((List.range n).filter fun k => !(news (S.getD (p + k) []) t).isEmpty).head?.map (p + ·) = nb S t n p
  | 0, p => rfl
  | n + 1, p => by
    rw [List.range_succ_eq_map, List.filter_cons]
    unfold nb
    by_cases h : (news (S.getD p []) t).isEmpty = true
    · rw [if_neg (by simp only [Nat.add_zero]; rw [h]; decide), if_pos h, ← nb_filter (n := n) (p := p + 1), List.filter_map, List.head?_map, Option.map_map]
      have e1 : (fun k => !(news (S.getD (p + k) []) t).isEmpty) ∘ Nat.succ = fun k => !(news (S.getD (p + 1 + k) []) t).isEmpty := by
        funext k
        simp only [Function.comp, Nat.succ_eq_add_one]
        rw [show p + (k + 1) = p + 1 + k by omega]
      rw [e1]
      congr 1
      funext k
      simp only [Function.comp, Nat.succ_eq_add_one]
      omega
    · rw [if_pos (by simp only [Nat.add_zero]; simpa using h), if_neg h]
      rfl
def spBarNext (K : PySem.W.Frag) : Sp := fun vs H Q _ => ∃ (M : Addr → Prop) (I : Hp → Prop) (x : V) (S : List (List Nat)) (t : List Nat) (p n : Nat), Wf M I ∧ I H ∧ vs = [x, .str (T t), .int (p : Nat)] ∧ Seeds K M H x S ∧ n ≤ 1000 ∧ Tm n t ∧ S.length ≤ 1000 ∧ p ≤ S.length ∧ (∀ s ∈ S, s.length = n) ∧ ∀ H', Ex M H H' → I H' → Q (.int ((nextBar S t p).getD S.length : Nat)) H'
end


section
variable {P : Program} {w : World} {K : PySem.W.Frag} {mg : Str → Option Value} {base : Heap}
theorem ni_ints {M : Addr → Prop} {H : Hp} {y : V} {ns : List Int} {i : Int} {Q : VK} (hy : Rep K M H y (.lst (ns.map .int))) (q : Q (.bl (!decide (i ∈ ns))) H) : rNiU K (.int i) y H Q := by
  cases hy with
  | lst h n r =>
    have e := Reps.scal_inv (f := fun i : Int => V.int i) (fun a v h => rep_int h) r
    subst e
    refine .inr (.inl ⟨_, _, rfl, .inl (SqL.of h), rfl, by simp [List.all_map, flatV], ?_⟩)
    have e : inV (.int i) (ns.map fun i => V.int i) = decide (i ∈ ns) := by
      unfold inV
      rw [Bool.eq_iff_iff]
      simp only [List.any_eq_true, List.mem_map, decide_eq_true_eq]
      constructor
      · rintro ⟨z, ⟨a, ha, rfl⟩, e⟩
        have e2 : a = i := by simpa [eqV] using e
        rw [← e2]; exact ha
      · intro h
        exact ⟨_, ⟨i, h, rfl⟩, by simp [eqV]⟩
    rw [e]
    exact q
def titles (fr : List (List Nat × Nat)) (l : List Nat) : List (List Nat) := l.map fun k => (fr.getD k ([], 0)).1
theorem titles_lt {fr : List (List Nat × Nat)} (hf : FrOk fr) {l : List Nat} (h : ∀ k ∈ l, k < fr.length) : ∀ s ∈ titles fr l, ∀ c ∈ s, c < 128 := by
  intro s hs
  obtain ⟨k, hk, rfl⟩ := List.mem_map.mp hs
  have hl := h k hk
  rw [show fr.getD k ([], 0) = fr[k] from by simp [List.getD, hl]]
  exact (hf _ (List.getElem_mem _)).2.2.lt
def spBarGood (K : PySem.W.Frag) : Sp := fun vs H Q _ => ∃ (M : Addr → Prop) (I : Hp → Prop) (c v : V) (fr : List (List Nat × Nat)) (s r t : List Nat) (e : D) (m n : Nat), Wf M I ∧ I H ∧ vs = [c, .str (T s), .str (T r), .str (T t), v] ∧ Cells K M H c fr ∧ FrOk fr ∧ Rep K M H v e ∧ eqOk m e = true ∧ m ≤ 64 ∧ Tm n t ∧ n ≤ 1000 ∧ s.length = n ∧ r.length = n ∧ fr.length = n ∧ ∀ H', Ex M H H' → I H' → Q (.bl (isStr e && decide (txt e ∈ titles fr (unlike s t r)))) H'
def spv (p : Nat) : Int := if p = 0 then -1 else (p : Int)
theorem spv_lt {p : Nat} : decide (spv p < 0) = decide (p = 0) := by
  unfold spv
  by_cases h : p = 0
  · simp [h]
  · simp [h]
theorem spv_max {p : Nat} : (if spv p > 0 then spv p else 0) = (p : Int) := by
  unfold spv
  by_cases h : p = 0
  · simp [h]
  · simp [h]
def doneV (cl : Bool) (ds : List D) (at_ : Nat) (v : V) : V := if cl then (if ds.isEmpty then .non else .int (at_ : Nat)) else v
theorem takeH_fits {n : Nat} {S : List (List Nat)} {r t : List Nat} {e : D} (ht : Tm n t) (hS : ∀ s ∈ S, s.length = n) : takeH S r t e = (isStr e && (decide (txt e ∈ S) && fits (txt e) r t)) := by
  cases e with
  | str z =>
    show (decide (z.cps.toList ∈ S) && canTake z.cps.toList t r) = (true && (decide (z.cps.toList ∈ S) && fits z.cps.toList r t))
    rw [Bool.true_and]
    by_cases h : z.cps.toList ∈ S
    · have e : canTake z.cps.toList t r = fits z.cps.toList r t := by
        rw [Bool.eq_iff_iff, can_iff, fits_iff ht (hS _ h)]
      rw [e]
    · rw [decide_eq_false h]; rfl
  | _ => rfl
/-- a line that no rule fits -/
theorem lookR_else {fr : List (List Nat × Nat)} {S : List (List Nat)} {r t : List Nat} {N at_ p : Nat} {d : D} {ds : List D} (h1 : (hasForm kTake 2 d && (decide (p = 0) && takeH S r t (el 1 d))) = false) (h2 : ∀ j, nextBar S t p = some j → (hasForm kBar 3 d && barH fr (S.getD j []) r t (el 1 d) (el 2 d)) = false) : lookR fr S r N (d :: ds) at_ t p = lookE S r d (!ds.isEmpty) at_ t p := by
  unfold lookR
  rw [h1, if_neg Bool.false_ne_true]
  cases h : nextBar S t p with
  | none => rfl
  | some j =>
    show (if (hasForm kBar 3 d && barH fr (S.getD j []) r t (el 1 d) (el 2 d)) = true then _ else _) = _
    rw [h2 j h, if_neg Bool.false_ne_true]
theorem form_len {w : List Nat} {n : Nat} {l : List D} (h : l.length ≠ n) : hasForm w n (.tup l) = false := by
  cases l with
  | nil => rfl
  | cons e l => cases e <;> simp [hasForm]; intro h2; simp at h; omega
end


/-! ### right papers, looked over -/
inductive Chain (S : List (List Nat)) (r : List Nat) : List Nat → List (List Nat) → List Nat → Prop
  | nil (t : List Nat) : Chain S r t [] t
  | cons {t s : List Nat} {X : List (List Nat)} {t2 : List Nat} : s ∈ S → canTake s t r = true → Chain S r (uni t (lot s)) X t2 → Chain S r t (s :: X) t2
theorem Chain.snoc {S : List (List Nat)} {r t t2 s : List Nat} {X : List (List Nat)} (h : Chain S r t X t2) (hs : s ∈ S) (hc : canTake s t2 r = true) : Chain S r t (X ++ [s]) (uni t2 (lot s)) := by
  induction h with
  | nil t => exact .cons hs hc (.nil _)
  | cons h1 h2 _ ih => exact .cons h1 h2 (ih hc)
theorem Chain.mem {S : List (List Nat)} {r t t2 : List Nat} {X : List (List Nat)} (h : Chain S r t X t2) : ∀ s ∈ X, s ∈ S := by
  induction h with
  | nil t => intro s h; cases h
  | cons h1 _ _ ih =>
    intro s h
    rcases List.mem_cons.mp h with rfl | h
    · exact h1
    · exact ih s h
theorem Chain.tm {S : List (List Nat)} {r t t2 : List Nat} {X : List (List Nat)} (hS : ∀ s ∈ S, s.length = r.length) (h : Chain S r t X t2) (ht : Tm r.length t) : Tm r.length t2 := by
  induction h with
  | nil t => exact ht
  | cons h1 _ _ ih => exact ih (tm_uni ht (hS _ h1))
theorem chain_takes (S : List (List Nat)) (r : List Nat) : ∀ (n : Nat) (tk : List (List Nat)) (t : List Nat), ∃ X, (takes S r n tk t).1 = tk ++ X ∧ Chain S r t X (takes S r n tk t).2
  | 0, tk, t => ⟨[], by simp [takes], .nil _⟩
  | n + 1, tk, t => by
    unfold takes
    cases e : first S t r with
    | none => exact ⟨[], by simp, .nil _⟩
    | some s =>
      obtain ⟨X, h1, h2⟩ := chain_takes S r n (tk ++ [s]) (uni t (lot s))
      obtain ⟨h3, h4⟩ := first_some e
      exact ⟨s :: X, by rw [h1]; simp, .cons h3 (can_iff.mpr h4) h2⟩
abbrev barE (fr : List (List Nat × Nat)) (s : List Nat) (k : Nat) : D := .tup [eS kBar, eS s, eS (fr.getD k ([], 0)).1]
abbrev takeE (s : List Nat) : D := .tup [eS kTake, eS s]
inductive BarL (fr : List (List Nat × Nat)) (r t : List Nat) : List (List Nat) → List D → Prop
  | nil : BarL fr r t [] []
  | skip {s : List Nat} {S : List (List Nat)} {ds : List D} : unlike s t r = [] → BarL fr r t S ds → BarL fr r t (s :: S) ds
  | put {s : List Nat} {k : Nat} {S : List (List Nat)} {ds : List D} : k ∈ unlike s t r → BarL fr r t S ds → BarL fr r t (s :: S) (barE fr s k :: ds)
theorem BarL.snoc1 {fr : List (List Nat × Nat)} {r t s : List Nat} {S : List (List Nat)} {ds : List D} (h : BarL fr r t S ds) (hu : unlike s t r = []) : BarL fr r t (S ++ [s]) ds := by
  induction h with
  | nil => exact .skip hu .nil
  | skip h1 _ ih => exact .skip h1 ih
  | put h1 _ ih => exact .put h1 ih
theorem BarL.snoc2 {fr : List (List Nat × Nat)} {r t s : List Nat} {S : List (List Nat)} {ds : List D} {k : Nat} (h : BarL fr r t S ds) (hu : k ∈ unlike s t r) : BarL fr r t (S ++ [s]) (ds ++ [barE fr s k]) := by
  induction h with
  | nil => exact .put hu .nil
  | skip h1 _ ih => exact .skip h1 ih
  | put h1 _ ih => exact .put h1 ih
theorem BarL.len {fr : List (List Nat × Nat)} {r t : List Nat} {S : List (List Nat)} {ds : List D} (h : BarL fr r t S ds) : ds.length ≤ S.length := by
  induction h with
  | nil => exact Nat.le_refl _
  | skip h1 _ ih => simp; omega
  | put h1 _ ih => simp; omega
theorem BarL.els {fr : List (List Nat × Nat)} {r t : List Nat} {S : List (List Nat)} {ds : List D} (h : BarL fr r t S ds) : ∀ d ∈ ds, ∃ s k, s ∈ S ∧ k ∈ unlike s t r ∧ d = barE fr s k := by
  induction h with
  | nil => intro d h; cases h
  | skip h1 _ ih =>
    intro d h
    obtain ⟨s, k, h2, h3, h4⟩ := ih d h
    exact ⟨s, k, List.mem_cons_of_mem _ h2, h3, h4⟩
  | put h1 _ ih =>
    intro d h
    rcases List.mem_cons.mp h with rfl | h
    · exact ⟨_, _, List.mem_cons_self, h1, rfl⟩
    · obtain ⟨s, k, h2, h3, h4⟩ := ih d h
      exact ⟨s, k, List.mem_cons_of_mem _ h2, h3, h4⟩
theorem barl_bars (fr : List (List Nat × Nat)) (r t : List Nat) : ∀ S, BarL fr r t S (bars fr S r t)
  | [] => .nil
  | s :: S => by
    unfold bars
    cases e : unlike s t r with
    | nil =>
      rw [List.filterMap_cons_none (by unfold barD; rw [e])]
      exact .skip e (barl_bars fr r t S)
    | cons u us =>
      rw [List.filterMap_cons_some (by unfold barD; rw [e])]
      exact .put (by rw [e]; exact List.mem_cons_self) (barl_bars fr r t S)
theorem look_takes {fr : List (List Nat × Nat)} {S : List (List Nat)} {r t t2 : List Nat} {X : List (List Nat)} {N : Nat} (h : Chain S r t X t2) (rest : List D) : ∀ at_, lookR fr S r N (X.map takeE ++ rest) at_ t 0 = lookR fr S r N rest (at_ + X.length) t2 0 := by
  induction h with
  | nil t => intro at_; rfl
  | @cons t s X t2 h1 h2 _ ih =>
    intro at_
    have e1 : (hasForm kTake 2 (takeE s) && (decide (0 = 0) && takeH S r t (el 1 (takeE s)))) = true := by
      show ((decide (1 + 1 = 2) && decide (T kTake = T kTake)) && (decide (0 = 0) && (decide (s ∈ S) && canTake s t r))) = true
      rw [h2, decide_eq_true h1, decide_eq_true (rfl : T kTake = T kTake)]
      rfl
    rw [List.map_cons, List.cons_append]
    conv => lhs; unfold lookR
    rw [e1, if_pos rfl]
    refine (ih (at_ + 1)).trans ?_
    rw [show at_ + 1 + X.length = at_ + (s :: X).length by simp; omega]
theorem nb_step {S S2 : List (List Nat)} {s t : List Nat} {p : Nat} (h : S.drop p = s :: S2) : nextBar S t p = (if (news s t).isEmpty then nextBar S t (p + 1) else some p) ∧ S.drop (p + 1) = S2 ∧ S.getD p [] = s := by
  have hp : p < S.length := by
    have := congrArg List.length h
    simp at this
    omega
  have e1 := List.drop_eq_getElem_cons hp
  rw [h] at e1
  have e2 : s = S[p] := by injection e1
  have e3 : S2 = S.drop (p + 1) := by injection e1
  have eg : S.getD p [] = s := by rw [e2]; simp [List.getD, hp]
  refine ⟨?_, e3.symm, eg⟩
  have en : S.length - p = (S.length - (p + 1)) + 1 := by omega
  unfold nextBar
  rw [en]
  conv => lhs; unfold nb
  rw [eg]
theorem look_bars {fr : List (List Nat × Nat)} {S : List (List Nat)} {r t : List Nat} {N : Nat} (hst : ∀ s ∈ S, canTake s t r = false) (ht : ¬ t = lot r) {S2 : List (List Nat)} {ds : List D} (h : BarL fr r t S2 ds) : ∀ p p2 at_, nextBar S t p = nextBar S t p2 → S.drop p2 = S2 → lookR fr S r N (ds ++ [.tup [eS kBarred]]) at_ t p = .non := by
  induction h with
  | nil =>
    intro p p2 at_ hn hd
    have hp : S.length ≤ p2 := List.drop_eq_nil_iff.mp hd
    have en : nextBar S t p = none := by
      rw [hn]
      unfold nextBar
      rw [show S.length - p2 = 0 by omega]
      rfl
    show lookR fr S r N [.tup [eS kBarred]] at_ t p = .non
    rw [lookR_else (by rw [form_len (by decide)]; rfl) (fun j _ => by rw [form_len (by decide)]; rfl)]
    unfold lookE lastH
    rw [if_neg (show ¬ hasForm kMade 1 (.tup [eS kBarred]) = true by decide +kernel), if_pos (show hasForm kBarred 1 (.tup [eS kBarred]) = true by decide +kernel), decide_eq_false ht, en]
    rfl
  | @skip s S2 ds hu _ ih =>
    intro p p2 at_ hn hd
    obtain ⟨h1, h2, h3⟩ := nb_step (t := t) hd
    have hs : s ∈ S := by
      have : s ∈ S.drop p2 := by rw [hd]; exact List.mem_cons_self
      exact List.mem_of_mem_drop this
    have he : (news s t).isEmpty = true := by
      have h4 := hst s hs
      unfold canTake at h4
      cases e : (news s t).isEmpty with
      | true => rfl
      | false =>
        rw [e] at h4
        have h5 : ((news s t).all fun k => decide (r[k]? = s[k]?)) = false := by simpa using h4
        have h6 : ((news s t).all fun k => decide (r[k]? = s[k]?)) = true := by
          rw [List.all_eq_true]
          intro k hk
          have h7 := List.filter_eq_nil_iff.mp hu k hk
          simpa using h7
        rw [h6] at h5
        cases h5
    rw [he, if_pos rfl] at h1
    exact ih p (p2 + 1) at_ (hn.trans h1) h2
  | @put s k S2 ds hu _ ih =>
    intro p p2 at_ hn hd
    obtain ⟨h1, h2, h3⟩ := nb_step (t := t) hd
    have he : (news s t).isEmpty = false := by
      have : k ∈ news s t := (List.mem_filter.mp hu).1
      cases e : news s t with
      | nil => rw [e] at this; cases this
      | cons _ _ => rfl
    rw [he, if_neg Bool.false_ne_true] at h1
    rw [List.cons_append]
    conv => lhs; unfold lookR
    rw [show hasForm kTake 2 (barE fr s k) = false from form_len (by simp), Bool.false_and, if_neg Bool.false_ne_true, hn, h1]
    have e1 : (hasForm kBar 3 (barE fr s k) && barH fr (S.getD p2 []) r t (el 1 (barE fr s k)) (el 2 (barE fr s k))) = true := by
      rw [h3]
      show ((decide (2 + 1 = 3) && decide (T kBar = T kBar)) && (true && (true && (decide (s = s) && decide ((fr.getD k ([], 0)).1 ∈ (unlike s t r).map fun k => (fr.getD k ([], 0)).1))))) = true
      rw [decide_eq_true (rfl : T kBar = T kBar), decide_eq_true (rfl : s = s), decide_eq_true (List.mem_map.mpr ⟨k, hu, rfl⟩)]
      rfl
    show (if (hasForm kBar 3 (barE fr s k) && barH fr (S.getD p2 []) r t (el 1 (barE fr s k)) (el 2 (barE fr s k))) = true then lookR fr S r N (ds ++ [.tup [eS kBarred]]) (at_ + 1) t (p2 + 1) else _) = V.non
    rw [e1, if_pos rfl]
    exact ih (p2 + 1) (p2 + 1) (at_ + 1) rfl h2
/-- the end of a right paper -/
def EndL (fr : List (List Nat × Nat)) (S : List (List Nat)) (r t : List Nat) (E : List D) : Prop :=
  (t = lot r ∧ E = [.tup [eS kMade]]) ∨ (¬ t = lot r ∧ (∀ s ∈ S, canTake s t r = false) ∧ ∃ bs, BarL fr r t S bs ∧ E = bs ++ [.tup [eS kBarred]])
def RightP (fr : List (List Nat × Nat)) (S : List (List Nat)) (r : List Nat) (ls : List D) : Prop :=
  ∃ X t E, Chain S r (List.replicate r.length 46) X t ∧ EndL fr S r t E ∧ ls = .tup [eS kRow, eS r] :: (X.map takeE ++ E)
theorem right_look {fr : List (List Nat × Nat)} {S : List (List Nat)} {r : List Nat} {ls : List D} (hr : isRow fr r = true) (h : RightP fr S r ls) : lookL fr S ls = .non := by
  obtain ⟨X, t, E, h1, h2, rfl⟩ := h
  have hl := isRow_len hr
  have e1 : (hasForm kRow 2 (.tup [eS kRow, eS r]) && isRowD fr (el 1 (.tup [eS kRow, eS r]))) = true := by
    show ((decide (1 + 1 = 2) && decide (T kRow = T kRow)) && isRow fr r) = true
    rw [hr, decide_eq_true (rfl : T kRow = T kRow)]
    rfl
  show (if (hasForm kRow 2 (.tup [eS kRow, eS r]) && isRowD fr (el 1 (.tup [eS kRow, eS r]))) = true then lookR fr S (txt (el 1 (.tup [eS kRow, eS r]))) ((X.map takeE ++ E).length + 1) (X.map takeE ++ E) 1 (List.replicate fr.length 46) 0 else _) = V.non
  rw [e1, if_pos rfl]
  have e2 : txt (el 1 (.tup [eS kRow, eS r])) = r := rfl
  rw [e2, ← hl]
  rw [look_takes h1 E 1]
  rcases h2 with ⟨ht, rfl⟩ | ⟨ht, hst, bs, hb, rfl⟩
  · rw [lookR_else (by rw [form_len (by decide)]; rfl) (fun j _ => by rw [form_len (by decide)]; rfl)]
    unfold lookE lastH
    rw [if_pos (show hasForm kMade 1 (.tup [eS kMade]) = true by decide +kernel), decide_eq_true ht]
    rfl
  · exact look_bars hst ht hb 0 0 _ rfl rfl
theorem stuck_no {S : List (List Nat)} {r t : List Nat} (h : Stuck S r t) : ∀ s ∈ S, canTake s t r = false := fun s hs => by
  cases e : canTake s t r with
  | false => rfl
  | true => exact absurd (can_iff.mp e) (h s hs)
theorem right_come {fr : List (List Nat × Nat)} {S : List (List Nat)} {r : List Nat} (hS : ∀ s ∈ S, s.length = r.length) : RightP fr S r (paper fr S r) := by
  obtain ⟨X, h1, h2⟩ := chain_takes S r r.length [] (List.replicate r.length 46)
  refine ⟨X, _, (if (taken S r).2 = lot r then [.tup [eS kMade]] else bars fr S r (taken S r).2 ++ [.tup [eS kBarred]]), h2, ?_, ?_⟩
  · by_cases h : (taken S r).2 = lot r
    · exact .inl ⟨h, if_pos h⟩
    · exact .inr ⟨h, stuck_no (taken_says hS).2, _, barl_bars fr r _ S, if_neg h⟩
  · have e : (taken S r).1 = X := h1
    show [.tup [eS kRow, eS r]] ++ (taken S r).1.map takeE ++ (if (taken S r).2 = lot r then [.tup [eS kMade]] else bars fr S r (taken S r).2 ++ [.tup [eS kBarred]]) = _
    rw [e]
    rfl
theorem right_len {fr : List (List Nat × Nat)} {S : List (List Nat)} {r : List Nat} {ls : List D} {n : Nat} (hX : ∀ X t, Chain S r (List.replicate r.length 46) X t → X.length ≤ n) (h : RightP fr S r ls) : ls.length ≤ n + S.length + 2 := by
  obtain ⟨X, t, E, h1, h2, rfl⟩ := h
  have := hX _ _ h1
  rcases h2 with ⟨_, rfl⟩ | ⟨_, _, bs, hb, rfl⟩
  · simp; omega
  · have := hb.len
    simp; omega
theorem chain_len {S : List (List Nat)} {r t t2 : List Nat} {X : List (List Nat)} (hS : ∀ s ∈ S, s.length = r.length) (h : Chain S r t X t2) (ht : Tm r.length t) : open_ t2 + X.length ≤ open_ t := by
  induction h with
  | nil t => simp
  | @cons t s X t2 h1 h2 _ ih =>
    have := ih (tm_uni ht (hS _ h1))
    have := can_open ht (hS _ h1) (can_iff.mp h2)
    simp only [List.length_cons]
    omega
theorem right_len2 {fr : List (List Nat × Nat)} {S : List (List Nat)} {r : List Nat} {ls : List D} (hS : ∀ s ∈ S, s.length = r.length) (h : RightP fr S r ls) : ls.length ≤ r.length + S.length + 2 :=
  right_len (fun X t hc => by have := chain_len hS hc (tm_rep _); rw [open_rep] at this; omega) h


/-! ### lines and things, as data -/
theorem Pl.up {n : Nat} {d : D} (h : Pl n d) : Pl (n + 1) d := by
  induction h with
  | non n => exact .non _
  | bl n b => exact .bl _ b
  | int n i => exact .int _ i
  | str n h1 h2 => exact .str _ h1 h2
  | lst h1 h2 ih => exact .lst h1 fun e he => ih e he
  | tup h1 h2 ih => exact .tup h1 fun e he => ih e he
  | dct h1 hn h2 ih => exact .dct h1 hn fun kv he => ih kv he
theorem Pl.fit {n : Nat} {d : D} (h : Pl n d) : fit (n + 1) d := by
  induction h with
  | non n => exact fit_sc rfl _
  | bl n b => exact fit_sc rfl _
  | int n i => exact fit_sc rfl _
  | str n h1 h2 => exact fit_sc rfl _
  | lst h1 h2 ih => exact .inr (.inl ⟨_, .inl rfl, by omega, ih⟩)
  | tup h1 h2 ih => exact .inr (.inl ⟨_, .inr rfl, by omega, ih⟩)
  | dct h1 hn h2 ih => exact .inr (.inr ⟨_, rfl, by omega, hn, by omega, ih⟩)
/-- a part of a line: it may be compared -/
def Ev (d : D) : Prop := Pl 1 d ∧ eqOk 20 d = true
inductive Evs : List D → Prop
  | nil : Evs []
  | cons {d : D} {l : List D} : Ev d → Evs l → Evs (d :: l)
theorem Evs.all {l : List D} (h : Evs l) : ∀ e ∈ l, Ev e := by
  induction h with
  | nil => intro e h; cases h
  | cons h1 _ ih =>
    intro e h
    rcases List.mem_cons.mp h with rfl | h
    · exact h1
    · exact ih e h
theorem Evs.eqs {l : List D} (h : Evs l) : ∀ {n}, n = 20 → eqAll n l = true := by
  induction h with
  | nil => intro n hn; simp [eqAll]
  | cons h1 _ ih =>
    intro n hn
    subst hn
    simp only [eqAll, h1.2, ih rfl, Bool.and_self]
/-- a line -/
def Ln (d : D) : Prop := Pl 2 d ∧ LOk d
theorem Ln.t {l : List D} (h : Evs l) (hl : l.length ≤ 1000) : Ln (.tup l) := ⟨.tup hl fun e he => (h.all e he).1, fun l2 e => by cases e; exact h.eqs rfl⟩
theorem Ln.l {l : List D} (h : ∀ e ∈ l, Pl 1 e) (hl : l.length ≤ 1000) : Ln (.lst l) := ⟨.lst hl h, fun l2 e => by cases e⟩
theorem Evs.pl {l : List D} (h : Evs l) : ∀ e ∈ l, Pl 1 e := fun e he => (h.all e he).1
theorem ev_s {s : List Nat} (hl : s.length ≤ 1000) (h : ∀ c ∈ s, c < 128) : Ev (.str (T s)) := ⟨.str _ hl h, by simp only [eqOk]; exact ok_T h⟩
theorem ev_n : Ev .non := ⟨.non _, by simp [eqOk]⟩
theorem ev_b {b : Bool} : Ev (.bl b) := ⟨.bl _ _, by simp [eqOk]⟩
theorem ev_l {s : List Nat} (hl : s.length ≤ 1000) (h : ∀ c ∈ s, c < 128) : Ev (.lst [.str (T s)]) :=
  ⟨.lst (by simp) fun e he => by rw [List.mem_singleton.mp he]; exact .str _ hl h, by simp only [eqOk, eqAll, ok_T h, Bool.and_self]⟩
theorem all_nil {α : Type} {P : α → Prop} : ∀ e ∈ ([] : List α), P e := fun e h => by cases h
theorem all_cons {α : Type} {P : α → Prop} {a : α} {l : List α} (h : P a) (h2 : ∀ e ∈ l, P e) : ∀ e ∈ a :: l, P e := fun e he => by
  rcases List.mem_cons.mp he with rfl | he
  · exact h
  · exact h2 e he
/-- a thing that look and judge may be asked -/
def Th (d : D) : Prop := Pl 4 d ∧ ∀ l, (d = .lst l ∨ d = .tup l) → ∀ e ∈ l, LOk e
theorem lok_sc {d : D} (h : ∀ l, d ≠ .tup l) : LOk d := fun l e => absurd e (h l)
theorem Ln.th {d : D} (h : Ln d) (hs : ∀ l, (d = .lst l ∨ d = .tup l) → ∀ e ∈ l, ∀ l2, e ≠ .tup l2) : Th d :=
  ⟨h.1.up.up, fun l e a ha => lok_sc (hs l e a ha)⟩
theorem th_sc {d : D} (h : Pl 4 d) (hs : ∀ l, d ≠ .lst l ∧ d ≠ .tup l) : Th d := ⟨h, fun l e => by rcases e with e | e; exact absurd e (hs l).1; exact absurd e (hs l).2⟩
theorem th_l {ls : List D} (h : ∀ e ∈ ls, Ln e) (hl : ls.length ≤ 1000) : Th (.lst ls) := ⟨.lst hl fun e he => (h e he).1.up, fun l e a ha => by
  rcases e with e | e
  · cases e; exact (h a ha).2
  · cases e⟩
theorem th_ll {ls : List D} (h : ∀ e ∈ ls, Ln e) (hl : ls.length ≤ 1000) : Th (.lst [.lst ls]) := ⟨.lst (by simp) fun e he => by
    rw [List.mem_singleton.mp he]
    exact .lst hl fun e he => (h e he).1, fun l e a ha => by
  rcases e with e | e
  · cases e
    rw [List.mem_singleton.mp ha]
    exact lok_sc fun l e => by cases e
  · cases e⟩
theorem th_t {l : List D} (h : Evs l) (hl : l.length ≤ 1000) (hs : ∀ e ∈ l, ∀ l2, e ≠ .tup l2) : Th (.tup l) := (Ln.t h hl).th fun l2 e a ha => by
  rcases e with e | e
  · cases e
  · cases e; exact hs a ha
/-- what the loop ahead leaves -/
theorem seq_join {a b : TS} {E : Ends} {σ : L2.St} {H : Hp} (P : L2.St → Hp → Prop) (h1 : ∀ nx : L2.St → Hp → Prop, (∀ σ H, P σ H → nx σ H) → a { E with nx := nx } σ H) (h2 : ∀ σ H, P σ H → b E σ H) : tSeq a b E σ H := h1 (b E) h2
def LstM (Q : VK) : List V → Hp → Prop := LstK Q
theorem sx_lstm {a : TA} {σ : L2.St} {H : Hp} {Q : VK} (h : a σ H (LstM Q)) : tLst a σ H Q := h
def TupM (Q : VK) : List V → Hp → Prop := TupK Q
theorem sx_tupm {a : TA} {σ : L2.St} {H : Hp} {Q : VK} (h : a σ H (TupM Q)) : tTup a σ H Q := h
theorem lst_S {K : PySem.W.Frag} {M : Addr → Prop} {H : Hp} {p : Addr} {S : List (List Nat)} (h : Rep K M H (.ref p) (.lst (S.map eS))) : ¬ M p ∧ H p = some (.lst (S.map fun l => V.str (T l))) := by
  cases h with
  | lst h n r =>
    have e := Reps.scal_inv (f := fun l : List Nat => V.str (T l)) (fun a v h => rep_str h) r
    subst e
    exact ⟨n, h⟩
section
variable {P : Program} {w : World} {K : PySem.W.Frag} {mg : Str → Option Value} {base : Heap}
def spOdd (K : PySem.W.Frag) : Sp := fun vs H Q _ => ∃ (M : Addr → Prop) (I : Hp → Prop) (b : Addr) (x : V) (ds : List D), Wf M I ∧ I H ∧ HasBag M I b ∧ vs = [.ref b, x] ∧ Rep K M H x (.lst ds) ∧ ds.length ≤ 100 ∧ (∀ d ∈ ds, Th d) ∧ ∀ v e H', Th e → Rep K M H' v e → Ex M H H' → I H' → Q v H'
end


theorem tm_lot (r : List Nat) : Tm r.length (lot r) := ⟨lot_len r, fun c hc => by
  obtain ⟨d, _, rfl⟩ := List.mem_map.mp hc
  by_cases h : d = 46
  · exact .inl (if_pos h)
  · exact .inr (if_neg h)⟩
/-! ### the rows that seeds make -/
inductive Cl (S : List (List Nat)) (n : Nat) : List Nat → Prop
  | base : Cl S n (List.replicate n 46)
  | step {s r : List Nat} : s ∈ S → Cl S n r → Cl S n (lay s r)
section
variable {S S2 : List (List Nat)} {n : Nat} {r t u : List Nat}
theorem Cl.len (hS : ∀ s ∈ S, s.length = n) (h : Cl S n r) : r.length = n := by
  induction h with
  | base => simp
  | @step s r hs _ ih => rw [lay_len (by rw [ih, hS s hs]), hS s hs]
theorem Cl.mono (h0 : ∀ s ∈ S, s ∈ S2) (h : Cl S n r) : Cl S2 n r := by
  induction h with
  | base => exact .base
  | step hs _ ih => exact .step (h0 _ hs) ih
theorem cl_fold (X : List (List Nat)) (h : ∀ s ∈ X, s ∈ S) : Cl S n (X.foldr lay (List.replicate n 46)) := by
  induction X with
  | nil => exact .base
  | cons a X ih => exact .step (h a List.mem_cons_self) (ih fun s hs => h s (List.mem_cons_of_mem _ hs))
theorem lay_blank : ∀ {s : List Nat}, lay s (List.replicate s.length 46) = s
  | [] => rfl
  | c :: s => by
    have ih := lay_blank (s := s)
    unfold lay at ih ⊢
    rw [List.length_cons, List.replicate_succ, List.zip_cons_cons, List.map_cons, ih]
    by_cases h : c = 46
    · subst h; simp
    · simp [h]
theorem cl_self (hS : ∀ s ∈ S, s.length = n) {s : List Nat} (hs : s ∈ S) : Cl S n s := by
  have h := Cl.step hs (Cl.base (S := S) (n := n))
  rw [← hS s hs, lay_blank, hS s hs] at h
  exact h
theorem Gr.lotr (hS : ∀ s ∈ S, s.length = r.length) (h : Gr S r t) : ∀ k, On t k → Mk r k := by
  induction h with
  | base => intro k hk; exact absurd hk on_rep
  | @step t s hg hs hc ih =>
    intro k hk
    by_cases ho : On t k
    · exact ih k ho
    · rcases (on_uni (Gr.tm hS hg) (hS s hs)).mp hk with z | z
      · exact ih k z
      · have e := hc.2 k z ho
        obtain ⟨c, h1, h2⟩ := z
        exact ⟨c, by rw [e, h1], h2⟩
theorem on_lot (k : Nat) : On (lot r) k ↔ Mk r k := by
  unfold On Mk
  constructor
  · intro h
    have hk := (List.getElem?_eq_some_iff.mp h).1
    rw [lot_len] at hk
    obtain ⟨c, hc⟩ := get_some hk
    refine ⟨c, hc, fun e => ?_⟩
    rw [lot_get hc, if_pos e] at h
    cases h
  · rintro ⟨c, hc, h⟩
    rw [lot_get hc, if_neg h]
theorem cl_under {L : List Nat} (hr : r.length = n) (hS : ∀ s ∈ S, s.length = n) (hT : Tm n L) (st : Stuck S r L) (h : Cl S n u) : (∀ k, ¬ On L k → Mk u k → r[k]? = u[k]?) → ∀ k, Mk u k → On L k := by
  induction h with
  | base =>
    rintro _ k ⟨c, h1, h2⟩
    exact absurd (List.eq_of_mem_replicate (List.mem_of_getElem? h1)) h2
  | @step s v hs hv ih =>
    intro hy
    have hsl := hS s hs
    have hvl := hv.len hS
    have hin : ∀ k, Mk s k → On L k := by
      intro k hk
      by_cases ho : On L k
      · exact ho
      · refine absurd ⟨⟨k, hk, ho⟩, fun j hj hoj => ?_⟩ (st s hs)
        obtain ⟨c, h1, h2⟩ := hj
        have hjl := (List.getElem?_eq_some_iff.mp h1).1
        obtain ⟨d, h3⟩ := get_some (t := v) (k := j) (by omega)
        have e : (lay s v)[j]? = some c := by rw [lay_get h1 h3, if_neg h2]
        rw [hy j hoj ⟨c, e, h2⟩, e, h1]
    have ih2 := ih fun k ho hk => by
      obtain ⟨d, h3, h4⟩ := hk
      have hkl := (List.getElem?_eq_some_iff.mp h3).1
      obtain ⟨c, h1⟩ := get_some (t := s) (k := k) (by omega)
      have hc : c = 46 := by
        by_cases h : c = 46
        · exact h
        · exact absurd (hin k ⟨c, h1, h⟩) ho
      have e : (lay s v)[k]? = some d := by rw [lay_get h1 h3, if_pos hc]
      rw [hy k ho ⟨d, e, h4⟩, e, h3]
    rintro k ⟨x, h1, h2⟩
    have hkl := (List.getElem?_eq_some_iff.mp h1).1
    rw [lay_len (by omega)] at hkl
    obtain ⟨c, h3⟩ := get_some (t := s) (k := k) (by omega)
    obtain ⟨d, h4⟩ := get_some (t := v) (k := k) (by omega)
    rw [lay_get h3 h4] at h1
    by_cases h : c = 46
    · rw [if_pos h] at h1
      cases h1
      exact ih2 k ⟨_, h4, h2⟩
    · exact hin k ⟨c, h3, h⟩
/-- a row is made exactly if seeds laid over one another give it -/
theorem made_iff (hS : ∀ s ∈ S, s.length = r.length) : (taken S r).2 = lot r ↔ Cl S r.length r := by
  constructor
  · intro h
    have e := lays_made hS h
    rw [← e]
    have : (List.foldr lay (List.replicate r.length 46) (taken S r).1).length = r.length := by rw [e]
    rw [this]
    exact cl_fold _ (taken_mem hS)
  · intro h
    obtain ⟨sy, st⟩ := taken_says hS
    have tm := sy.gr.tm hS
    refine tm_ext tm (tm_lot r) fun k => ?_
    rw [on_lot]
    exact ⟨Gr.lotr hS sy.gr k, cl_under rfl hS tm st h (fun _ _ _ => rfl) k⟩
/-- the end of makes -/
theorem makes_end (hS : ∀ s ∈ S, s.length = r.length) (hg : Gr S r t) (h : t = lot r ∨ Stuck S r t) : decide (t = lot r) = decide ((taken S r).2 = lot r) := by
  obtain ⟨sy, st⟩ := taken_says hS
  rcases h with h | h
  · have e : (taken S r).2 = lot r := by
      refine tm_ext (sy.gr.tm hS) (tm_lot r) fun k => ?_
      rw [on_lot]
      refine ⟨Gr.lotr hS sy.gr k, fun hk => ?_⟩
      have := hg.under hS (fun s hs => hs) st k (by rw [h, on_lot]; exact hk)
      exact this
    rw [decide_eq_true h, decide_eq_true e]
  · rw [gr_one hS (fun _ => Iff.rfl) hg sy.gr h st]
end
abbrev madeB (S : List (List Nat)) (r : List Nat) : Bool := decide ((taken S r).2 = lot r)
theorem lay_assoc : ∀ {s u b : List Nat}, s.length = u.length → b.length = u.length → lay (lay s u) b = lay s (lay u b)
  | [], [], [], _, _ => rfl
  | [], _ :: _, _, h, _ => by simp at h
  | _ :: _, [], _, h, _ => by simp at h
  | [], [], _ :: _, _, h => by simp at h
  | _ :: _, _ :: _, [], _, h => by simp at h
  | c :: s, d :: u, e :: b, h1, h2 => by
    have ih := lay_assoc (s := s) (u := u) (b := b) (by simpa using h1) (by simpa using h2)
    have e1 : ∀ (a : Nat) (x : List Nat) (a2 : Nat) (x2 : List Nat), lay (a :: x) (a2 :: x2) = (if a = 46 then a2 else a) :: lay x x2 := fun _ _ _ _ => rfl
    rw [e1, e1, e1, e1, ih]
    congr 1
    by_cases hc : c = 46
    · simp [hc]
    · simp [hc]
theorem cl_lay {S : List (List Nat)} {n : Nat} (hS : ∀ s ∈ S, s.length = n) {a b : List Nat} (ha : Cl S n a) (hb : Cl S n b) : Cl S n (lay a b) := by
  induction ha with
  | base =>
    have hl := hb.len hS
    have : lay (List.replicate n 46) b = b := by
      have key : ∀ (n : Nat) (b : List Nat), b.length = n → lay (List.replicate n 46) b = b := by
        intro n
        induction n with
        | zero => intro b h; rw [List.length_eq_zero_iff.mp h]; rfl
        | succ n ih =>
          intro b h
          cases b with
          | nil => simp at h
          | cons c b =>
            have e1 : lay (List.replicate (n + 1) 46) (c :: b) = (if 46 = 46 then c else 46) :: lay (List.replicate n 46) b := rfl
            rw [e1, if_pos rfl, ih b (by simpa using h)]
      exact key n b hl
    rw [this]
    exact hb
  | @step s u hs hu ih =>
    rw [lay_assoc (by rw [hS s hs, hu.len hS]) (by rw [hb.len hS, hu.len hS])]
    exact .step hs ih
theorem fit_S (l : List (List Nat)) (h : l.length ≤ 100000) (n : Nat) : fit (n + 1) (.lst (l.map eS)) ∧ fit (n + 1) (.tup (l.map eS)) := by
  have hel : ∀ e ∈ l.map eS, fit n e := fun e he => by
    obtain ⟨s, _, rfl⟩ := List.mem_map.mp he
    exact fit_sc rfl _
  exact ⟨.inr (.inl ⟨_, .inl rfl, by simpa using h, hel⟩), .inr (.inl ⟨_, .inr rfl, by simpa using h, hel⟩)⟩
theorem lay_row {fr : List (List Nat × Nat)} {s l : List Nat} (hs : isRow fr s = true) (hl : isRow fr l = true) : isRow fr (lay s l) = true := by
  obtain ⟨h1, h2⟩ := isRow_iff.mp hs
  obtain ⟨h3, h4⟩ := isRow_iff.mp hl
  have hlen : (lay s l).length = fr.length := by rw [lay_len (by omega)]; exact h1
  refine isRow_iff.mpr ⟨hlen, fun k c p hc hp => ?_⟩
  have hk := (List.getElem?_eq_some_iff.mp hp).1
  obtain ⟨a, ha⟩ := get_some (t := s) (k := k) (by omega)
  obtain ⟨b, hb⟩ := get_some (t := l) (k := k) (by omega)
  rw [lay_get ha hb] at hc
  by_cases e : a = 46
  · rw [if_pos e] at hc
    cases hc
    exact h4 k _ p hb hp
  · rw [if_neg e] at hc
    cases hc
    exact h2 k _ p ha hp
theorem blank_row {fr : List (List Nat × Nat)} : isRow fr (List.replicate fr.length 46) = true := by
  refine isRow_iff.mpr ⟨by simp, fun k c p hc hp => ?_⟩
  have := List.eq_of_mem_replicate (List.mem_of_getElem? hc)
  rw [this]
  exact sgs_dot _
def unS : D → List Nat
  | .str z => z.cps.toList
  | _ => []
theorem un_map (l : List (List Nat)) : (l.map eS).map unS = l := by
  rw [List.map_map]
  conv => rhs; rw [← List.map_id l]
  rfl
theorem perm_map {es : List D} {S : List (List Nat)} (h : es.Perm (S.map eS)) : ∃ o : List (List Nat), es = o.map eS ∧ o.Perm S := by
  refine ⟨es.map unS, ?_, by have := h.map unS; rw [un_map] at this; exact this⟩
  have hm : ∀ d ∈ es, eS (unS d) = d := by
    intro d hd
    obtain ⟨s, _, rfl⟩ := List.mem_map.mp (h.mem_iff.mp hd)
    rfl
  rw [List.map_map]
  conv => lhs; rw [← List.map_id es]
  refine List.map_congr_left fun d hd => (hm d hd).symm
def spLaw (K : PySem.W.Frag) : Sp := fun vs H Q _ => ∃ (a : Addr) (ns : List Int), vs = [.ref a] ∧ SqL K H a (ns.map V.int) ∧ ns.length ≤ 63 ∧ ∀ H', Q (.bl true) H'


/-! ### rows, plain -/
def inB (x y : List Nat) : Bool := (x.zip y).all fun p => decide (p.1 = 46) || decide (p.2 = 43)
def agB (x y : List Nat) : Bool := (x.zip y).all fun p => decide (p.1 = 46) || decide (p.2 = 46) || decide (p.1 = p.2)
def cutF (l ks : List Nat) : List Nat := ks.map fun k => l.getD k 46
def laidF : List (List Nat) → List Nat
  | [] => []
  | r :: rs => rs.foldl (fun a r => lay r a) r
/-- a lot -/
def LotS (l : List Nat) : Prop := ∀ c ∈ l, c = 46 ∨ c = 43
theorem lotS_lot (l : List Nat) : LotS (lot l) := fun c hc => by
  obtain ⟨d, _, rfl⟩ := List.mem_map.mp hc
  split
  · exact .inl rfl
  · exact .inr rfl
theorem lotS_uni (l m : List Nat) : LotS (uni l m) := fun c hc => by
  obtain ⟨d, _, rfl⟩ := List.mem_map.mp hc
  split
  · exact .inr rfl
  · exact .inl rfl
theorem LotS.lt {l : List Nat} (h : LotS l) : ∀ c ∈ l, c < 128 := fun c hc => by
  rcases h c hc with rfl | rfl <;> decide
theorem all_zip {x y : List Nat} {f : Nat × Nat → Bool} (hl : x.length = y.length) : (x.zip y).all f = ((List.range x.length).filter fun k => !f (x.getD k 46, y.getD k 46)).isEmpty := by
  rw [Bool.eq_iff_iff, List.all_eq_true]
  constructor
  · intro h
    rw [List.isEmpty_iff, List.filter_eq_nil_iff]
    intro k hk
    have hk := List.mem_range.mp hk
    have h2 : k < y.length := by omega
    have := h (x[k], y[k]) (List.mem_iff_getElem?.mpr ⟨k, by rw [List.getElem?_zip_eq_some]; exact ⟨by simp [hk], by simp [h2]⟩⟩)
    simp [List.getD_eq_getElem?_getD, hk, h2, this]
  · intro h p hp
    rw [List.isEmpty_iff, List.filter_eq_nil_iff] at h
    obtain ⟨k, hk⟩ := List.mem_iff_getElem?.mp hp
    rw [List.getElem?_zip_eq_some] at hk
    have hk1 := (List.getElem?_eq_some_iff.mp hk.1).1
    have := h k (List.mem_range.mpr hk1)
    simpa [List.getD_eq_getElem?_getD, hk.1, hk.2] using this
section
variable {P : Program} {w : World} {K : PySem.W.Frag} {mg : Str → Option Value} {base : Heap}
theorem ok_over (B : Bl mg) (F : At K mg "over" s_over ["newer", "older"] []) : Df P w K mg base 1 "over" ["newer", "older"] [] (spLay K) := by
  refine F.df sc_over (fun vs H Q E h => ?_) (fun f cdv A outer s H vs Q E hr h => ⟨_, w_over B hr, ?_⟩)
  · obtain ⟨M, I, l, m, _, _, rfl, _⟩ := h
    rfl
  · obtain ⟨M, I, l, m, hw, hI, rfl, hl, q⟩ := h
    unfold t_over
    walk_at "sx"
    refine lc_zipM (as := l) (bs := m) (enc := H08.e1) (enc2 := H08.e1) (fun p => .str (T [if p.1 = 46 then p.2 else p.1])) hw hI (.str _) rfl (.str _) rfl (by walk_at "sz") (fun _ _ => rfl) ?_ ?_
    · intro L acc k a b v u H hL ha hb rv rw wf hi ex Qe q
      cases rep_str rv
      cases rep_str rw
      walk_at "sx"
      refine ifB (fun h => ?_) (fun h => ?_) <;> walk_at "sx"
      · exact q _ _ (by simp at h; simp [h]; exact .str _) hi (Ex.refl _)
      · exact q _ _ (by simp at h; simp [h]; exact .str _) hi (Ex.refl _)
    · intro y H' rp ex hi
      walk_at "sx"
      exact join_1 _ rp (by simp; omega) (q _ ex hi)
def spLaid (K : PySem.W.Frag) : Sp := fun vs H Q _ => ∃ (M : Addr → Prop) (I : Hp → Prop) (x : V) (d : D) (S : List (List Nat)), Wf M I ∧ I H ∧ vs = [x] ∧ Rep K M H x d ∧ (d = .lst (S.map eS) ∨ d = .tup (S.map eS)) ∧ S ≠ [] ∧ S.length ≤ 1000 ∧ (∀ s ∈ S, s.length ≤ 1000) ∧ ∀ H', Ex M H H' → I H' → Q (.str (T (laidF S))) H'
theorem sl_E1 {M : Addr → Prop} {I : Hp → Prop} {H : Hp} {x : V} {d : D} {ds : List D} {n : Nat} {Q : VK} (hw : Wf M I) (hI : I H) (hx : Rep K M H x d) (hd : d = .lst ds ∨ d = .tup ds) (q : ∀ v d2 H', Ex M H H' → I H' → Rep K M H' v d2 → (d2 = .lst (ds.drop n) ∨ d2 = .tup (ds.drop n)) → Q v H') : rSlU K x (some (n : Nat)) none H Q := by
  rcases hd with rfl | rfl
  · exact sl_Lfrom hw hI hx fun v H' e i r => q v _ H' e i r (.inl rfl)
  · cases hx with
    | tup h n1 r =>
      refine .inr (.inl ⟨_, _, rfl, SqT.of h, fun hc => ?_, fun hc p hp => ?_⟩)
      · have e : ds.drop n = ds := by
          have h1 := hc.1
          rw [HT.sIx_nat, r.length] at h1
          by_cases hn : n = 0
          · rw [hn]; rfl
          · rw [List.length_eq_zero_iff.mp (show ds.length = 0 by omega)]; simp
        exact q _ (.tup ds) H (Ex.refl _) hI (.tup h n1 r) (.inr (by rw [e]))
      · rw [cut_from]
        exact q _ _ _ (Ex.of (same_upd hp)) (hw.same (same_upd hp) hI) (.tup upd_same (hw.fresh hI hp) ((r.drop n).same (same_upd hp))) (.inr rfl)
def spIn (K : PySem.W.Frag) : Sp := fun vs H Q _ => ∃ M I l m, Wf M I ∧ I H ∧ vs = [.str (T l), .str (T m)] ∧ l.length = m.length ∧ LotS l ∧ LotS m ∧ l.length ≤ 1000 ∧ ∀ H', Ex M H H' → I H' → Q (.bl (inB l m)) H'
theorem not_in {l m : List Nat} (h1 : LotS l) (h2 : LotS m) {k : Nat} (hl : k < l.length) (hm : k < m.length) : (!(decide (l.getD k 46 = 46) || decide (m.getD k 46 = 43))) = (decide (l[k] = 43) && decide (m[k] = 46)) := by
  rw [List.getD_eq_getElem?_getD, List.getD_eq_getElem?_getD, List.getElem?_eq_getElem hl, List.getElem?_eq_getElem hm]
  simp only [Option.getD_some]
  rcases h1 _ (List.getElem_mem hl) with e | e <;> rcases h2 _ (List.getElem_mem hm) with e2 | e2 <;> rw [e, e2] <;> rfl
def spAg (K : PySem.W.Frag) : Sp := fun vs H Q _ => ∃ M I l m, Wf M I ∧ I H ∧ vs = [.str (T l), .str (T m)] ∧ l.length = m.length ∧ l.length ≤ 1000 ∧ ∀ H', Ex M H H' → I H' → Q (.bl (agB l m)) H'
theorem not_ag {l m : List Nat} {k : Nat} (hl : k < l.length) (hm : k < m.length) : (!(decide (l.getD k 46 = 46) || decide (m.getD k 46 = 46) || decide (l.getD k 46 = m.getD k 46))) = ((!decide (l[k] = 46)) && ((!decide (m[k] = 46)) && (!decide (l[k] = m[k])))) := by
  rw [List.getD_eq_getElem?_getD, List.getD_eq_getElem?_getD, List.getElem?_eq_getElem hl, List.getElem?_eq_getElem hm]
  simp only [Option.getD_some, Bool.not_or, Bool.and_assoc]
def spCut (K : PySem.W.Frag) : Sp := fun vs H Q _ => ∃ (M : Addr → Prop) (I : Hp → Prop) (l : List Nat) (x : V) (d : D) (ks : List Nat), Wf M I ∧ I H ∧ vs = [.str (T l), x] ∧ Rep K M H x d ∧ (d = .lst (ks.map eI) ∨ d = .tup (ks.map eI)) ∧ ks.length ≤ 1000 ∧ l.length ≤ 1000 ∧ (∀ k ∈ ks, k < l.length) ∧ ∀ H', Ex M H H' → I H' → Q (.str (T (cutF l ks))) H'
end


/-! ### an order by size, then by signs -/
theorem ltT (a b : List Nat) (g : List Nat → Int) : leP g a b = decide (g a < g b ∨ (g a = g b ∧ ¬ b < a)) := by
  show (!PySem.W.dataLt (PyData.tuple [.int (g b), .str (T b)]) (PyData.tuple [.int (g a), .str (T a)])) = _
  rw [PySem.W.dataLt_pair (by simp [PySem.W.alike]) (by simp [PySem.W.alike]), PySem.W.dataLt_int, PySem.W.dataLt_str]
  simp only [PyData.eqv, beq_iff_eq]
  have et : (T b = T a) ↔ b = a := ⟨fun e => T_inj e, fun e => by rw [e]⟩
  have ec : ∀ l : List Nat, (T l).cps.toList = l := fun l => by rw [T_cps]
  rw [ec, ec]
  by_cases h1 : g b = g a
  · rw [if_pos h1]
    by_cases h2 : T b = T a
    · rw [if_pos h2]
      have := et.mp h2
      subst this
      simp [h1]
    · rw [if_neg h2]
      by_cases h3 : b < a
      · rw [decide_eq_true h3, decide_eq_false (by rintro (z | ⟨_, z⟩); omega; exact z h3)]; rfl
      · rw [decide_eq_false h3, decide_eq_true (.inr ⟨h1.symm, h3⟩)]; rfl
  · rw [if_neg h1]
    rw [Bool.eq_iff_iff]
    simp
    omega
def LeT (g : List Nat → Int) (a b : List Nat) : Prop := g a < g b ∨ (g a = g b ∧ ¬ b < a)
instance (g : List Nat → Int) (a b : List Nat) : Decidable (LeT g a b) := by unfold LeT; infer_instance
theorem LeT.trans {g : List Nat → Int} {a b c : List Nat} (h1 : LeT g a b) (h2 : LeT g b c) : LeT g a c := by
  rcases h1 with h1 | ⟨h1, k1⟩ <;> rcases h2 with h2 | ⟨h2, k2⟩
  · exact .inl (by omega)
  · exact .inl (by omega)
  · exact .inl (by omega)
  · exact .inr ⟨by omega, List.not_lt.mpr (List.le_trans (List.not_lt.mp k1) (List.not_lt.mp k2))⟩
theorem LeT.total {g : List Nat → Int} (a b : List Nat) : LeT g a b ∨ LeT g b a := by
  by_cases h : g a < g b
  · exact .inl (.inl h)
  by_cases h2 : g b < g a
  · exact .inr (.inl h2)
  have e : g a = g b := by omega
  by_cases k : b < a
  · exact .inr (.inr ⟨e.symm, List.not_lt.mpr (List.le_of_lt k)⟩)
  · exact .inl (.inr ⟨e, k⟩)
theorem LeT.anti {g : List Nat → Int} {a b : List Nat} (h1 : LeT g a b) (h2 : LeT g b a) : a = b := by
  rcases h1 with h1 | ⟨h1, k1⟩ <;> rcases h2 with h2 | ⟨h2, k2⟩
  · omega
  · omega
  · omega
  · exact List.le_antisymm (List.not_lt.mp k1) (List.not_lt.mp k2)
theorem sort_two {g : List Nat → Int} : ∀ {A B : List (List Nat)}, A.Pairwise (LeT g) → B.Pairwise (LeT g) → A.Nodup → B.Nodup → (∀ r, r ∈ A ↔ r ∈ B) → A = B
  | [], [], _, _, _, _, _ => rfl
  | [], b :: B, _, _, _, _, h => by have := (h b).mpr List.mem_cons_self; cases this
  | a :: A, [], _, _, _, _, h => by have := (h a).mp List.mem_cons_self; cases this
  | a :: A, b :: B, h1, h2, n1, n2, h => by
    obtain ⟨r1, p1⟩ := List.pairwise_cons.mp h1
    obtain ⟨r2, p2⟩ := List.pairwise_cons.mp h2
    have e : a = b := by
      rcases List.mem_cons.mp ((h a).mp List.mem_cons_self) with e | ha
      · exact e
      rcases List.mem_cons.mp ((h b).mpr List.mem_cons_self) with e | hb
      · exact e.symm
      exact (r1 b hb).anti (r2 a ha)
    subst e
    obtain ⟨m1, n1⟩ := List.nodup_cons.mp n1
    obtain ⟨m2, n2⟩ := List.nodup_cons.mp n2
    have e2 : A = B := sort_two p1 p2 n1 n2 fun r => by
      constructor
      · intro hr
        rcases List.mem_cons.mp ((h r).mp (List.mem_cons_of_mem _ hr)) with rfl | z
        · exact absurd hr m1
        · exact z
      · intro hr
        rcases List.mem_cons.mp ((h r).mpr (List.mem_cons_of_mem _ hr)) with rfl | z
        · exact absurd hr m2
        · exact z
    rw [e2]
theorem two_sub {α : Type} {a b : α} : ∀ {r : List α}, r.Nodup → [a, b].Sublist r → [b, a].Sublist r → False
  | [], _, h, _ => by cases h
  | x :: r, hn, h1, h2 => by
    obtain ⟨m, hn⟩ := List.nodup_cons.mp hn
    cases h1 with
    | cons _ h1 => cases h2 with
      | cons _ h2 => exact two_sub hn h1 h2
      | cons_cons _ h2 => exact m (h1.subset (by simp))
    | cons_cons _ h1 => cases h2 with
      | cons _ h2 => exact m (h2.subset (by simp))
      | cons_cons _ h2 => exact m (h2.subset (by simp))
theorem sub_two {α : Type} {a b : α} : ∀ {r : List α}, a ∈ r → b ∈ r → a ≠ b → [a, b].Sublist r ∨ [b, a].Sublist r
  | [], h, _, _ => by cases h
  | x :: r, h1, h2, h3 => by
    rcases List.mem_cons.mp h1 with rfl | k1
    · rcases List.mem_cons.mp h2 with rfl | k2
      · exact absurd rfl h3
      · exact .inl (List.Sublist.cons_cons _ (List.singleton_sublist.mpr k2))
    · rcases List.mem_cons.mp h2 with rfl | k2
      · exact .inr (List.Sublist.cons_cons _ (List.singleton_sublist.mpr k1))
      · exact (sub_two k1 k2 h3).imp (List.Sublist.cons _) (List.Sublist.cons _)
theorem rise_pw : ∀ {l : List (List Nat)}, sortedS (l.map T) = true → l.Pairwise fun a b => ¬ b < a
  | [], _ => .nil
  | a :: l, h => by
    have key : ∀ {l : List (List Nat)} {p : List Nat}, risingS (T p) (l.map T) = true → ∀ x ∈ l, ¬ x < p := by
      intro l
      induction l with
      | nil => intro p _ x h; cases h
      | cons a l ih =>
        intro p hr x hx
        have h : (!ltCps (T a).cps.toList (T p).cps.toList && risingS (T a) (l.map T)) = true := hr
        obtain ⟨h1, h2⟩ := Bool.and_eq_true_iff.mp h
        have h3 : ¬ a < p := by
          have h5 : ltCps (T a).cps.toList (T p).cps.toList = false := by simpa using h1
          have : ltCps a p = false := h5
          rw [ltCps_eq] at this
          exact of_decide_eq_false this
        rcases List.mem_cons.mp hx with rfl | hx
        · exact h3
        · exact List.not_lt.mpr (List.le_trans (List.not_lt.mp h3) (List.not_lt.mp (ih h2 x hx)))
    refine List.pairwise_cons.mpr ⟨key h, rise_pw ?_⟩
    cases l with
    | nil => rfl
    | cons b l => exact (Bool.and_eq_true_iff.mp (show (!ltCps (T b).cps.toList (T a).cps.toList && risingS (T b) (l.map T)) = true from h)).2
/-- a stable sort by size of a sorted list -/
theorem size_sort {g : List Nat → Int} {ys : List (List Nat)} (hs : ys.Pairwise fun a b => ¬ b < a) (hn : ys.Nodup) : (ys.mergeSort fun a b => decide (g a ≤ g b)).Pairwise (LeT g) := by
  have hp := List.mergeSort_perm ys fun a b => decide (g a ≤ g b)
  have ht : ∀ a b c : List Nat, decide (g a ≤ g b) = true → decide (g b ≤ g c) = true → decide (g a ≤ g c) = true := fun a b c h1 h2 => by
    simp only [decide_eq_true_eq] at *; omega
  have ho : ∀ a b : List Nat, (decide (g a ≤ g b) || decide (g b ≤ g a)) = true := fun a b => by
    simp only [Bool.or_eq_true, decide_eq_true_eq]; omega
  have hw := List.pairwise_mergeSort ht ho ys
  have hr : (ys.mergeSort fun a b => decide (g a ≤ g b)).Nodup := hp.nodup_iff.mpr hn
  rw [List.pairwise_iff_forall_sublist]
  intro a b hab
  have h1 : g a ≤ g b := of_decide_eq_true (List.pairwise_iff_forall_sublist.mp hw hab)
  by_cases h2 : g a < g b
  · exact .inl h2
  have e : g a = g b := by omega
  have hne : a ≠ b := List.pairwise_iff_forall_sublist.mp hr hab
  have ma : a ∈ ys := hp.mem_iff.mp (hab.subset (by simp))
  have mb : b ∈ ys := hp.mem_iff.mp (hab.subset (by simp))
  rcases sub_two ma mb hne with h | h
  · exact .inr ⟨e, List.pairwise_iff_forall_sublist.mp hs h⟩
  · have h3 := List.pair_sublist_mergeSort ht ho (a := b) (b := a) (decide_eq_true (by omega)) h
    exact (two_sub hr hab h3).elim
theorem dedup_sub : ∀ {l acc : List (List Nat)}, ∃ z, dedup acc l = acc ++ z ∧ z.Sublist l
  | [], acc => ⟨[], by simp [dedup], .slnil⟩
  | a :: l, acc => by
    unfold dedup
    split
    · obtain ⟨z, h1, h2⟩ := dedup_sub (l := l) (acc := acc)
      exact ⟨z, h1, h2.cons a⟩
    · obtain ⟨z, h1, h2⟩ := dedup_sub (l := l) (acc := acc ++ [a])
      exact ⟨a :: z, by rw [h1]; simp, h2.cons_cons a⟩
/-- the lots in order -/
def ordF (g : List Nat → Int) (L : List (List Nat)) : List (List Nat) := dedup [] (L.mergeSort (leP g))
theorem ordF_pw (g : List Nat → Int) (L : List (List Nat)) : (ordF g L).Pairwise (LeT g) := by
  obtain ⟨z, h1, h2⟩ := dedup_sub (l := L.mergeSort (leP g)) (acc := [])
  unfold ordF
  rw [h1, List.nil_append]
  have hf : leP g = fun a b => decide (LeT g a b) := by
    funext a b
    exact ltT a b g
  refine List.Pairwise.sublist h2 ?_
  have ht : ∀ a b c : List Nat, leP g a b = true → leP g b c = true → leP g a c = true := fun a b c h1 h2 => by
    rw [ltT] at *
    exact decide_eq_true (LeT.trans (of_decide_eq_true h1) (of_decide_eq_true h2))
  have ho : ∀ a b : List Nat, (leP g a b || leP g b a) = true := fun a b => by
    rw [ltT, ltT, Bool.or_eq_true, decide_eq_true_eq, decide_eq_true_eq]
    exact LeT.total a b
  exact (List.pairwise_mergeSort ht ho L).imp fun {a b} h => by rw [ltT] at h; exact of_decide_eq_true h
theorem ordF_nd (g : List Nat → Int) (L : List (List Nat)) : (ordF g L).Nodup := dedup_nd (by simp)
theorem ordF_mem {g : List Nat → Int} {L : List (List Nat)} {r : List Nat} : r ∈ ordF g L ↔ r ∈ L := by
  unfold ordF
  rw [dedup_mem, List.mem_mergeSort]
  simp
theorem ordF_len (g : List Nat → Int) (L : List (List Nat)) : (ordF g L).length ≤ L.length := by
  have := dedup_len (l := L.mergeSort (leP g)) (acc := [])
  rw [List.length_mergeSort] at this
  unfold ordF
  simpa using this
theorem ord_one {g : List Nat → Int} {L ys : List (List Nat)} (hs : sortedS (ys.map T) = true) (hn : ys.Nodup) (hm : ∀ r, r ∈ ys ↔ r ∈ L) : (ys.mergeSort fun a b => decide (g a ≤ g b)) = ordF g L :=
  sort_two (size_sort (rise_pw hs) hn) (ordF_pw g L) ((List.mergeSort_perm _ _).nodup_iff.mpr hn) (ordF_nd g L) fun r => by rw [List.mem_mergeSort, hm, ordF_mem]
theorem ordF_self (g : List Nat → Int) (L : List (List Nat)) : ordF g (ordF g L) = ordF g L :=
  sort_two (ordF_pw g _) (ordF_pw g L) (ordF_nd g _) (ordF_nd g L) fun r => by rw [ordF_mem]
theorem ms_map (g : List Nat → Int) (h : Str → Int) (e : ∀ l, h (T l) = g l) (ys : List (List Nat)) : (ys.map T).mergeSort (leK h) = (ys.mergeSort fun a b => decide (g a ≤ g b)).map T := by
  refine (List.map_mergeSort (f := T) (r := fun a b => decide (g a ≤ g b)) (s := leK h) (l := ys) ?_).symm
  intro a _ b _
  show _ = decide (h (T a) ≤ h (T b))
  rw [e, e]



def gC (l : List Nat) : Int := Txt.count (T l) (T [43])
section
variable {P : Program} {w : World} {K : PySem.W.Frag} {mg : Str → Option Value} {base : Heap}
/-- lots in order, handed back new -/
def spOrd (K : PySem.W.Frag) : Sp := fun vs H Q _ => ∃ (M : Addr → Prop) (I : Hp → Prop) (x : V) (d : D) (L : List (List Nat)), Wf M I ∧ I H ∧ vs = [x] ∧ Rep K M H x d ∧ (d = .lst (L.map eS) ∨ d = .tup (L.map eS)) ∧ L.length ≤ 1000 ∧ (∀ l ∈ L, LotS l) ∧ ∀ p H', H p = none → ¬ M p → H' p = some (.lst ((ordF gC L).map fun l => V.str (T l))) → Ex M H H' → I H' → Q (.ref p) H'
theorem ok_lots (B : Bl mg) (G : Df P w K mg base 1 "_law_once" ["_law_things"] [] (spOnce K)) (F : At K mg "_law_lots" s__law_lots ["_law_told"] []) : Df P w K mg base 2 "_law_lots" ["_law_told"] [] (spOrd K) := by
  refine F.df sc__law_lots (fun vs H Q E h => ?_) (fun f cdv A outer s H vs Q E hr h => ⟨_, w__law_lots B G hr, ?_⟩)
  · obtain ⟨M, I, x, d, L, _, _, rfl, _⟩ := h
    rfl
  · obtain ⟨M, I, x, d, L, hw, hI, rfl, hx, hd, hl, hs, q⟩ := h
    unfold t__law_lots
    walk_at "sx"
    refine lc_srcM (as := L) (enc := eS) (eG gC) hw hI hx (by rcases hd with rfl | rfl <;> rfl) (szOk (by omega)) (fun _ => rfl) ?_ ?_
    · intro L0 acc k a v H hL ha rv wf hi ex Qe q
      cases rep_str rv
      walk_at "sx"
      refine ⟨_, _, rfl, rfl, ?_⟩
      walk_at "sx"
      rename_i y H2 e2 i2 r2
      exact q _ _ r2 i2 e2
    · intro y H1 r1 e1 i1
      walk_at "sx"
      refine ⟨M, I, y, L, gC, hw, i1, rfl, r1, hl, fun l h => (hs l h).lt, fun y2 H2 e2 i2 r2 => ?_⟩
      walk_at "sx"
      refine lc_srcP (as := L.mergeSort (leP gC)) (enc := fun l => .int (gC l)) (enc2 := eS) hw i2 r2 rfl (szOk (by rw [List.length_mergeSort]; omega)) (fun _ _ => rfl) (fun _ => true) (fun a d => d = eS a) ?_ ?_ ?_
      · intro L0 acc k a v u H3 hL nL ha rv ru wf hi ex Qt qt
        walk_at "sx"
        exact qt _ hi (Ex.refl _)
      · intro L0 acc k a v u H3 hL nL ha _ rv ru wf hi ex Qe qe
        cases rep_str ru
        walk_at "sx"
        exact qe _ _ _ rfl (.str _) hi (Ex.refl _)
      · intro y3 ds H3 a3 r3 e3 i3
        rw [filter_tt] at a3
        have ed : ds = (L.mergeSort (leP gC)).map eS := a3.eq
        subst ed
        walk_at "sx"
        refine ⟨M, I, y3, L.mergeSort (leP gC), hw, i3, rfl, r3, by rw [List.length_mergeSort]; omega, fun p H4 hp np hq e4 i4 => ?_⟩
        have e03 := (e1.trans e2).trans e3
        exact q p H4 (e03.non hw i3 hp) np hq (e03.trans e4) i4
def t_ordered_lots (P : Program) (w : World) (K : PySem.W.Frag) : TS := tRet (tCKw (rSortKey K (He.ga K "lot_size") fun z => Txt.count z (T [43])) (tCons (tCB (rSortT P w) (tCons (tCB (rSetU K P w) (tCons (tVar 0) tNil)) tNil)) tNil) (tCons (tC (.ref (He.ga K "lot_size"))) tNil))
theorem w_ordered_lots (B : Bl mg) (L : At K mg "lot_size" s_lot_size ["lot"] []) {f : Addr} {cdv : Value} {A : Around} {outer : List Env} {s : Shared} {H : Hp} {E : XK} (hr : Room 3 (A.deeper (envOfC "ordered_lots" (defScope s_ordered_lots) s.heap.objs.size f cdv))) :
    PSs (cxOf (L2.CX P w) P w K mg base n_ordered_lots "ordered_lots" (defScope s_ordered_lots) f cdv A outer s H E).nox (defBody s_ordered_lots) (t_ordered_lots P w K) := by
  have nd := sc_ordered_lots.nd
  have hu := hr.units
  have hv := units5 hr
  have h1 := units1 hr
  obtain ⟨fd, F1, F2⟩ := L.ex
  have b := FunD.bindsA (ps := ["lot"]) F1 fun _ _ _ _ _ _ us hl => match us, hl with | [_], _ => rfl
  exact (pss_one (ps_ret (pe_callBK (cr_sortKey (x := "lot") (c := T [43]) (k0 := _) (p1 := _) (p2 := _) (p3 := _) (p4 := _) (p5 := _) F1 sc_lot_size rfl (by decide) rfl (hr.in1.in1) hv fun s v => b s [v] rfl) (by rfl) B.f_sorted (by decide +kernel)
    (pa_cons (pe_callB (cr_sortT rfl) (by rfl) B.f_sorted (by decide +kernel) (pa_cons (pe_callTy (cr_setU rfl) (by rfl) B.f_set (by decide +kernel) (pa_cons (pv 0) pa_nil)) pa_nil)) pa_nil) (pk_cons (pe_gref (by rfl) L.mgx) pk_nil))))
theorem sx_ckw {r : List V → List V → Hp → VK → Prop} {t tk : TA} {σ : L2.St} {H : Hp} {Q : VK} (h : t σ H fun vs H1 => tk σ H1 fun zs H2 => r vs zs H2 Q) : tCKw r t tk σ H Q := h
theorem ofT : ∀ {ys : List Str} {S : List (List Nat)}, (∀ z ∈ ys, z ∈ S.map T) → ∃ zs : List (List Nat), ys = zs.map T
  | [], _, _ => ⟨[], rfl⟩
  | y :: ys, S, h => by
    obtain ⟨zs, rfl⟩ := ofT (ys := ys) (S := S) fun z hz => h z (List.mem_cons_of_mem _ hz)
    obtain ⟨l, _, rfl⟩ := List.mem_map.mp (h y List.mem_cons_self)
    exact ⟨l :: zs, rfl⟩
theorem inT {zs : List (List Nat)} {r : List Nat} : T r ∈ zs.map T ↔ r ∈ zs := by
  rw [List.mem_map]
  exact ⟨fun ⟨a, h, e⟩ => by rw [← T_inj e]; exact h, fun h => ⟨r, h, rfl⟩⟩
theorem seq_T {M : Addr → Prop} {H : Hp} {x : V} {d : D} {S : List (List Nat)} (hx : Rep K M H x d) (hd : d = .lst (S.map eS) ∨ d = .tup (S.map eS)) : ∃ a, x = .ref a ∧ (SqL K H a ((S.map T).map V.str) ∨ SqT K H a ((S.map T).map V.str)) := by
  have key : ∀ {xs : List V} {S : List (List Nat)}, Reps K M H xs (S.map eS) → xs = (S.map T).map V.str := by
    intro xs S
    induction S generalizing xs with
    | nil => intro h; cases h; rfl
    | cons l S ih =>
      intro h
      cases h with
      | cons r1 r2 =>
        cases rep_str r1
        rw [ih r2]
        rfl
  rcases hd with rfl | rfl
  · cases hx with
    | lst h n r =>
      refine ⟨_, rfl, .inl ?_⟩
      rw [← key r]
      exact SqL.of h
  · cases hx with
    | tup h n r =>
      refine ⟨_, rfl, .inr ?_⟩
      rw [← key r]
      exact SqT.of h
theorem ok_ordered_lots (B : Bl mg) (L : At K mg "lot_size" s_lot_size ["lot"] []) (F : At K mg "ordered_lots" s_ordered_lots ["lots"] []) : Df P w K mg base 4 "ordered_lots" ["lots"] [] (spOrd K) := by
  refine F.df sc_ordered_lots (fun vs H Q E h => ?_) (fun f cdv A outer s H vs Q E hr h => ⟨_, w_ordered_lots B L hr, ?_⟩)
  · obtain ⟨M, I, x, d, L, _, _, rfl, _⟩ := h
    rfl
  · obtain ⟨M, I, x, d, S, hw, hI, rfl, hx, hd, hl, hs, q⟩ := h
    unfold t_ordered_lots
    walk_at "sx"
    obtain ⟨a, rfl, ha⟩ := seq_T hx hd
    refine sx_ckw ?_
    walk_at "sx"
    have hsb : 1001 < scanBound := by decide
    refine ⟨a, S.map T, rfl, ha, by rw [List.length_map]; omega, fun p hp => ?_⟩
    have s1 := same_upd (o := SetTO P w p (S.map T)) hp
    walk_at "sx"
    refine ⟨p, S.map T, rfl, upd_same, by rw [List.length_map]; exact hl, fun ys p2 hso hnd hme hp2 => ?_⟩
    have s2 := same_upd (o := .lst (ys.map V.str)) hp2
    have i1 := hw.same s1 hI
    have i2 := hw.same s2 i1
    obtain ⟨zs, rfl⟩ := ofT fun z hz => (hme z).mp hz
    have hm : ∀ r, r ∈ zs ↔ r ∈ S := fun r => by rw [← inT, hme, inT]
    have hn : zs.Nodup := by
      have h := hnd
      unfold List.Nodup at h ⊢
      rw [List.pairwise_map] at h
      exact h.imp fun {a b} n e => n (by rw [e])
    have hzl : zs.length ≤ 1000 := Nat.le_trans (nodup_len hn fun r h => (hm r).mp h) hl
    walk_at "sx"
    refine ⟨p2, zs.map T, rfl, rfl, SqL.of upd_same, by rw [List.length_map]; exact hzl, fun p3 hp3 => ?_⟩
    have s3 := same_upd (o := .lst (((zs.map T).mergeSort (leK fun z => Txt.count z (T [43]))).map V.str)) hp3
    have e02 : Ex M H _ := (Ex.of s1).trans (Ex.of s2)
    have i3 := hw.same s3 i2
    refine q p3 _ (e02.non hw i2 hp3) (hw.fresh i2 hp3) ?_ (e02.trans (Ex.of s3)) i3
    rw [upd_same, ms_map gC (fun z => Txt.count z (T [43])) (fun _ => rfl), ord_one hso hn hm, List.map_map]
    rfl
end


/-! ### rows laid over, plainly -/
theorem ext_D {l m : List Nat} (h : l.length = m.length) (e : ∀ k, l.getD k 46 = m.getD k 46) : l = m := by
  refine List.ext_getElem h fun k h1 h2 => ?_
  have := e k
  rw [List.getD_eq_getElem?_getD, List.getD_eq_getElem?_getD, List.getElem?_eq_getElem h1, List.getElem?_eq_getElem h2] at this
  exact this
theorem get_out {l : List Nat} {k : Nat} (h : l.length ≤ k) : l.getD k 46 = 46 := by
  rw [List.getD_eq_getElem?_getD, List.getElem?_eq_none h]
  rfl
theorem zip_D {f : Nat × Nat → Nat} {t u : List Nat} {k : Nat} (h : u.length = t.length) (h0 : f (46, 46) = 46) : ((t.zip u).map f).getD k 46 = f (t.getD k 46, u.getD k 46) := by
  by_cases hk : k < t.length
  · have hk2 : k < u.length := by omega
    have e : (t.zip u)[k]? = some (t[k], u[k]) := List.getElem?_zip_eq_some.mpr ⟨by simp [hk], by simp [hk2]⟩
    simp [List.getD_eq_getElem?_getD, hk, hk2, e]
  · rw [get_out (l := t) (by omega), get_out (l := u) (by omega), get_out (by simp; omega), h0]
theorem lay_D {t u : List Nat} {k : Nat} (h : u.length = t.length) : (lay t u).getD k 46 = if t.getD k 46 = 46 then u.getD k 46 else t.getD k 46 := zip_D h rfl
theorem uni_D {t u : List Nat} {k : Nat} (h : u.length = t.length) : (uni t u).getD k 46 = if 43 = t.getD k 46 ∨ 43 = u.getD k 46 then 43 else 46 := zip_D (f := fun p => if 43 = p.1 ∨ 43 = p.2 then 43 else 46) h rfl
theorem lot_D {t : List Nat} {k : Nat} : (lot t).getD k 46 = if t.getD k 46 = 46 then 46 else 43 := by
  by_cases hk : k < t.length
  · unfold lot
    simp [List.getD_eq_getElem?_getD, hk]
  · rw [get_out (l := t) (by omega), get_out (by rw [lot_len]; omega)]
    rfl
theorem all_D {f : Nat × Nat → Bool} {x y : List Nat} (hl : x.length = y.length) (h : ∀ k, f (x.getD k 46, y.getD k 46) = true) : (x.zip y).all f = true := by
  rw [all_zip hl, List.isEmpty_iff, List.filter_eq_nil_iff]
  intro k _
  rw [h k]
  exact Bool.false_ne_true
section
variable {x y z : List Nat} {n : Nat}
theorem lay_self (x : List Nat) : lay x x = x := ext_D (by rw [lay_len rfl]) fun k => by
  rw [lay_D rfl]
  split <;> rfl
theorem lay_back (h : y.length = x.length) : lay (lay x y) x = lay x y := ext_D (by rw [lay_len (by rw [lay_len h])]) fun k => by
  rw [lay_D (by rw [lay_len h]), lay_D h]
  generalize x.getD k 46 = a
  generalize y.getD k 46 = b
  by_cases e : a = 46 <;> by_cases e2 : b = 46 <;> simp [e, e2]
theorem lot_lay (h : y.length = x.length) : lot (lay x y) = uni (lot x) (lot y) := ext_D (by rw [lot_len, lay_len h, uni_len (by rw [lot_len, lot_len, h]), lot_len]) fun k => by
  rw [lot_D, lay_D h, uni_D (by rw [lot_len, lot_len, h]), lot_D, lot_D]
  generalize x.getD k 46 = a
  generalize y.getD k 46 = b
  by_cases e : a = 46 <;> by_cases e2 : b = 46 <;> simp [e, e2]
theorem in_uni (h : y.length = x.length) : inB (lot x) (uni (lot y) (lot x)) = true := all_D (by rw [uni_len (by rw [lot_len, lot_len, h]), lot_len, lot_len, h]) fun k => by
  show (decide ((lot x).getD k 46 = 46) || decide ((uni (lot y) (lot x)).getD k 46 = 43)) = true
  rw [uni_D (by rw [lot_len, lot_len, h]), lot_D, lot_D]
  generalize x.getD k 46 = a
  generalize y.getD k 46 = b
  by_cases e : a = 46 <;> by_cases e2 : b = 46 <;> simp [e, e2]
theorem ag_lay (h : y.length = x.length) : agB x (lay x y) = true := all_D (by rw [lay_len h]) fun k => by
  show (decide (x.getD k 46 = 46) || decide ((lay x y).getD k 46 = 46) || decide (x.getD k 46 = (lay x y).getD k 46)) = true
  rw [lay_D h]
  generalize x.getD k 46 = a
  by_cases e : a = 46 <;> simp [e]
theorem lay_ass (h1 : y.length = x.length) (h2 : z.length = x.length) : lay (lay x y) z = lay x (lay y z) := by
  have l1 : (lay x y).length = x.length := lay_len h1
  have l2 : (lay y z).length = x.length := by rw [lay_len (by omega)]; exact h1
  refine ext_D (by rw [lay_len (by omega), l1, lay_len (by omega)]) fun k => ?_
  rw [lay_D (by omega), lay_D h1, lay_D (by omega), lay_D (by omega)]
  generalize x.getD k 46 = a
  by_cases e : a = 46 <;> simp [e]
theorem lay_five (h1 : y.length = x.length) (h2 : z.length = x.length) : lay z (lay x (lay y (lay z x))) = lay z (lay x y) := by
  have l1 : (lay z x).length = x.length := by rw [lay_len (by omega)]; exact h2
  have l2 : (lay y (lay z x)).length = x.length := by rw [lay_len (by omega)]; exact h1
  have l3 : (lay x (lay y (lay z x))).length = x.length := by rw [lay_len (by omega)]
  have l4 : (lay x y).length = x.length := lay_len h1
  refine ext_D (by rw [lay_len (by omega), lay_len (by omega)]) fun k => ?_
  rw [lay_D (by omega), lay_D (by omega), lay_D (by omega), lay_D (by omega), lay_D (by omega), lay_D (by omega)]
  generalize x.getD k 46 = a
  generalize y.getD k 46 = b
  generalize z.getD k 46 = c
  by_cases e : a = 46 <;> by_cases e2 : b = 46 <;> by_cases e3 : c = 46 <;> simp [e, e2, e3]
theorem cut_all (x : List Nat) : cutF x (List.range x.length) = x := by
  refine ext_D (by simp [cutF]) fun k => ?_
  by_cases hk : k < x.length
  · simp [cutF, List.getD_eq_getElem?_getD, hk]
  · rw [get_out (l := x) (by omega), get_out (by simp [cutF]; omega)]
theorem cut_lot {x ks : List Nat} : cutF (lot x) ks = lot (cutF x ks) := by
  unfold cutF lot
  rw [List.map_map]
  refine List.map_congr_left fun k _ => ?_
  exact lot_D (t := x) (k := k)
end
theorem sg_rep (n : Nat) (c : Nat) (h : c = 46 ∨ c = 43) : LotS (List.replicate n c) := fun d hd => by rw [List.eq_of_mem_replicate hd]; exact h
def unI : D → Nat
  | .int z => z.toNat
  | _ => 0
theorem unI_map (l : List Nat) : (l.map eI).map unI = l := by
  rw [List.map_map]
  conv => rhs; rw [← List.map_id l]
  rfl
theorem permI {es : List D} {S : List Nat} (h : es.Perm (S.map eI)) : ∃ o : List Nat, es = o.map eI ∧ o.Perm S := by
  refine ⟨es.map unI, ?_, by have := h.map unI; rw [unI_map] at this; exact this⟩
  have hm : ∀ d ∈ es, eI (unI d) = d := by
    intro d hd
    obtain ⟨s, _, rfl⟩ := List.mem_map.mp (h.mem_iff.mp hd)
    rfl
  rw [List.map_map]
  conv => lhs; rw [← List.map_id es]
  refine List.map_congr_left fun d hd => (hm d hd).symm




/-! ### helpers -/
theorem fresh_news {n : Nat} {s t : List Nat} (ht : Tm n t) (hs : s.length = n) : fresh s t = news s t := by
  have e1 : s.zipIdx = (List.range s.length).map fun k => (s.getD k 0, k) := by
    refine List.ext_getElem? fun k => ?_
    rw [List.getElem?_zipIdx, List.getElem?_map]
    by_cases hk : k < s.length
    · rw [List.getElem?_range hk]
      simp [List.getD, hk]
    · rw [List.getElem?_eq_none (by omega), List.getElem?_eq_none (by simp; omega)]
      rfl
  unfold news fresh
  rw [e1, List.filter_map, List.map_map]
  have e2 : ((fun x : Nat × Nat => x.2) ∘ fun k => (s.getD k 0, k)) = (id : Nat → Nat) := rfl
  rw [e2, List.map_id]
  refine List.filter_congr fun k hk => ?_
  have hk := List.mem_range.mp hk
  show (!decide (s[k]? = some 46) && decide (t[k]? = some 46)) = (!decide (s.getD k 0 = 46) && !decide (t[k]? = some 43))
  obtain ⟨c, hc⟩ := get_some hk
  obtain ⟨d, hd⟩ := get_some (t := t) (k := k) (by rw [ht.1, ← hs]; exact hk)
  have eg : s.getD k 0 = c := by simp [List.getD, hc]
  rw [eg, hc, hd]
  have hd2 := ht.2 d (List.mem_of_getElem? hd)
  rcases hd2 with rfl | rfl <;> simp


theorem fits_can {n : Nat} {s r t : List Nat} (ht : Tm n t) (hs : s.length = n) : fits s r t = canTake s t r := by
  rw [Bool.eq_iff_iff, can_iff, fits_iff ht hs]
theorem ready_first {S : List (List Nat)} {r t : List Nat} {n : Nat} (ht : Tm n t) (hS : ∀ s ∈ S, s.length = n) : first S t r = (ready S r t).head? := by
  have e : ready S r t = S.filter fun s => canTake s t r := List.filter_congr fun s hs => fits_can ht (hS s hs)
  rw [e, List.head?_filter]
  rfl
theorem takes_add (S : List (List Nat)) (r : List Nat) : ∀ (a b : Nat) (tk : List (List Nat)) (t : List Nat), takes S r (a + b) tk t = takes S r b (takes S r a tk t).1 (takes S r a tk t).2 := by
  intro a
  induction a with
  | zero => intro b tk t; rw [Nat.zero_add]; rfl
  | succ a ih =>
    intro b tk t
    have e0 : a + 1 + b = a + b + 1 := by omega
    rw [e0]
    cases h : first S t r with
    | some s =>
      have e1 : takes S r (a + b + 1) tk t = takes S r (a + b) (tk ++ [s]) (uni t (lot s)) := by simp only [takes, h]
      have e2 : takes S r (a + 1) tk t = takes S r a (tk ++ [s]) (uni t (lot s)) := by simp only [takes, h]
      rw [e1, e2]
      exact ih b _ _
    | none =>
      have e1 : takes S r (a + b + 1) tk t = (tk, t) := by simp only [takes, h]
      have e2 : takes S r (a + 1) tk t = (tk, t) := by simp only [takes, h]
      rw [e1, e2]
      cases b with
      | zero => rfl
      | succ b => simp only [takes, h]
section
variable {P : Program} {w : World} {K : PySem.W.Frag} {mg : Str → Option Value} {base : Heap}
def spGreedy (K : PySem.W.Frag) : Sp := fun vs H Q _ => ∃ (M : Addr → Prop) (I : Hp → Prop) (x : V) (S : List (List Nat)) (r : List Nat), Wf M I ∧ I H ∧ vs = [x, .str (T r)] ∧ Rep K M H x (.lst (S.map eS)) ∧ r.length ≤ 1000 ∧ S.length ≤ 1000 ∧ (∀ s ∈ S, s.length = r.length) ∧ ∀ y H', Ex M H H' → I H' → Rep K M H' y (.tup [.lst ((taken S r).1.map eS), eS (taken S r).2]) → Q y H'
theorem ok_greedy (B : Bl mg) (G1 : Df P w K mg base 2 "_law_fits" ["_law_s", "_law_r", "_law_told"] [] (spFits K)) (G2 : Df P w K mg base 1 "_law_join" ["_law_x", "_law_y"] [] (spUni K)) (G3 : Df P w K mg base 1 "_law_lot" ["_law_r"] [] (spLot K))
    (F : At K mg "_law_greedy" s__law_greedy ["_law_stack_here", "_law_r"] []) : Df P w K mg base 3 "_law_greedy" ["_law_stack_here", "_law_r"] [] (spGreedy K) := by
  refine F.df sc__law_greedy (fun vs H Q E h => ?_) (fun f cdv A outer s H vs Q E hr h => ⟨_, w__law_greedy B G1 G2 G3 hr, ?_⟩)
  · obtain ⟨M, I, x, S, r, _, _, rfl, _⟩ := h
    rfl
  · obtain ⟨M, I, x, S, r, hw, hI, rfl, hx, hrl, hSl, hS, q⟩ := h
    unfold t__law_greedy
    refine sx_seq ?_
    with_reducible refine sx_asg ?_
    refine sx_tupm ?_
    refine sx_cons ?_
    refine sx_lstm ?_
    walk_at "sx"
    refine lst_mut (xs := []) hw hI (show 0 ≤ sizeLine by decide) fun p H2 hp np e2 w2 i2 => ?_
    walk_at "sx"
    refine mul_Ti (by omega) (by decide) ?_
    rw [rep46]
    walk_at "sx"
    refine ⟨(show 2 ≤ sizeLine by decide), fun q0 hq0 => ?_⟩
    refine ⟨_, _, rfl, SqT.of upd_same, rfl, _, _, rfl, ?_⟩
    refine gs_name ?_
    refine ⟨_, _, rfl, gs_name ⟨rfl, ?_⟩⟩
    have e3 : Ex (Mq M p) H2 (upd H2 q0 (.tup [.ref p, .str (T (List.replicate r.length 46))])) := Ex.of (same_upd hq0)
    have i3 : Iq I p (.lst []) (upd H2 q0 (.tup [.ref p, .str (T (List.replicate r.length 46))])) := w2.same (same_upd hq0) i2
    generalize upd H2 q0 (.tup [.ref p, .str (T (List.replicate r.length 46))]) = H3 at e3 i3
    have hx3 := ((hx.off hp).ex e2).ex e3
    clear w2
    walk_at "sx"
    refine ⟨_, rfl, by omega, by omega, ?_⟩
    rw [Int.toNat_natCast]
    refine for_rng (fun k σ H => ∃ (tk : List (List Nat)) (t : List Nat) (u4 u5 u6 : Option V), σ = [some x, some (.str (T r)), some (.ref p), some (.str (T t)), u4, u5, none] ∧ Iq I p (.lst (tk.map fun l => V.str (T l))) H ∧ Ex (Mq M p) H3 H ∧ takes S r k [] (List.replicate r.length 46) = (tk, t))
      ⟨[], _, _, _, none, rfl, i3, Ex.refl _, rfl⟩ ?_ ?_
    · rintro k σ H4 hk ⟨tk, t, u4, u5, u6, rfl, i4, e4, ht⟩
      have w4 := hw.add p (.lst (tk.map fun l => V.str (T l)))
      obtain ⟨sy, _⟩ := takes_says hS (says_0 (S := S) (r := r)) (n := r.length) (by rw [open_rep]; exact Nat.le_refl _)
      have gr : Gr S r t := by
        have key : ∀ (n : Nat) (tk : List (List Nat)) (t : List Nat), Gr S r t → Gr S r (takes S r n tk t).2 := by
          intro n
          induction n with
          | zero => intro tk t h; exact h
          | succ n ih =>
            intro tk t h
            unfold takes
            cases e : first S t r with
            | none => exact h
            | some s =>
              obtain ⟨h1, h2⟩ := first_some e
              exact ih _ _ (h.step h1 h2)
        have := key k [] _ (Gr.base (S := S) (r := r))
        rw [ht] at this
        exact this
      have tm := gr.tm hS
      have htl := tm.1
      have htk : tk.length ≤ k := by
        have := takes_len S r k [] (List.replicate r.length 46)
        rw [ht] at this
        simpa using this
      have hstep : takes S r (k + 1) [] (List.replicate r.length 46) = match first S t r with
          | none => (tk, t)
          | some s => (tk ++ [s], uni t (lot s)) := by
        rw [takes_add, ht]
        show takes S r 1 tk t = _
        cases h : first S t r with
        | none =>
          unfold takes
          simp only [h]
        | some s =>
          unfold takes
          simp only [h]
          all_goals rfl
      walk_at "sx"
      refine lc_srcF (as := S) (enc := eS) (fun s => fits s r t) eS w4 i4 (hx3.ex e4) rfl (szOk (by omega)) (fun _ => rfl) ?_ ?_ ?_
      · intro L acc k2 a v H5 hL ha rv wf hi ex Qt qt
        cases rep_str rv
        have hal := hS a (List.mem_of_getElem? ha)
        walk_at "sx"
        refine ⟨_, _, a, r, _, wf, hi, rfl, by omega, by omega, by omega, fun H6 e6 i6 => ?_⟩
        walk_at "sx"
        exact qt H6 i6 e6
      · intro L acc k2 a v H5 hL ha _ rv wf hi ex Qe qe
        cases rep_str rv
        walk_at "sx"
        exact qe _ _ (.str _) hi (Ex.refl _)
      · intro y5 H5 r5 e5 i5
        have r5' : Rep K (Mq M p) H5 y5 (.lst ((ready S r t).map eS)) := r5
        have hrf := ready_first (r := r) tm hS
        rw [hrf] at hstep
        walk_at "sx"
        refine tru_If r5' ?_
        cases hre : ready S r t with
        | nil =>
          refine ifIsF rfl ?_
          walk_at "sx"
          rw [hre] at hstep
          exact ⟨tk, t, _, _, none, rfl, i5, e4.trans e5, hstep⟩
        | cons s ss =>
          refine ifIsT rfl ?_
          rw [hre] at hstep r5'
          have hsS : s ∈ S := (List.mem_filter.mp (show s ∈ ready S r t by rw [hre]; exact List.mem_cons_self)).1
          have hsl := hS s hsS
          walk_at "sx"
          refine ⟨tyv_l i5.2, ?_⟩
          walk_at "sx"
          refine ix_R (n := 0) r5' (.inl rfl) rfl fun v6 r6 => ?_
          cases rep_str r6
          walk_at "sx"
          refine app_mut hw np i5 (by simp; omega) fun H7 e7 w7 i7 => ?_
          rw [map_snocS] at w7 i7
          walk_at "sx"
          refine ix_R (n := 0) (r5'.ex e7) (.inl rfl) rfl fun v6 r6 => ?_
          cases rep_str r6
          walk_at "sx"
          refine ⟨_, _, s, w7, i7, rfl, by omega, fun H8 e8 i8 => ?_⟩
          walk_at "sx"
          refine ⟨_, _, t, _, w7, i8, rfl, by omega, fun H9 e9 i9 => ?_⟩
          walk_at "sx"
          exact ⟨tk ++ [s], uni t (lot s), _, _, none, rfl, i9, (((e4.trans e5).trans e7).trans e8).trans e9, hstep⟩
    · rintro σ H4 ⟨tk, t, u4, u5, u6, rfl, i4, e4, ht⟩
      have iM := i4.1
      walk_at "sx"
      have eM : Ex M H H4 := (e2.trans (e3.trans e4)).shut hp
      refine tup_end (K := K) hw iM (.cons (.lst i4.2 np (reps_S tk)) (.cons (.str _) .nil)) (szOk (by simp)) fun y H5 e5 i5 r5 => ?_
      have et : taken S r = (tk, t) := ht
      rw [et] at q
      exact q y H5 (eM.trans e5) i5 r5
def spLines (K : PySem.W.Frag) : Sp := fun vs H Q _ => ∃ (M : Addr → Prop) (I : Hp → Prop) (c x : V) (fr : List (List Nat × Nat)) (S : List (List Nat)) (r : List Nat), Wf M I ∧ I H ∧ vs = [c, x, .str (T r)] ∧ Rep K M H c (.lst (fr.map eC)) ∧ Rep K M H x (.lst (S.map eS)) ∧ fr.length = r.length ∧ r.length ≤ 1000 ∧ S.length ≤ 1000 ∧ (∀ s ∈ S, s.length = r.length) ∧ ∀ y H', Ex M H H' → I H' → Rep K M H' y (.lst (paper fr S r)) → Q y H'
theorem ok_lines (B : Bl mg) (G1 : Df P w K mg base 1 "_law_fresh" ["_law_s", "_law_told"] [] (spFresh K)) (G2 : Df P w K mg base 3 "_law_greedy" ["_law_stack_here", "_law_r"] [] (spGreedy K)) (G3 : Df P w K mg base 1 "_law_lot" ["_law_r"] [] (spLot K))
    (F : At K mg "_law_lines" s__law_lines ["_law_frame_here", "_law_stack_here", "_law_r"] []) : Df P w K mg base 4 "_law_lines" ["_law_frame_here", "_law_stack_here", "_law_r"] [] (spLines K) := by
  refine F.df sc__law_lines (fun vs H Q E h => ?_) (fun f cdv A outer s H vs Q E hr h => ⟨_, w__law_lines B G1 G2 G3 hr, ?_⟩)
  · obtain ⟨M, I, c, x, fr, S, r, _, _, rfl, _⟩ := h
    rfl
  · obtain ⟨M, I, c, x, fr, S, r, hw, hI, rfl, hc, hx, hfr, hrl, hSl, hS, q⟩ := h
    unfold t__law_lines
    walk_at "sx"
    refine ⟨M, I, x, S, r, hw, hI, rfl, hx, hrl, hSl, hS, fun y1 H1 e1 i1 r1 => ?_⟩
    refine gs_pair r1 fun a b ra rb => ?_
    cases rep_str rb
    obtain ⟨sy, _⟩ := taken_says hS
    have tm := sy.gr.tm hS
    have htl := tm.1
    have htk : (taken S r).1.length ≤ 0 + r.length := takes_len S r _ _ _
    walk_at "sx"
    rename_i v2 H2 e2 i2 r2 v3 H3 e3 i3 r3
    refine lc_srcM (as := (taken S r).1) (enc := eS) (fun s => .tup [eS kTake, eS s]) hw i3 ((ra.ex e2).ex e3) rfl (szOk (by omega)) (fun _ => rfl) ?_ ?_
    · intro L acc k2 s v H4 hL ha rv wf hi ex Qe qe
      cases rep_str rv
      walk_at "sx"
      rename_i v5 H5 e5 i5 r5
      exact qe _ _ r5 i5 e5
    intro v4 H4 r4 e4 i4
    refine add_LLN (r3.ex e4) r4 (by simp; exact szOk (by omega)) fun p xs hp rx => ?_
    have np := hw.fresh i4 hp
    have e5 : Ex (Mq M p) H4 (upd H4 p (.lst xs)) := Ex.of (same_upd hp)
    have i5 : Iq I p (.lst xs) (upd H4 p (.lst xs)) := ⟨hw.same (same_upd hp) i4, upd_same⟩
    generalize upd H4 p (.lst xs) = H5 at e5 i5
    have rx5 := (rx.off hp).ex e5
    have eM4 := ((e1.trans e2).trans e3).trans e4
    refine gs_name ?_
    walk_at "sx"
    refine ⟨_, _, r, hw.add p _, i5, rfl, by omega, fun H6 e6 i6 => ?_⟩
    walk_at "sx"
    have rx6 := rx5.ex e6
    have eM6 : Ex M H H6 := eM4.trans ((e5.trans e6).shut hp)
    refine ifB (fun h => ?_) (fun h => ?_)
    · have h := of_decide_eq_true h
      have rp : Rep K M H6 (.ref p) (.lst ([.tup [eS kRow, eS r]] ++ (taken S r).1.map fun s => .tup [eS kTake, eS s])) := .lst i6.2 np (rx6.le fun _ m => .inl m)
      have iM := i6.1
      walk_at "sx"
      rename_i va Ha ea ia ra v7 H7 e7 i7 r7
      refine add_LL hw i7 ((rp.ex ea).ex e7) r7 (by simp; exact szOk (by omega)) fun v8 H8 e8 i8 r8 => ?_
      refine q v8 H8 (((eM6.trans ea).trans e7).trans e8) i8 ?_
      have e : paper fr S r = [.tup [eS kRow, eS r]] ++ (taken S r).1.map (fun s => .tup [eS kTake, eS s]) ++ [.tup [eS kMade]] := by
        show [.tup [eS kRow, eS r]] ++ (taken S r).1.map (fun s => D.tup [eS kTake, eS s]) ++ (if (taken S r).2 = lot r then [.tup [eS kMade]] else bars fr S r (taken S r).2 ++ [.tup [eS kBarred]]) = _
        rw [if_pos h]
      rw [e]
      exact r8
    · have h := of_decide_eq_false h
      refine sx_next ?_
      have hc6 : Rep K (Mq M p) H6 c (.lst (fr.map eC)) := ((((((hc.ex e1).ex e2).ex e3).ex e4).off hp).ex e5).ex e6
      have hx6 : Rep K (Mq M p) H6 x (.lst (S.map eS)) := ((((((hx.ex e1).ex e2).ex e3).ex e4).off hp).ex e5).ex e6
      with_reducible refine seq_join (P := fun σ H => ∃ (lv : List V) (u6 u7 u8 : Option V), σ = [some c, some x, some (.str (T r)), some a, some (.str (T (taken S r).2)), some (.ref p), u6, u7, u8] ∧ Iq I p (.lst lv) H ∧ Ex (Mq M p) H6 H ∧ Reps K (Mq M p) H lv ([.tup [eS kRow, eS r]] ++ (taken S r).1.map (fun s => D.tup [eS kTake, eS s]) ++ bars fr S r (taken S r).2)) (fun nx hnx => ?_) ?_
      · walk_at "sx"
        refine for_src (K := K) (M := Mq M p) (as := S) (enc := eS) hx6 rfl (fun k σ H => ∃ (lv : List V) (u6 u7 u8 : Option V), σ = [some c, some x, some (.str (T r)), some a, some (.str (T (taken S r).2)), some (.ref p), u6, u7, u8] ∧ Iq I p (.lst lv) H ∧ Ex (Mq M p) H6 H ∧ Reps K (Mq M p) H lv ([.tup [eS kRow, eS r]] ++ (taken S r).1.map (fun s => D.tup [eS kTake, eS s]) ++ bars fr (S.take k) r (taken S r).2))
          ⟨xs, _, _, _, rfl, i6, Ex.refl _, by rw [show bars fr (S.take 0) r (taken S r).2 = [] from rfl, List.append_nil]; exact rx6⟩ (fun k σ H h => by obtain ⟨_, _, _, _, _, _, h, _⟩ := h; exact h) ?_ ?_
        · rintro k s v σ H7 ha ⟨lv, u6, u7, u8, rfl, i7, e7, r7⟩ rv
          cases rep_str rv
          have hsS := List.mem_of_getElem? ha
          have hsl := hS s hsS
          have w7 := hw.add p (.lst lv)
          have hlv : lv.length ≤ 3000 := by
            have h1 := r7.length
            have h2 := bars_len fr (S.take k) r (taken S r).2
            have h3 : (S.take k).length ≤ S.length := by simp; omega
            simp only [List.length_append, List.length_map, List.length_cons, List.length_nil] at h1
            omega
          have ebar : bars fr (S.take (k + 1)) r (taken S r).2 = bars fr (S.take k) r (taken S r).2 ++ (match barD fr (taken S r).2 r s with | some d => [d] | none => []) := by
            rw [take_snoc ha]
            unfold bars
            rw [List.filterMap_append]
            congr 1
            cases e : barD fr (taken S r).2 r s <;> simp [e]
          walk_at "sx"
          refine ⟨_, _, s, _, w7, i7, rfl, by omega, by omega, fun y8 H8 e8 i8 r8 => ?_⟩
          refine lc_srcF (as := fresh s (taken S r).2) (enc := eI) (fun k => !decide (r[k]? = s[k]?)) eI w7 i8 r8 rfl (szOk (by have := fresh_len s (taken S r).2; omega)) (fun _ => rfl) ?_ ?_ ?_
          · intro L acc2 k2 z v2 H9 hL hz rv2 wf hi ex Qt qt
            cases rep_int rv2
            have hk := fresh_lt (List.mem_of_getElem? hz)
            have hk2 : z < r.length := by omega
            walk_at "sx"
            refine ix_T (z := r[z]) (by walk_at "sz") (by simp [hk2]) ?_
            walk_at "sx"
            refine ix_T (z := s[z]) (by walk_at "sz") (by simp [hk]) ?_
            walk_at "sx"
            (try rw [dec1])
            rw [at_eq hk2 hk]
            exact qt _ hi (Ex.refl _)
          · intro L acc2 k2 z v2 H9 hL hz _ rv2 wf hi ex Qe qe
            cases rep_int rv2
            walk_at "sx"
            exact qe _ _ (.int _) hi (Ex.refl _)
          · intro y9 H9 r9 e9 i9
            have ebad : (fresh s (taken S r).2).filter (fun k => !decide (r[k]? = s[k]?)) = unlike s (taken S r).2 r := by
              unfold unlike
              rw [fresh_news tm hsl]
            rw [ebad] at r9
            have hbl : (unlike s (taken S r).2 r).length ≤ 1000 := by
              have := List.length_filter_le (fun k => !decide (r[k]? = s[k]?)) (news s (taken S r).2)
              have := news_len s (taken S r).2
              unfold unlike
              omega
            walk_at "sx"
            refine tru_If r9 ?_
            have e79 := e7.trans (e8.trans e9)
            cases hu : unlike s (taken S r).2 r with
            | nil =>
              refine ifIsF rfl ?_
              walk_at "sx"
              have e0 : barD fr (taken S r).2 r s = none := by unfold barD; rw [hu]
              rw [e0] at ebar
              refine ⟨lv, _, _, _, rfl, i9, e79, ?_⟩
              rw [ebar, List.append_nil]
              exact (r7.ex e8).ex e9
            | cons z zs =>
              refine ifIsT rfl ?_
              have hz : z ∈ unlike s (taken S r).2 r := by rw [hu]; exact List.mem_cons_self
              have hzl := unlike_lt hz
              have hzf : z < fr.length := by omega
              have e0 : barD fr (taken S r).2 r s = some (barE fr s z) := by unfold barD; rw [hu]
              rw [e0] at ebar
              rw [hu] at r9
              walk_at "sx"
              refine ⟨tyv_l i9.2, ?_⟩
              walk_at "sx"
              refine ix_R (n := 0) r9 (.inl rfl) rfl fun v10 r10 => ?_
              cases rep_int r10
              walk_at "sx"
              refine ix_R (n := z) (e := eC fr[z]) (((hc6.ex e7).ex e8).ex e9) (.inl rfl) (by simp [hzf]) fun v11 r11 => ?_
              walk_at "sx"
              refine ix_R (n := 0) r11 (.inr rfl) rfl fun v12 r12 => ?_
              cases rep_str r12
              walk_at "sx"
              rename_i v13 H13 e13 i13 r13
              refine app_mut hw np i13 (by omega) fun H14 e14 w14 i14 => ?_
              refine ⟨lv ++ [v13], _, _, _, rfl, i14, (e79.trans e13).trans e14, ?_⟩
              rw [ebar, ← List.append_assoc]
              refine Reps.ex e14 ?_
              refine Reps.append (((r7.ex e8).ex e9).ex e13) (.cons ?_ .nil)
              have eg : fr.getD z ([], 0) = fr[z] := by simp [List.getD, hzf]
              show Rep K (Mq M p) H13 v13 (.tup [eS kBar, eS s, eS (fr.getD z ([], 0)).1])
              rw [eg]
              exact r13
        · rintro σ H7 ⟨lv, u6, u7, u8, rfl, i7, e7, r7⟩
          rw [List.take_length] at r7
          exact hnx _ _ ⟨lv, u6, u7, u8, rfl, i7, e7, r7⟩
      · rintro σ H7 ⟨lv, u6, u7, u8, rfl, i7, e7, r7⟩
        have rp : Rep K M H7 (.ref p) (.lst ([.tup [eS kRow, eS r]] ++ (taken S r).1.map (fun s => D.tup [eS kTake, eS s]) ++ bars fr S r (taken S r).2)) := .lst i7.2 np (r7.le fun _ m => .inl m)
        have iM := i7.1
        have eM7 : Ex M H H7 := eM4.trans ((e5.trans (e6.trans e7)).shut hp)
        have hbl := bars_len fr S r (taken S r).2
        walk_at "sx"
        rename_i va Ha ea ia ra v8 H8 e8 i8 r8
        refine add_LL hw i8 ((rp.ex ea).ex e8) r8 (by simp; exact szOk (by omega)) fun v9 H9 e9 i9 r9 => ?_
        refine q v9 H9 (((eM7.trans ea).trans e8).trans e9) i9 ?_
        have e : paper fr S r = [.tup [eS kRow, eS r]] ++ (taken S r).1.map (fun s => .tup [eS kTake, eS s]) ++ bars fr S r (taken S r).2 ++ [.tup [eS kBarred]] := by
          show [.tup [eS kRow, eS r]] ++ (taken S r).1.map (fun s => D.tup [eS kTake, eS s]) ++ (if (taken S r).2 = lot r then [.tup [eS kMade]] else bars fr S r (taken S r).2 ++ [.tup [eS kBarred]]) = _
          rw [if_neg h]
          simp only [List.append_assoc]
        rw [e]
        exact r9
end


/-! ### all rows that seeds make -/
theorem le_t {a b c : List Nat} (h1 : ¬ b < a) (h2 : ¬ c < b) : ¬ c < a := List.not_lt.mpr (List.le_trans (List.not_lt.mp h1) (List.not_lt.mp h2))
theorem le_a {a b : List Nat} (h1 : ¬ b < a) (h2 : ¬ a < b) : a = b := List.le_antisymm (List.not_lt.mp h1) (List.not_lt.mp h2)
theorem rising_all : ∀ {l : List (List Nat)} {p : List Nat}, risingS (T p) (l.map T) = true → ∀ x ∈ l, ¬ x < p
  | [], _, _, x, h => by cases h
  | a :: l, p, hr, x, hx => by
    have h : (!ltCps (T a).cps.toList (T p).cps.toList && risingS (T a) (l.map T)) = true := hr
    obtain ⟨h1, h2⟩ := Bool.and_eq_true_iff.mp h
    have h3 : ¬ a < p := by
      have h5 : ltCps (T a).cps.toList (T p).cps.toList = false := by simpa using h1
      have : ltCps a p = false := h5
      rw [ltCps_eq] at this
      exact of_decide_eq_false this
    rcases List.mem_cons.mp hx with rfl | hx
    · exact h3
    · exact le_t h3 (rising_all h2 x hx)
theorem rising_tail {l : List (List Nat)} {p : List Nat} (h : risingS (T p) (l.map T) = true) : sortedS (l.map T) = true := by
  cases l with
  | nil => rfl
  | cons a l => exact (Bool.and_eq_true_iff.mp (show (!ltCps (T a).cps.toList (T p).cps.toList && risingS (T a) (l.map T)) = true from h)).2
theorem sort_one : ∀ {A B : List (List Nat)}, sortedS (A.map T) = true → sortedS (B.map T) = true → A.Nodup → B.Nodup → (∀ r, r ∈ A ↔ r ∈ B) → A = B
  | [], [], _, _, _, _, _ => rfl
  | [], b :: B, _, _, _, _, h => by have := (h b).mpr List.mem_cons_self; cases this
  | a :: A, [], _, _, _, _, h => by have := (h a).mp List.mem_cons_self; cases this
  | a :: A, b :: B, h1, h2, n1, n2, h => by
    have r1 : risingS (T a) (A.map T) = true := h1
    have r2 : risingS (T b) (B.map T) = true := h2
    have e : a = b := by
      have ha := (h a).mp List.mem_cons_self
      have hb := (h b).mpr List.mem_cons_self
      rcases List.mem_cons.mp ha with e | ha
      · exact e
      rcases List.mem_cons.mp hb with e | hb
      · exact e.symm
      exact le_a (rising_all r1 b hb) (rising_all r2 a ha)
    subst e
    obtain ⟨m1, n1⟩ := List.nodup_cons.mp n1
    obtain ⟨m2, n2⟩ := List.nodup_cons.mp n2
    have e2 : A = B := sort_one (rising_tail r1) (rising_tail r2) n1 n2 fun r => by
      constructor
      · intro hr
        rcases List.mem_cons.mp ((h r).mp (List.mem_cons_of_mem _ hr)) with rfl | z
        · exact absurd hr m1
        · exact z
      · intro hr
        rcases List.mem_cons.mp ((h r).mpr (List.mem_cons_of_mem _ hr)) with rfl | z
        · exact absurd hr m2
        · exact z
    rw [e2]
/-- more than 40 rows -/
def Big (S : List (List Nat)) (n : Nat) : Prop := ∃ F : List (List Nat), F.Nodup ∧ 40 < F.length ∧ ∀ r ∈ F, Cl S n r
/-- the rows told -/
structure RowsOf (S : List (List Nat)) (n : Nat) (Y : List (List Nat)) : Prop where
  nd : Y.Nodup
  so : sortedS (Y.map T) = true
  len : Y.length ≤ 40
  mem : ∀ r, r ∈ Y ↔ Cl S n r
theorem not_big {S : List (List Nat)} {n : Nat} {Y : List (List Nat)} (h : RowsOf S n Y) : ¬ Big S n := by
  rintro ⟨F, h1, h2, h3⟩
  have := nodup_len h1 fun r hr => (h.mem r).mpr (h3 r hr)
  have := h.len
  omega
def keyT (r : List Nat) : Key × V := (.inr (T r), .bl true)
theorem valV_key {F : List (List Nat)} {r : List Nat} : (valV (F.map keyT) (.inr (T r))).isSome = decide (r ∈ F) := by
  unfold valV
  rw [Bool.eq_iff_iff, decide_eq_true_eq]
  induction F with
  | nil => simp
  | cons a F ih =>
    rw [List.map_cons, List.find?_cons]
    by_cases h : T a = T r
    · have e := T_inj h
      subst e
      simp [keyT]
    · have h2 : ¬ r = a := fun e => h (by rw [e])
      simp only [keyT, Sum.inr.injEq, h, decide_false]
      rw [List.mem_cons]
      simp only [h2, false_or]
      exact ih
theorem putK_key {F : List (List Nat)} {r : List Nat} (h : r ∉ F) : putK (F.map keyT) (.inr (T r)) (.bl true) = (F ++ [r]).map keyT := by
  have h2 : ((F.map keyT).any fun kv => decide (kv.1 = (Sum.inr (T r) : Key))) = false := by
    rw [List.any_eq_false]
    intro kv hkv
    obtain ⟨a, ha, rfl⟩ := List.mem_map.mp hkv
    simp only [keyT, decide_eq_true_eq, Sum.inr.injEq]
    intro e
    exact h (by rw [← T_inj e]; exact ha)
  unfold putK
  rw [if_neg (by rw [h2]; exact Bool.false_ne_true), List.map_append]
  rfl
theorem get_app {α : Type} {l m : List α} {i : Nat} {a : α} (h : l[i]? = some a) : (l ++ m)[i]? = some a := by
  rw [List.getElem?_append_left (List.getElem?_eq_some_iff.mp h).1]
  exact h
theorem sx_dput {td ty tv : TE} {D : Ends} {σ : L2.St} {H : Hp} (h : tv σ H fun v H1 => td σ H1 fun x H2 => ty σ H2 fun y H3 => ∃ a H4, x = .ref a ∧ DPut H3 a y v H4 ∧ D.nx σ H4) : sDPut td ty tv D σ H := h
theorem sx_dni {td ty : TE} {σ : L2.St} {H : Hp} {Q : VK} (h : ty σ H fun y H1 => td σ H1 fun x H2 => ∃ a o, x = .ref a ∧ DGet H2 a y o ∧ Q (.bl (!o.isSome)) H2) : tDNotIn ty td σ H Q := h
/-- everything from laying is there -/
theorem cl_in {S F : List (List Nat)} {n : Nat} (h0 : List.replicate n 46 ∈ F) (h : ∀ r ∈ F, ∀ s ∈ S, lay s r ∈ F) : ∀ r, Cl S n r → r ∈ F := fun r hr => by
  induction hr with
  | base => exact h0
  | step hs _ ih => exact h _ ih _ hs
section
variable {P : Program} {w : World} {K : PySem.W.Frag} {mg : Str → Option Value} {base : Heap}
def spRows (K : PySem.W.Frag) : Sp := fun vs H Q _ => ∃ (M : Addr → Prop) (I : Hp → Prop) (x : V) (S : List (List Nat)) (n : Nat), Wf M I ∧ I H ∧ vs = [x, .int (n : Nat), .int 40] ∧ Rep K M H x (.lst (S.map eS)) ∧ n ≤ 1000 ∧ S.length ≤ 1000 ∧ (∀ s ∈ S, s.length = n) ∧
  (∀ H', Big S n → Ex M H H' → I H' → Q .non H') ∧ ∀ y Y H', RowsOf S n Y → Ex M H H' → I H' → Rep K M H' y (.lst (Y.map eS)) → Q y H'
theorem ok_rows (B : Bl mg) (G : Df P w K mg base 1 "_law_lay" ["_law_newer_row", "_law_older_row"] [] (spLay K)) (F : At K mg "_law_rows" s__law_rows ["_law_stack_here", "_law_wide", "_law_cap"] []) : Df P w K mg base 2 "_law_rows" ["_law_stack_here", "_law_wide", "_law_cap"] [] (spRows K) := by
  refine F.df sc__law_rows (fun vs H Q E h => ?_) (fun f cdv A outer s H vs Q E hr h => ⟨_, w__law_rows B G hr, ?_⟩)
  · obtain ⟨M, I, x, S, n, _, _, rfl, _⟩ := h
    rfl
  · obtain ⟨M, I, x, S, n, hw, hI, rfl, hx, hn, hSl, hS, qb, q⟩ := h
    unfold t__law_rows
    refine sx_seq ?_
    with_reducible refine sx_asg ?_
    refine sx_lstm ?_
    walk_at "sx"
    refine mul_Ti (by omega) (by decide) ?_
    rw [rep46]
    walk_at "sx"
    refine lst_mut (xs := [.str (T (List.replicate n 46))]) hw hI (show 1 ≤ sizeLine by decide) fun p H1 hp np e1 w1 i1 => ?_
    refine gs_name ?_
    with_reducible refine sx_seq ?_
    with_reducible refine sx_asg ?_
    intro q0 hq0
    have nq : ¬ Mq M p q0 := w1.fresh i1 hq0
    have nqp : q0 ≠ p := fun e => nq (e ▸ .inr rfl)
    show tOp (rIx K) (tVar 3) (tC (.int 0)) _ _ _
    walk_at "sx"
    refine ix_raw (v := .str (T (List.replicate n 46))) (by rw [upd_ne (Ne.symm nqp)]; exact i1.2) rfl ?_
    walk_at "sx"
    refine ⟨upd_same, [keyT (List.replicate n 46)], rfl, by simp, ?_⟩
    have hmk : mergeK [] [keyT (List.replicate n 46)] = [List.replicate n 46].map keyT := rfl
    rw [hmk]
    have hu : upd (upd H1 q0 (.dK [])) q0 (.dK ([List.replicate n 46].map keyT)) = upd H1 q0 (.dK ([List.replicate n 46].map keyT)) := by
      funext a
      by_cases h : a = q0
      · rw [h, upd_same, upd_same]
      · rw [upd_ne h, upd_ne h, upd_ne h]
    rw [hu]
    have e2 : Ex (Mq (Mq M p) q0) H1 (upd H1 q0 (.dK ([List.replicate n 46].map keyT))) := Ex.of (same_upd hq0)
    have i2 : Iq (Iq I p (.lst ([List.replicate n 46].map fun l => V.str (T l)))) q0 (.dK ([List.replicate n 46].map keyT)) (upd H1 q0 (.dK ([List.replicate n 46].map keyT))) := ⟨w1.same (same_upd hq0) i1, upd_same⟩
    generalize upd H1 q0 (.dK ([List.replicate n 46].map keyT)) = H2 at e2 i2
    have hx2 : Rep K (Mq (Mq M p) q0) H2 x (.lst (S.map eS)) := (((hx.off hp).ex e1).off hq0).ex e2
    clear w1
    refine gs_name ?_
    walk_at "sx"
    refine ⟨_, rfl, by decide, by decide, ?_⟩
    have hI0 : ∀ {F : List (List Nat)} {H : Hp}, Iq (Iq I p (.lst (F.map fun l => V.str (T l)))) q0 (.dK (F.map keyT)) H → I H := fun h => h.1.1
    refine for_rng (fun k σ H => ∃ (F : List (List Nat)) (u5 u6 : Option V), σ = [some x, some (.int (n : Nat)), some (.int 40), some (.ref p), some (.ref q0), u5, u6, none] ∧ Iq (Iq I p (.lst (F.map fun l => V.str (T l)))) q0 (.dK (F.map keyT)) H ∧ Ex (Mq (Mq M p) q0) H2 H ∧
        F.Nodup ∧ List.replicate n 46 ∈ F ∧ (∀ r ∈ F, Cl S n r) ∧ F.length ≤ 40 ∧ ∀ i r, i < k → F[i]? = some r → ∀ s ∈ S, lay s r ∈ F)
      ⟨[List.replicate n 46], _, _, rfl, i2, Ex.refl _, by simp, by simp, fun r hr => by rw [List.mem_singleton.mp hr]; exact .base, by simp, fun i r h => by omega⟩ ?_ ?_
    · rintro k σ H3 hk ⟨F, u5, u6, rfl, i3, e3, nd, h0, hcl, hfl, hdone⟩
      have w3 := (hw.add p (.lst (F.map fun l => V.str (T l)))).add q0 (.dK (F.map keyT))
      rw [Int.zero_add]
      -- behind the laying
      with_reducible refine seq_join (P := fun σ H => ∃ (F : List (List Nat)) (u5 u6 : Option V), σ = [some x, some (.int (n : Nat)), some (.int 40), some (.ref p), some (.ref q0), u5, u6, none] ∧ Iq (Iq I p (.lst (F.map fun l => V.str (T l)))) q0 (.dK (F.map keyT)) H ∧ Ex (Mq (Mq M p) q0) H2 H ∧
        F.Nodup ∧ List.replicate n 46 ∈ F ∧ (∀ r ∈ F, Cl S n r) ∧ F.length ≤ 2000 ∧ ∀ i r, i < k + 1 → F[i]? = some r → ∀ s ∈ S, lay s r ∈ F) (fun nx hnx => ?_) ?_
      · walk_at "sx"
        refine len_raw i3.1.2 ?_
        rw [List.length_map]
        walk_at "sx"
        refine ifB (fun h => ?_) (fun h => ?_)
        · have hkF : k < F.length := by have := of_decide_eq_true h; omega
          have hcr : Cl S n F[k] := hcl _ (List.getElem_mem hkF)
          have hFk := hcr.len hS
          walk_at "sx"
          refine lc_srcM (as := S) (enc := eS) (fun s => eS (lay s F[k])) w3 i3 (hx2.ex e3) rfl (szOk (by omega)) (fun _ => rfl) ?_ ?_
          · intro L acc k2 s v H4 hL ha rv wf hi ex Qe qe
            cases rep_str rv
            have hsl := hS s (List.mem_of_getElem? ha)
            walk_at "sx"
            refine ix_raw (v := .str (T F[k])) hi.1.1.2 ?_ ?_
            · unfold atI
              rw [show ixN (F.map fun l => V.str (T l)).length ((k : Nat) : Int) = some k by unfold ixN; rw [if_pos (by omega), if_pos (by simp; omega)]; simp]
              simp [hkF]
            walk_at "sx"
            refine ⟨_, _, s, F[k], wf, hi, rfl, by omega, fun H5 e5 i5 => ?_⟩
            exact qe _ H5 (.str _) i5 e5
          intro y H4 r4 e4 i4
          refine for_src (K := K) (M := Mq (Mq M p) q0) (as := S) (enc := fun s => eS (lay s F[k])) r4 rfl (fun j σ H => ∃ (G : List (List Nat)) (u6 : Option V), σ = [some x, some (.int (n : Nat)), some (.int 40), some (.ref p), some (.ref q0), some (.int (k : Nat)), u6, none] ∧ Iq (Iq I p (.lst ((F ++ G).map fun l => V.str (T l)))) q0 (.dK ((F ++ G).map keyT)) H ∧ Ex (Mq (Mq M p) q0) H4 H ∧
              (F ++ G).Nodup ∧ (∀ r ∈ G, Cl S n r) ∧ G.length ≤ j ∧ ∀ s ∈ S.take j, lay s F[k] ∈ F ++ G)
            ⟨[], _, rfl, by rw [List.append_nil]; exact i4, Ex.refl _, by rw [List.append_nil]; exact nd, all_nil, by simp, fun s h => by simp at h⟩ (fun k σ H h => by obtain ⟨_, _, _, _, h, _⟩ := h; exact h) ?_ ?_
          · rintro j s v σ H5 ha ⟨G, u6, rfl, i5, e5, nd5, hc5, hl5, hd5⟩ rv
            cases rep_str rv
            have hsS := List.mem_of_getElem? ha
            have hj : j < S.length := (List.getElem?_eq_some_iff.mp ha).1
            walk_at "sx"
            with_reducible refine sx_dni ?_
            walk_at "sx"
            refine ⟨_, _, rfl, DGet.k (k := .inr (T (lay s F[k]))) i5.2, ?_⟩
            rw [valV_key]
            walk_at "sx"
            refine ifB (fun h => ?_) (fun h => ?_)
            · have hnin : lay s F[k] ∉ F ++ G := by simpa using h
              with_reducible refine sx_seq ?_
              with_reducible refine sx_dput ?_
              walk_at "sx"
              refine ⟨_, _, rfl, DPut.k (k := .inr (T (lay s F[k]))) i5.2 (by rw [List.length_map, List.length_append]; exact Nat.lt_of_lt_of_le (show F.length + G.length < 100000 by omega) (by decide)), ?_⟩
              rw [putK_key hnin]
              have i6 : Iq (Iq I p (.lst ((F ++ G).map fun l => V.str (T l)))) q0 (.dK ((F ++ G ++ [lay s F[k]]).map keyT)) (upd H5 q0 (.dK ((F ++ G ++ [lay s F[k]]).map keyT))) := ((hw.add p _).put nq i5).1
              have e6 : Ex (Mq (Mq M p) q0) H5 (upd H5 q0 (.dK ((F ++ G ++ [lay s F[k]]).map keyT))) := fun a o n h => by rw [upd_ne fun z => n (.inr z)]; exact h
              generalize upd H5 q0 (.dK ((F ++ G ++ [lay s F[k]]).map keyT)) = H6 at i6 e6
              walk_at "sx"
              refine ⟨tyv_l i6.1.2, ?_⟩
              walk_at "sx"
              refine ⟨p, _, .str (T (lay s F[k])), rfl, rfl, i6.1.2, Nat.lt_of_lt_of_le (show ((F ++ G).map fun l => V.str (T l)).length < 100000 by rw [List.length_map, List.length_append]; omega) (by decide), ?_⟩
              rw [map_snocS]
              have i7 : Iq (Iq I p (.lst ((F ++ G ++ [lay s F[k]]).map fun l => V.str (T l)))) q0 (.dK ((F ++ G ++ [lay s F[k]]).map keyT)) (upd H6 p (.lst ((F ++ G ++ [lay s F[k]]).map fun l => V.str (T l)))) := by
                obtain ⟨u1, u2⟩ := hw.put (o' := .lst ((F ++ G ++ [lay s F[k]]).map fun l => V.str (T l))) np i6.1
                exact ⟨u1, by rw [upd_ne nqp]; exact i6.2⟩
              have e7 : Ex (Mq (Mq M p) q0) H6 (upd H6 p (.lst ((F ++ G ++ [lay s F[k]]).map fun l => V.str (T l)))) := fun a o n h => by rw [upd_ne fun z => n (.inl (.inr z))]; exact h
              generalize upd H6 p (.lst ((F ++ G ++ [lay s F[k]]).map fun l => V.str (T l))) = H7 at i7 e7
              refine ⟨G ++ [lay s F[k]], _, rfl, by rw [← List.append_assoc]; exact i7, (e5.trans e6).trans e7, ?_, ?_, by simp; omega, ?_⟩
              · rw [← List.append_assoc]
                exact List.nodup_append.mpr ⟨nd5, by simp, fun a ha b hb => by rw [List.mem_singleton.mp hb]; exact fun e => hnin (e ▸ ha)⟩
              · intro r hr
                rcases List.mem_append.mp hr with z | z
                · exact hc5 r z
                · rw [List.mem_singleton.mp z]; exact .step hsS hcr
              · intro s2 h2
                rw [take_snoc ha] at h2
                rcases List.mem_append.mp h2 with z | z
                · rw [← List.append_assoc]
                  exact List.mem_append.mpr (.inl (hd5 s2 z))
                · rw [List.mem_singleton.mp z, ← List.append_assoc]
                  exact List.mem_append.mpr (.inr List.mem_cons_self)
            · have hin : lay s F[k] ∈ F ++ G := by
                have h : (!decide (lay s F[k] ∈ F ++ G)) = false := h
                rw [Bool.not_eq_false'] at h
                exact of_decide_eq_true h
              refine sx_next ?_
              refine ⟨G, _, rfl, i5, e5, nd5, hc5, by omega, fun s2 h2 => ?_⟩
              rw [take_snoc ha] at h2
              rcases List.mem_append.mp h2 with z | z
              · exact hd5 s2 z
              · rw [List.mem_singleton.mp z]; exact hin
          · rintro σ H5 ⟨G, u6, rfl, i5, e5, nd5, hc5, hl5, hd5⟩
            rw [List.take_length] at hd5
            refine hnx _ _ ⟨F ++ G, _, _, rfl, i5, (e3.trans e4).trans e5, nd5, List.mem_append.mpr (.inl h0), fun r hr => ?_, by rw [List.length_append]; omega, fun i r hi hr s hs => ?_⟩
            · rcases List.mem_append.mp hr with z | z
              · exact hcl r z
              · exact hc5 r z
            · by_cases hik : i < k
              · have hiF : i < F.length := by omega
                have : F[i]? = some r := by rw [List.getElem?_append_left hiF] at hr; exact hr
                exact List.mem_append.mpr (.inl (hdone i r hik this s hs))
              · have e : i = k := by omega
                subst e
                have : r = F[i] := by
                  rw [List.getElem?_append_left hkF] at hr
                  simp [hkF] at hr
                  exact hr.symm
                rw [this]
                exact hd5 s hs
        · have hkF : F.length ≤ k := by have := of_decide_eq_false h; omega
          refine sx_next ?_
          refine hnx _ _ ⟨F, _, _, rfl, i3, e3, nd, h0, hcl, by omega, fun i r hi hr s hs => ?_⟩
          have := (List.getElem?_eq_some_iff.mp hr).1
          exact hdone i r (by omega) hr s hs
      · clear i3 e3 nd h0 hcl hfl hdone
        rintro σ H4 ⟨F, u5, u6, rfl, i4, e4, nd, h0, hcl, hfl, hdone⟩
        walk_at "sx"
        refine len_raw i4.1.2 ?_
        rw [List.length_map]
        walk_at "sx"
        refine ifB (fun h => ?_) (fun h => ?_)
        · walk_at "sx"
          have h : 40 < F.length := by have := of_decide_eq_true h; omega
          refine qb H4 ⟨F, nd, h, hcl⟩ ?_ i4.1.1
          exact (e1.trans ((e2.trans e4).shut hq0)).shut hp
        · have h : F.length ≤ 40 := by have := of_decide_eq_false h; omega
          walk_at "sx"
          exact ⟨F, _, _, rfl, i4, e4, nd, h0, hcl, h, hdone⟩
    · rintro σ H4 ⟨F, u5, u6, rfl, i4, e4, nd, h0, hcl, hfl, hdone⟩
      walk_at "sx"
      refine ⟨p, F.map T, rfl, by rw [List.map_map]; exact SqL.of i4.1.2, by rw [List.length_map]; omega, fun ys p2 hperm hsort hp2 => ?_⟩
      have eY : ∃ Y : List (List Nat), ys = Y.map T ∧ Y.Perm F := by
        refine ⟨ys.map fun z => z.cps.toList, ?_, ?_⟩
        · rw [List.map_map]
          conv => lhs; rw [← List.map_id ys]
          refine List.map_congr_left fun z hz => ?_
          obtain ⟨l, _, rfl⟩ := List.mem_map.mp (hperm.mem_iff.mp hz)
          rfl
        · have := hperm.map fun z => z.cps.toList
          rw [List.map_map] at this
          have e : (F.map ((fun z : Str => z.cps.toList) ∘ T)) = F := by
            conv => rhs; rw [← List.map_id F]
            rfl
          rw [e] at this
          exact this
      obtain ⟨Y, rfl, hY⟩ := eY
      have iM : I H4 := i4.1.1
      have eM : Ex M H H4 := (e1.trans ((e2.trans e4).shut hq0)).shut hp
      have hmem : ∀ r, r ∈ Y ↔ Cl S n r := fun r => by
        rw [hY.mem_iff]
        refine ⟨hcl r, cl_in h0 (fun r hr s hs => ?_) r⟩
        obtain ⟨i, hi⟩ := List.getElem?_of_mem hr
        have := (List.getElem?_eq_some_iff.mp hi).1
        exact hdone i r (by omega) hi s hs
      refine q _ Y _ ⟨hY.nodup_iff.mpr nd, hsort, by rw [hY.length_eq]; exact hfl, hmem⟩ (eM.trans (Ex.of (same_upd hp2))) (hw.same (same_upd hp2) iM) (.lst upd_same (hw.fresh iM hp2) ?_)
      rw [List.map_map]
      exact reps_S Y
end


section
variable {P : Program} {w : World} {K : PySem.W.Frag} {mg : Str → Option Value} {base : Heap}
def spIsName (K : PySem.W.Frag) : Sp := fun vs H Q _ => ∃ (M : Addr → Prop) (I : Hp → Prop) (t : List Nat), Wf M I ∧ I H ∧ vs = [.str (T t)] ∧ TOk t ∧ ∀ H', Ex M H H' → I H' → Q (.bl true) H'
theorem abc_mem : ∀ {c : Nat}, 97 ≤ c → c ≤ 122 → c ∈ ([97, 98, 99, 100, 101, 102, 103, 104, 105, 106, 107, 108, 109, 110, 111, 112, 113, 114, 115, 116, 117, 118, 119, 120, 121, 122] : List Nat) := by
  intro c h1 h2
  have key : ∀ d : Fin 26, 97 + d.val ∈ ([97, 98, 99, 100, 101, 102, 103, 104, 105, 106, 107, 108, 109, 110, 111, 112, 113, 114, 115, 116, 117, 118, 119, 120, 121, 122] : List Nat) := by decide
  have := key ⟨c - 97, by omega⟩
  have e : 97 + (c - 97) = c := by omega
  rw [e] at this
  exact this
theorem ok_is_name (B : Bl mg) (F : At K mg "is_name" s_is_name ["value"] []) : Df P w K mg base 1 "is_name" ["value"] [] (spIsName K) := by
  refine F.df sc_is_name (fun vs H Q E h => ?_) (fun f cdv A outer s H vs Q E hr h => ⟨_, w_is_name B hr, ?_⟩)
  · obtain ⟨M, I, t, _, _, rfl, _⟩ := h
    rfl
  · obtain ⟨M, I, t, hw, hI, rfl, ⟨h1, h2, h3⟩, q⟩ := h
    unfold t_is_name
    walk_at "sx"
    refine isi_str (.str _ : Rep K M H (.str (T t)) (.str (T t))) ⟨_, .str _⟩ ?_
    walk_at "sx"
    refine ifIsF rfl ?_
    walk_at "sx"
    refine ifIsT (decide_eq_true (by omega)) ?_
    walk_at "sx"
    refine ifIsF (by rw [decide_eq_true (by omega)]; rfl) ?_
    walk_at "sx"
    refine lc_srcM (as := t) (enc := H08.e1) (fun _ => .bl true) hw hI (.str _) rfl (szOk (by omega)) (fun _ => rfl) ?_ ?_
    · intro L acc k a v H hL ha rv wf hi ex Qe q
      cases rep_str rv
      have := h3 a (List.mem_of_getElem? ha)
      walk_at "sx"
      rw [decide_eq_true (abc_mem this.1 this.2)]
      exact q _ _ (.bl _) hi (Ex.refl _)
    · intro y H' rp ex hi
      walk_at "sx"
      refine all_M (as := t) (fun _ => true) rp ?_
      rw [show t.all (fun _ => true) = true from List.all_eq_true.mpr fun _ _ => rfl]
      exact q _ ex hi
def spIsNum : Sp := fun vs H Q _ => ∃ a l m : Int, vs = [.int a, .int l, .int m] ∧ l ≤ a ∧ a ≤ m ∧ Q (.bl true) H
theorem isi_intI {M : Addr → Prop} {H : Hp} {i : Int} {Q : VK} (q : Q (.bl true) H) : rIsi K [.int i, .ty "int"] H Q := isi_D (.int i : Rep K M H (.int i) (.int i)) (.int i) (kit_ty (b := "int") (r := true) (by decide +kernel)) q
theorem isi_intB {M : Addr → Prop} {H : Hp} {i : Int} {Q : VK} (q : Q (.bl false) H) : rIsi K [.int i, .ty "bool"] H Q := isi_D (.int i : Rep K M H (.int i) (.int i)) (.int i) (kit_ty (b := "bool") (r := false) (by decide +kernel)) q
theorem ok_is_number (B : Bl mg) (F : At K mg "is_number" s_is_number ["value", "least", "most"] []) : Df P w K mg base 1 "is_number" ["value", "least", "most"] [] spIsNum := by
  refine F.df sc_is_number (fun vs H Q E h => ?_) (fun f cdv A outer s H vs Q E hr h => ⟨_, w_is_number B hr, ?_⟩)
  · obtain ⟨a, l, m, rfl, _⟩ := h
    rfl
  · obtain ⟨a, l, m, rfl, h1, h2, q⟩ := h
    unfold t_is_number
    walk_at "sx"
    refine isi_intI (M := fun _ => False) ?_
    walk_at "sx"
    refine isi_intB (M := fun _ => False) ?_
    walk_at "sx"
    refine ifIsT (decide_eq_true h1) ?_
    walk_at "sx"
    rw [decide_eq_true h2]
    exact q
theorem nd_take {l : List (List Nat)} (h : l.Nodup) {k : Nat} {a : List Nat} (ha : l[k]? = some a) : a ∉ l.take k := fun hm => by
  obtain ⟨hk, e⟩ := List.getElem?_eq_some_iff.mp ha
  have e2 : l = l.take k ++ a :: l.drop (k + 1) := by rw [← e, List.getElem_cons_drop, List.take_append_drop]
  rw [e2] at h
  exact (List.nodup_append.mp h).2.2 a hm a List.mem_cons_self rfl
def spCheckC (K : PySem.W.Frag) : Sp := fun vs H Q _ => ∃ (M : Addr → Prop) (I : Hp → Prop) (x : V) (fr : List (List Nat × Nat)), Wf M I ∧ I H ∧ vs = [x] ∧ Rep K M H x (.lst (fr.map eC)) ∧ FrOk fr ∧ (fr.map (·.1)).Nodup ∧ 1 ≤ fr.length ∧ fr.length ≤ 12 ∧ ∀ H', Ex M H H' → I H' → Q .non H'
theorem ok_check_cells (B : Bl mg) (G1 : Df P w K mg base 1 "is_name" ["value"] [] (spIsName K)) (G2 : Df P w K mg base 1 "is_number" ["value", "least", "most"] [] spIsNum)
    (F : At K mg "check_cells" s_check_cells ["cells"] []) : Df P w K mg base 2 "check_cells" ["cells"] [] (spCheckC K) := by
  refine F.df sc_check_cells (fun vs H Q E h => ?_) (fun f cdv A outer s H vs Q E hr h => ⟨_, w_check_cells B G1 G2 hr, ?_⟩)
  · obtain ⟨M, I, x, fr, _, _, rfl, _⟩ := h
    rfl
  · obtain ⟨M, I, x, fr, hw, hI, rfl, hx, hfr, hnd, hf1, hf2, q⟩ := h
    unfold t_check_cells
    walk_at "sx"
    refine lt_tup hw hI fun p0 H1 hp0 e1 i1 => ?_
    walk_at "sx"
    refine isi_lt hp0 (hx.ex e1) ⟨_, .lst _⟩ ?_
    walk_at "sx"
    refine ifIsF rfl ?_
    walk_at "sx"
    refine len_R (hx.ex e1) (.inl rfl) ?_
    rw [List.length_map]
    walk_at "sx"
    refine ifIsT (decide_eq_true (by omega)) ?_
    walk_at "sx"
    refine ifIsF (by rw [decide_eq_true (by omega)]; rfl) ?_
    walk_at "sx"
    refine lst_mut hw i1 (by decide) fun p H2 hp np e2 w2 i2 => ?_
    walk_at "sx"
    have hx2 := ((hx.ex e1).off hp).ex e2
    refine for_enum (as := fr) (enc := eC) hx2 rfl (fun k σ H3 => ∃ u2 u3 u4 u5, σ = [some x, some (.ref p), u2, u3, u4, u5] ∧ Wf (Mq M p) (Iq I p (.lst (((fr.take k).map (·.1)).map fun l => V.str (T l)))) ∧ Iq I p (.lst (((fr.take k).map (·.1)).map fun l => V.str (T l))) H3 ∧ Ex (Mq M p) H2 H3)
      ⟨_, _, _, _, rfl, w2, i2, Ex.refl _⟩ (fun k σ H h => by obtain ⟨_, _, _, _, _, _, _, h⟩ := h; exact h) ?_ ?_
    · rintro k c v σ H3 H4 hc ⟨u2, u3, u4, u5, rfl, w3, i3, e3⟩ sm rv
      have i4 := w3.same sm i3
      have e4 := e3.trans (Ex.of sm)
      have hk := (List.getElem?_eq_some_iff.mp hc).1
      obtain ⟨hm1, hm2, ht⟩ := hfr c (List.mem_of_getElem? hc)
      walk_at "sx"
      refine isi_tup rv ⟨_, .tup _⟩ ?_
      walk_at "sx"
      refine ifIsF rfl ?_
      walk_at "sx"
      refine len_R rv (.inr rfl) ?_
      walk_at "sx"
      refine ifIsF (by simp) ?_
      walk_at "sx"
      refine gs_pair rv fun n m rn rm => ?_
      cases rep_str rn
      cases rep_int rm
      walk_at "sx"
      refine ⟨_, _, c.1, w3, i4, rfl, ht, fun H5 e5 i5 => ?_⟩
      walk_at "sx"
      refine ⟨_, 1, 4, rfl, by omega, by omega, ?_⟩
      walk_at "sx"
      refine LstS.inn (K := K) (I := Iq I p (.lst (((fr.take k).map (·.1)).map fun l => V.str (T l)))) ⟨p, rfl, fun H h => h.2⟩ i5 ?_
      have hni : c.1 ∉ (fr.take k).map (·.1) := by
        rw [List.map_take]
        exact nd_take hnd (by rw [List.getElem?_map, hc]; rfl)
      rw [decide_eq_false hni]
      walk_at "sx"
      refine ⟨tyv_l i5.2, ?_⟩
      walk_at "sx"
      refine app_mut hw np i5 (by simp; omega) fun H6 e6 w6 i6 => ?_
      have et : ((fr.take k).map (·.1)).map (fun l => V.str (T l)) ++ [V.str (T c.1)] = ((fr.take (k + 1)).map (·.1)).map fun l => V.str (T l) := by rw [take_snoc hc]; simp
      rw [et] at w6 i6
      exact ⟨_, _, _, _, rfl, w6, i6, (e4.trans e5).trans e6⟩
    · rintro σ H3 ⟨u2, u3, u4, u5, rfl, w3, i3, e3⟩
      walk_at "sx"
      exact q H3 (e1.trans ((e2.trans e3).shut hp)) i3.1
end


section
variable {P : Program} {w : World} {K : PySem.W.Frag} {mg : Str → Option Value} {base : Heap}
def spGrown (K : PySem.W.Frag) : Sp := fun vs H Q _ => ∃ (M : Addr → Prop) (I : Hp → Prop) (x : V) (S Y : List (List Nat)) (n : Nat), Wf M I ∧ I H ∧ vs = [x, .str (T (List.replicate n 46)), .int 800] ∧ Rep K M H x (.lst (S.map eS)) ∧ n ≤ 1000 ∧ S.length ≤ 1000 ∧ (∀ s ∈ S, s.length = n) ∧ RowsOf S n Y ∧
  ∀ p (F : List (List Nat)) H', H p = none → ¬ M p → H' p = some (.lst (F.map fun l => V.str (T l))) → F.Perm Y → Ex M H H' → I H' → Q (.ref p) H'
theorem ok_grown_rows (B : Bl mg) (G : Df P w K mg base 1 "over" ["newer", "older"] [] (spLay K)) (F : At K mg "grown_rows" s_grown_rows ["seeds", "first", "most"] []) : Df P w K mg base 2 "grown_rows" ["seeds", "first", "most"] [] (spGrown K) := by
  refine F.df sc_grown_rows (fun vs H Q E h => ?_) (fun f cdv A outer s H vs Q E hr h => ⟨_, w_grown_rows B G hr, ?_⟩)
  · obtain ⟨M, I, x, S, Y, n, _, _, rfl, _⟩ := h
    rfl
  · obtain ⟨M, I, x, S, Y, n, hw, hI, rfl, hx, hn, hSl, hS, hY, q⟩ := h
    unfold t_grown_rows
    refine sx_seq ?_
    with_reducible refine sx_asg ?_
    refine sx_lstm ?_
    walk_at "sx"
    refine lst_mut (xs := [.str (T (List.replicate n 46))]) hw hI (show 1 ≤ sizeLine by decide) fun p H1 hp np e1 w1 i1 => ?_
    refine gs_name ?_
    with_reducible refine sx_seq ?_
    with_reducible refine sx_asg ?_
    intro q0 hq0
    have nq : ¬ Mq M p q0 := w1.fresh i1 hq0
    have nqp : q0 ≠ p := fun e => nq (e ▸ .inr rfl)
    show tVar 1 _ _ _
    walk_at "sx"
    refine ⟨upd_same, [keyT (List.replicate n 46)], rfl, by simp, ?_⟩
    have hmk : mergeK [] [keyT (List.replicate n 46)] = [List.replicate n 46].map keyT := rfl
    rw [hmk]
    have hu : upd (upd H1 q0 (.dK [])) q0 (.dK ([List.replicate n 46].map keyT)) = upd H1 q0 (.dK ([List.replicate n 46].map keyT)) := by
      funext a
      by_cases h : a = q0
      · rw [h, upd_same, upd_same]
      · rw [upd_ne h, upd_ne h, upd_ne h]
    rw [hu]
    have e2 : Ex (Mq (Mq M p) q0) H1 (upd H1 q0 (.dK ([List.replicate n 46].map keyT))) := Ex.of (same_upd hq0)
    have i2 : Iq (Iq I p (.lst ([List.replicate n 46].map fun l => V.str (T l)))) q0 (.dK ([List.replicate n 46].map keyT)) (upd H1 q0 (.dK ([List.replicate n 46].map keyT))) := ⟨w1.same (same_upd hq0) i1, upd_same⟩
    generalize upd H1 q0 (.dK ([List.replicate n 46].map keyT)) = H2 at e2 i2
    have hx2 : Rep K (Mq (Mq M p) q0) H2 x (.lst (S.map eS)) := (((hx.off hp).ex e1).off hq0).ex e2
    clear w1
    refine gs_name ?_
    walk_at "sx"
    have hbound : ∀ {F : List (List Nat)}, F.Nodup → (∀ r ∈ F, Cl S n r) → F.length ≤ 40 := fun {F} nd hc => Nat.le_trans (nodup_len nd fun r hr => (hY.mem r).mpr (hc r hr)) hY.len
    let W : Nat → L2.St → Hp → Prop := fun m σ H => ∃ (F : List (List Nat)) (k : Nat) (u6 u7 : Option V), m = 41 - k ∧ k ≤ F.length ∧ σ = [some x, some (.str (T (List.replicate n 46))), some (.int 800), some (.ref p), some (.ref q0), some (.int (k : Nat)), u6, u7] ∧ Iq (Iq I p (.lst (F.map fun l => V.str (T l)))) q0 (.dK (F.map keyT)) H ∧ Ex (Mq (Mq M p) q0) H2 H ∧
        F.Nodup ∧ List.replicate n 46 ∈ F ∧ (∀ r ∈ F, Cl S n r) ∧ ∀ i r, i < k → F[i]? = some r → ∀ s ∈ S, lay s r ∈ F
    have fin : ∀ (F : List (List Nat)) (u6 u7 : Option V) (H4 : Hp), True → Iq (Iq I p (.lst (F.map fun l => V.str (T l)))) q0 (.dK (F.map keyT)) H4 → Ex (Mq (Mq M p) q0) H2 H4 → F.Nodup → List.replicate n 46 ∈ F → (∀ r ∈ F, Cl S n r) → (∀ i r, i < F.length → F[i]? = some r → ∀ s ∈ S, lay s r ∈ F) → Q (.ref p) H4 := by
      intro F u6 u7 H4 _ i4 e4 nd h0 hcl hdone
      have hmem : ∀ r, r ∈ F ↔ Cl S n r := fun r => by
        refine ⟨hcl r, cl_in h0 (fun r hr s hs => ?_) r⟩
        obtain ⟨i, hi⟩ := List.getElem?_of_mem hr
        have := (List.getElem?_eq_some_iff.mp hi).1
        exact hdone i r (by omega) hi s hs
      have hperm : F.Perm Y := (List.perm_ext_iff_of_nodup nd hY.nd).mpr fun r => by rw [hmem, hY.mem]
      exact q p F H4 hp np i4.1.2 hperm ((e1.trans ((e2.trans e4).shut hq0)).shut hp) i4.1.1
    refine ⟨W, ⟨_, [List.replicate n 46], 0, _, _, rfl, by simp, rfl, i2, Ex.refl _, by simp, by simp, fun r hr => by rw [List.mem_singleton.mp hr]; exact .base, fun i r h => by omega⟩, ?_⟩
    rintro m σ H3 ⟨F, k, u6, u7, rfl, hk, rfl, i3, e3, nd, h0, hcl, hdone⟩
    have hFl := hbound nd hcl
    walk_at "sx"
    refine len_raw i3.1.2 ?_
    rw [List.length_map]
    walk_at "sx"
    refine ifB (fun h => ?_) (fun h => ?_)
    · have hkF : k < F.length := by have := of_decide_eq_true h; omega
      walk_at "sx"
      refine len_raw i3.1.2 ?_
      rw [List.length_map]
      walk_at "sx"
      refine ifIsT (decide_eq_true (by omega)) ?_
      refine ⟨fun σ' H' => ∃ m', m' < 41 - k ∧ W m' σ' H', fun _ _ h => h, ?_⟩
      have hcr : Cl S n F[k] := hcl _ (List.getElem_mem hkF)
      have hFk := hcr.len hS
      walk_at "sx"
      refine for_src (K := K) (M := Mq (Mq M p) q0) (as := S) (enc := eS) (hx2.ex e3) rfl (fun j σ H => ∃ (G : List (List Nat)) (u6 u7 : Option V), σ = [some x, some (.str (T (List.replicate n 46))), some (.int 800), some (.ref p), some (.ref q0), some (.int (k : Nat)), u6, u7] ∧ Iq (Iq I p (.lst ((F ++ G).map fun l => V.str (T l)))) q0 (.dK ((F ++ G).map keyT)) H ∧ Ex (Mq (Mq M p) q0) H3 H ∧
          (F ++ G).Nodup ∧ (∀ r ∈ G, Cl S n r) ∧ ∀ s ∈ S.take j, lay s F[k] ∈ F ++ G)
        ⟨[], _, _, rfl, by rw [List.append_nil]; exact i3, Ex.refl _, by rw [List.append_nil]; exact nd, all_nil, fun s h => by simp at h⟩ (fun k σ H h => by obtain ⟨_, _, _, _, _, h, _⟩ := h; exact h) ?_ ?_
      · rintro j s v σ H5 ha ⟨G, u6, u7, rfl, i5, e5, nd5, hc5, hd5⟩ rv
        cases rep_str rv
        have hsS := List.mem_of_getElem? ha
        have hsl := hS s hsS
        have hbd := hbound nd5 fun r hr => by
          rcases List.mem_append.mp hr with z | z
          · exact hcl r z
          · exact hc5 r z
        have hw5 := (hw.add p (.lst ((F ++ G).map fun l => V.str (T l)))).add q0 (.dK ((F ++ G).map keyT))
        walk_at "sx"
        refine ix_raw (v := .str (T F[k])) i5.1.2 ?_ ?_
        · have hkG : k < (F ++ G).length := by rw [List.length_append]; omega
          unfold atI
          rw [show ixN ((F ++ G).map fun l => V.str (T l)).length ((k : Nat) : Int) = some k by unfold ixN; rw [if_pos (by omega), if_pos (by rw [List.length_map]; omega)]; simp]
          rw [Option.bind_some, List.getElem?_map, List.getElem?_append_left hkF, List.getElem?_eq_getElem hkF]
          rfl
        walk_at "sx"
        refine ⟨_, _, s, F[k], hw5, i5, rfl, by omega, fun H6 e6 i6 => ?_⟩
        have e56 := e5.trans e6
        walk_at "sx"
        with_reducible refine sx_dni ?_
        walk_at "sx"
        refine ⟨_, _, rfl, DGet.k (k := .inr (T (lay s F[k]))) i6.2, ?_⟩
        rw [valV_key]
        walk_at "sx"
        refine ifB (fun h => ?_) (fun h => ?_)
        · have hnin : lay s F[k] ∉ F ++ G := by simpa using h
          with_reducible refine sx_seq ?_
          with_reducible refine sx_dput ?_
          walk_at "sx"
          refine ⟨_, _, rfl, DPut.k (k := .inr (T (lay s F[k]))) i6.2 (by rw [List.length_map]; exact Nat.lt_of_lt_of_le (show (F ++ G).length < 100000 by omega) (by decide)), ?_⟩
          rw [putK_key hnin]
          have i7 : Iq (Iq I p (.lst ((F ++ G).map fun l => V.str (T l)))) q0 (.dK ((F ++ G ++ [lay s F[k]]).map keyT)) (upd H6 q0 (.dK ((F ++ G ++ [lay s F[k]]).map keyT))) := ((hw.add p _).put nq i6).1
          have e7 : Ex (Mq (Mq M p) q0) H6 (upd H6 q0 (.dK ((F ++ G ++ [lay s F[k]]).map keyT))) := fun a o n h => by rw [upd_ne fun z => n (.inr z)]; exact h
          generalize upd H6 q0 (.dK ((F ++ G ++ [lay s F[k]]).map keyT)) = H7 at i7 e7
          walk_at "sx"
          refine ⟨tyv_l i7.1.2, ?_⟩
          walk_at "sx"
          refine ⟨p, _, .str (T (lay s F[k])), rfl, rfl, i7.1.2, Nat.lt_of_lt_of_le (show ((F ++ G).map fun l => V.str (T l)).length < 100000 by rw [List.length_map]; omega) (by decide), ?_⟩
          rw [map_snocS]
          have i8 : Iq (Iq I p (.lst ((F ++ G ++ [lay s F[k]]).map fun l => V.str (T l)))) q0 (.dK ((F ++ G ++ [lay s F[k]]).map keyT)) (upd H7 p (.lst ((F ++ G ++ [lay s F[k]]).map fun l => V.str (T l)))) := by
            obtain ⟨u1, u2⟩ := hw.put (o' := .lst ((F ++ G ++ [lay s F[k]]).map fun l => V.str (T l))) np i7.1
            exact ⟨u1, by rw [upd_ne nqp]; exact i7.2⟩
          have e8 : Ex (Mq (Mq M p) q0) H7 (upd H7 p (.lst ((F ++ G ++ [lay s F[k]]).map fun l => V.str (T l)))) := fun a o n h => by rw [upd_ne fun z => n (.inl (.inr z))]; exact h
          generalize upd H7 p (.lst ((F ++ G ++ [lay s F[k]]).map fun l => V.str (T l))) = H8 at i8 e8
          refine ⟨G ++ [lay s F[k]], _, _, rfl, by rw [← List.append_assoc]; exact i8, (e56.trans e7).trans e8, ?_, ?_, ?_⟩
          · rw [← List.append_assoc]
            exact List.nodup_append.mpr ⟨nd5, by simp, fun a ha b hb => by rw [List.mem_singleton.mp hb]; exact fun e => hnin (e ▸ ha)⟩
          · intro r hr
            rcases List.mem_append.mp hr with z | z
            · exact hc5 r z
            · rw [List.mem_singleton.mp z]; exact .step hsS hcr
          · intro s2 h2
            rw [take_snoc ha] at h2
            rcases List.mem_append.mp h2 with z | z
            · rw [← List.append_assoc]
              exact List.mem_append.mpr (.inl (hd5 s2 z))
            · rw [List.mem_singleton.mp z, ← List.append_assoc]
              exact List.mem_append.mpr (.inr List.mem_cons_self)
        · have hin : lay s F[k] ∈ F ++ G := by
            have h : (!decide (lay s F[k] ∈ F ++ G)) = false := h
            rw [Bool.not_eq_false'] at h
            exact of_decide_eq_true h
          refine sx_next ?_
          refine ⟨G, _, _, rfl, i6, e56, nd5, hc5, fun s2 h2 => ?_⟩
          rw [take_snoc ha] at h2
          rcases List.mem_append.mp h2 with z | z
          · exact hd5 s2 z
          · rw [List.mem_singleton.mp z]; exact hin
      · rintro σ H5 ⟨G, u6, u7, rfl, i5, e5, nd5, hc5, hd5⟩
        rw [List.take_length] at hd5
        walk_at "sx"
        have ek : ((k : Nat) : Int) + 1 = ((k + 1 : Nat) : Int) := by omega
        rw [ek]
        refine ⟨41 - (k + 1), by omega, F ++ G, k + 1, _, _, rfl, by rw [List.length_append]; omega, rfl, i5, e3.trans e5, nd5, List.mem_append.mpr (.inl h0), fun r hr => ?_, fun i r hi hr s hs => ?_⟩
        · rcases List.mem_append.mp hr with z | z
          · exact hcl r z
          · exact hc5 r z
        · by_cases hik : i < k
          · have hiF : i < F.length := by omega
            have : F[i]? = some r := by rw [List.getElem?_append_left hiF] at hr; exact hr
            exact List.mem_append.mpr (.inl (hdone i r hik this s hs))
          · have e : i = k := by omega
            subst e
            have : r = F[i] := by
              rw [List.getElem?_append_left hkF] at hr
              simp [hkF] at hr
              exact hr.symm
            rw [this]
            exact hd5 s hs
    · have hkF : k = F.length := by have := of_decide_eq_false h; omega
      refine ifF ?_
      walk_at "sx"
      refine fin F u6 u7 H3 trivial i3 e3 nd h0 hcl fun i r hi => hdone i r (by omega)
end


section
variable {P : Program} {w : World} {K : PySem.W.Frag} {mg : Str → Option Value} {base : Heap}
def spCheckS (K : PySem.W.Frag) : Sp := fun vs H Q _ => ∃ (M : Addr → Prop) (I : Hp → Prop) (x y : V) (fr : List (List Nat × Nat)) (S : List (List Nat)), Wf M I ∧ I H ∧ vs = [x, y] ∧ Rep K M H x (.lst (fr.map eC)) ∧ fr.length ≤ 12 ∧ Rep K M H y (.lst (S.map eS)) ∧ S.length ≤ 30 ∧ GoodS fr S ∧ ∀ H', Ex M H H' → I H' → Q .non H'
theorem ok_check_seeds (B : Bl mg) (G1 : Df P w K mg base 1 "blank" ["many"] [] (spBlank K)) (G2 : Df P w K mg base 1 "is_row" ["cells", "value"] [] (spIsRowD K))
    (F : At K mg "check_seeds" s_check_seeds ["cells", "seeds"] []) : Df P w K mg base 2 "check_seeds" ["cells", "seeds"] [] (spCheckS K) := by
  refine F.df sc_check_seeds (fun vs H Q E h => ?_) (fun f cdv A outer s H vs Q E hr h => ⟨_, w_check_seeds B G1 G2 hr, ?_⟩)
  · obtain ⟨M, I, x, y, fr, S, _, _, rfl, _⟩ := h
    rfl
  · obtain ⟨M, I, x, y, fr, S, hw, hI, rfl, hx, hf, hy, hSl, hS, q⟩ := h
    unfold t_check_seeds
    walk_at "sx"
    refine lt_tup hw hI fun p0 H1 hp0 e1 i1 => ?_
    walk_at "sx"
    refine isi_lt hp0 (hy.ex e1) ⟨_, .lst _⟩ ?_
    walk_at "sx"
    refine ifIsF rfl ?_
    walk_at "sx"
    refine len_R (hy.ex e1) (.inl rfl) ?_
    rw [List.length_map]
    walk_at "sx"
    refine ifIsF (decide_eq_false (by omega)) ?_
    walk_at "sx"
    refine for_enum (as := S) (enc := eS) (hy.ex e1) rfl (fun k σ H3 => ∃ u2 u3, σ = [some x, some y, u2, u3, none] ∧ I H3 ∧ Ex M H1 H3)
      ⟨_, _, rfl, i1, Ex.refl _⟩ (fun k σ H h => by obtain ⟨_, _, _, _, h⟩ := h; exact h) ?_ ?_
    · rintro k s v σ H3 H4 hs ⟨u2, u3, rfl, i3, e3⟩ sm rv
      cases rep_str rv
      have i4 := hw.same sm i3
      have e4 : Ex M H1 H4 := e3.trans (Ex.of sm)
      have e04 := e1.trans e4
      have hsS := List.mem_of_getElem? hs
      obtain ⟨hrow, j, c, hj1, hj2⟩ := hS.rw s hsS
      have hsl := isRow_len hrow
      walk_at "sx"
      refine ⟨M, I, x, .str (T s), fr, .str (T s), hw, i4, rfl, .ofL (hx.ex e04), .str _, ⟨_, .str _⟩, fun l e => by cases (T_inj (by injection e) : s = l); omega, by omega, fun H5 e5 i5 => ?_⟩
      rw [show isRowD fr (.str (T s)) = true from hrow]
      walk_at "sx"
      refine len_R ((hx.ex e04).ex e5) (.inl rfl) ?_
      rw [List.length_map]
      walk_at "sx"
      refine ⟨fr.length, rfl, by omega, ?_⟩
      walk_at "sx"
      refine ifIsF (decide_eq_false fun e => ?_) ?_
      · rw [e] at hj1
        exact hj2 (List.eq_of_mem_replicate (List.mem_of_getElem? hj1))
      walk_at "sx"
      refine sl_Lto hw i5 ((hy.ex e04).ex e5) fun v6 H6 e6 i6 r6 => ?_
      rw [← List.map_take] at r6
      refine in_L (ls := S.take k) r6 (.inl rfl) ?_
      rw [decide_eq_false (nd_take hS.nd hs)]
      walk_at "sx"
      exact ⟨_, _, rfl, i6, (e4.trans e5).trans e6⟩
    · rintro σ H3 ⟨u2, u3, rfl, i3, e3⟩
      have e03 := e1.trans e3
      walk_at "sx"
      refine for_enum (as := fr) (enc := eC) (hx.ex e03) rfl (fun k σ H4 => ∃ u2 u3 u4, σ = [some x, some y, u2, u3, u4] ∧ I H4 ∧ Ex M H3 H4)
        ⟨_, _, _, rfl, i3, Ex.refl _⟩ (fun k σ H h => by obtain ⟨_, _, _, _, _, h⟩ := h; exact h) ?_ ?_
      · rintro k c v σ H4 H5 hc ⟨u2, u3, u4, rfl, i4, e4⟩ sm rv
        have i5 := hw.same sm i4
        have e5 : Ex M H3 H5 := e4.trans (Ex.of sm)
        have hk := (List.getElem?_eq_some_iff.mp hc).1
        walk_at "sx"
        refine lc_srcM (as := S) (enc := eS) (fun s => .bl (decide (s.getD k 46 = 46))) hw i5 ((hy.ex e03).ex e5) rfl (szOk (by omega)) (fun _ => rfl) ?_ ?_
        · intro L acc k2 s v H6 hL ha rv wf hi ex Qe qe
          cases rep_str rv
          have hsl := isRow_len (hS.rw s (List.mem_of_getElem? ha)).1
          walk_at "sx"
          refine ix_T (z := s.getD k 46) (by walk_at "sz") (by simp [List.getD_eq_getElem?_getD, show k < s.length by omega]) ?_
          walk_at "sx"
          (try rw [dec1])
          exact qe _ _ (.bl _) hi (Ex.refl _)
        · intro y7 H7 r7 e7 i7
          walk_at "sx"
          refine all_M (as := S) (fun s => decide (s.getD k 46 = 46)) r7 ?_
          have hno : S.all (fun s => decide (s.getD k 46 = 46)) = false := by
            obtain ⟨s, hs, c, h1, h2⟩ := hS.all k hk
            rw [List.all_eq_false]
            refine ⟨s, hs, ?_⟩
            rw [List.getD_eq_getElem?_getD, h1]
            simpa using h2
          rw [hno]
          walk_at "sx"
          exact ⟨_, _, _, rfl, i7, e5.trans e7⟩
      · rintro σ H4 ⟨u2, u3, u4, rfl, i4, e4⟩
        walk_at "sx"
        exact q H4 (e03.trans e4) i4
/-- the fields of a band -/
def bandD (fr : List (List Nat × Nat)) (S Y R : List (List Nat)) : List (Str × D) := [("cell_list", .lst (fr.map eC)), ("seed_list", .lst (S.map eS)), ("row_list", .lst (Y.map eS)), ("known_rows", .dct (R.map fun r => ((.inr (T r) : Key), D.bl true))), ("lot_list", .lst ((ordF gC (Y.map lot)).map eS))]
def Flds (K : PySem.W.Frag) (M : Addr → Prop) (H : Hp) (fs : List (Str × V)) (ds : List (Str × D)) : Prop := (∀ f d, ds.lookup f = some d → ∃ u, fs.lookup f = some u ∧ Rep K M H u d) ∧ ∀ f, ds.lookup f = none → fs.lookup f = none
theorem flds_nil {M : Addr → Prop} {H : Hp} : Flds K M H [] [] := ⟨fun f d h => (nomatch h), fun f _ => rfl⟩
theorem flds_put {M : Addr → Prop} {H : Hp} {fs : List (Str × V)} {ds : List (Str × D)} {f : Str} {u : V} {d : D} (h : Flds K M H fs ds) (r : Rep K M H u d) (hn : ds.lookup f = none) : Flds K M H (putF f u fs) (ds ++ [(f, d)]) := by
  have key : ∀ (l : List (Str × D)) (g : Str), (l ++ [(f, d)]).lookup g = (match l.lookup g with | some x => some x | none => if g = f then some d else none) := by
    intro l g
    induction l with
    | nil =>
      show List.lookup g [(f, d)] = _
      by_cases e : g = f
      · subst e; simp [List.lookup]
      · have : (g == f) = false := by simpa using e
        simp [List.lookup, this, e]
    | cons a l ih =>
      obtain ⟨a1, a2⟩ := a
      by_cases e : g = a1
      · subst e; simp [List.lookup]
      · have : (g == a1) = false := by simpa using e
        simp only [List.cons_append, List.lookup, this]
        exact ih
  refine ⟨fun g e hg => ?_, fun g hg => ?_⟩
  · rw [key] at hg
    rw [lookup_putF]
    by_cases hgf : g = f
    · subst hgf
      rw [hn] at hg
      simp at hg
      subst hg
      exact ⟨u, by simp, r⟩
    · cases hl : ds.lookup g with
      | none =>
        rw [hl] at hg
        simp [hgf] at hg
      | some x =>
        rw [hl] at hg
        cases hg
        rw [if_neg hgf]
        exact h.1 g _ hl
  · rw [key] at hg
    rw [lookup_putF]
    by_cases hgf : g = f
    · subst hgf
      rw [hn] at hg
      simp at hg
    · cases hl : ds.lookup g with
      | none =>
        rw [if_neg hgf]
        exact h.2 g hl
      | some x =>
        rw [hl] at hg
        cases hg
theorem Flds.ex {M : Addr → Prop} {H H' : Hp} {fs : List (Str × V)} {ds : List (Str × D)} (e : Ex M H H') (h : Flds K M H fs ds) : Flds K M H' fs ds := ⟨fun f d hf => by obtain ⟨u, l, r⟩ := h.1 f d hf; exact ⟨u, l, r.ex e⟩, h.2⟩
end


section
variable {P : Program} {w : World} {K : PySem.W.Frag} {mg : Str → Option Value} {base : Heap}
def spInit (K : PySem.W.Frag) : Sp := fun vs H Q _ => ∃ (M : Addr → Prop) (I : Hp → Prop) (a dx : Addr) (cv sv : V) (fr : List (List Nat × Nat)) (S Y : List (List Nat)), Wf M I ∧ ¬ M a ∧ Iq I a (.ins (He.ga K "Band") dx []) H ∧ vs = [.ref a, cv, sv, .int 800] ∧ Rep K (Mq M a) H cv (.lst (fr.map eC)) ∧ FrOk fr ∧ (fr.map (·.1)).Nodup ∧ 1 ≤ fr.length ∧ fr.length ≤ 12 ∧
  Rep K (Mq M a) H sv (.lst (S.map eS)) ∧ S.length ≤ 30 ∧ GoodS fr S ∧ RowsOf S fr.length Y ∧ ∀ fs R H', R.Perm Y → Flds K (Mq M a) H' fs (bandD fr S Y R) → Ex (Mq M a) H H' → Iq I a (.ins (He.ga K "Band") dx fs) H' → Q .non H'
theorem lput {n : Nat} {f : Str} {y : V} {fs : List (Str × V)} (h : fs.length ≤ n) : (putF f y fs).length ≤ n + 1 := by
  have := length_putF f y fs; omega
theorem ord_rep {M : Addr → Prop} {H : Hp} {p : Addr} {S : List (List Nat)} (np : ¬ M p) (h : H p = some (.lst (S.map fun l => V.str (T l)))) : Rep K M H (.ref p) (.lst (S.map eS)) := .lst h np (reps_S S)
theorem sorted_is {F Y : List (List Nat)} {S : List (List Nat)} {n : Nat} {ys : List Str} (hY : RowsOf S n Y) (hp : F.Perm Y) (h1 : ys.Perm (F.map T)) (h2 : sortedS ys = true) : ys = Y.map T := by
  have eY : ∃ Z : List (List Nat), ys = Z.map T ∧ Z.Perm F := by
    refine ⟨ys.map fun z => z.cps.toList, ?_, ?_⟩
    · rw [List.map_map]
      conv => lhs; rw [← List.map_id ys]
      refine List.map_congr_left fun z hz => ?_
      obtain ⟨l, _, rfl⟩ := List.mem_map.mp (h1.mem_iff.mp hz)
      rfl
    · have := h1.map fun z => z.cps.toList
      rw [List.map_map] at this
      have e : (F.map ((fun z : Str => z.cps.toList) ∘ T)) = F := by
        conv => rhs; rw [← List.map_id F]
        rfl
      rw [e] at this
      exact this
  obtain ⟨Z, rfl, hZ⟩ := eY
  rw [sort_one h2 hY.so (hZ.nodup_iff.mpr (hp.nodup_iff.mpr hY.nd)) hY.nd fun r => by rw [hZ.mem_iff, hp.mem_iff]]
theorem ok_init (B : Bl mg) (CB : ClsF K "Band" fl_Band) (G1 : Df P w K mg base 1 "blank" ["many"] [] (spBlank K)) (G2 : Df P w K mg base 2 "check_cells" ["cells"] [] (spCheckC K)) (G3 : Df P w K mg base 2 "check_seeds" ["cells", "seeds"] [] (spCheckS K)) (G4 : Df P w K mg base 2 "grown_rows" ["seeds", "first", "most"] [] (spGrown K)) (G5 : Df P w K mg base 1 "is_number" ["value", "least", "most"] [] spIsNum) (G6 : Df P w K mg base 1 "lot_of" ["row"] [] (spLot K)) (G7 : Df P w K mg base 4 "ordered_lots" ["lots"] [] (spOrd K))
    (F : AtI K mg "Band" "Band.__init__" s_Band___init__ ["self", "cells", "seeds", "most"] [.int 800]) : DfI P w K mg base 5 "Band" ["self", "cells", "seeds", "most"] [.int 800] (spInit K) := by
  refine F.df sc_Band___init__ (fun vs H Q E h => ?_) (fun f cdv A outer s H vs Q E hr h => ⟨_, w_Band___init__ B CB G1 G2 G3 G4 G5 G6 G7 hr, ?_⟩)
  · obtain ⟨M, I, a, dx, cv, sv, fr, S, Y, _, _, _, rfl, _⟩ := h
    rfl
  · obtain ⟨M, I, a, dx, cv, sv, fr, S, Y, hw, na, i0, rfl, hc, hfr, hnd, hf1, hf2, hs, hSl, hS, hY, q⟩ := h
    have hWf : ∀ fs, Wf (Mq M a) (Iq I a (.ins (He.ga K "Band") dx fs)) := fun fs => hw.add a _
    have lnS : ∀ s ∈ S, s.length = fr.length := fun s h => isRow_len (hS.rw s h).1
    unfold t_Band___init__
    walk_at "sx"
    refine ⟨_, _, cv, fr, hWf [], i0, rfl, hc, hfr, hnd, hf1, hf2, fun H1 e1 i1 => ?_⟩
    walk_at "sx"
    refine ⟨_, _, cv, sv, fr, S, hWf [], i1, rfl, hc.ex e1, hf2, hs.ex e1, hSl, hS, fun H2 e2 i2 => ?_⟩
    walk_at "sx"
    refine ⟨800, 1, 800, rfl, by omega, by omega, ?_⟩
    walk_at "sx"
    have e02 := e1.trans e2
    refine len_R (hc.ex e02) (.inl rfl) ?_
    rw [List.length_map]
    walk_at "sx"
    refine ⟨fr.length, rfl, by omega, ?_⟩
    walk_at "sx"
    refine ⟨_, _, sv, S, Y, fr.length, hWf [], i2, rfl, hs.ex e02, by omega, by omega, lnS, hY, fun p R H3 _ np hp hperm e3 i3 => ?_⟩
    have rp : Rep K (Mq M a) H3 (.ref p) (.lst (R.map eS)) := ord_rep np hp
    have hRl : R.length ≤ 40 := by rw [hperm.length_eq]; exact hY.len
    have hRn : R.Nodup := hperm.nodup_iff.mpr hY.nd
    have hRrow : ∀ r ∈ R, r.length = fr.length := fun r hr => ((hY.mem r).mp (hperm.mem_iff.mp hr)).len lnS
    have e03 := e02.trans e3
    walk_at "sx"
    refine len_R rp (.inl rfl) ?_
    rw [List.length_map]
    walk_at "sx"
    refine ifIsF (decide_eq_false (by omega)) ?_
    walk_at "sx"
    with_reducible refine sx_sfld ?_
    walk_at "sx"
    refine list_R (hWf []) i3 (hc.ex e03) (.inl rfl) fun v4 H4 e4 i4 r4 => ?_
    walk_at "sx"
    refine set_fld hw na i4 CB (by decide) (by decide) fun H5 e5 i5 => ?_
    have f5 := flds_put (f := "cell_list") (flds_nil (K := K) (M := Mq M a) (H := H5)) (r4.ex e5) rfl
    have e35 := e4.trans e5
    walk_at "sx"
    with_reducible refine sx_sfld ?_
    walk_at "sx"
    refine list_R (hWf _) i5 (hs.ex (e03.trans e35)) (.inl rfl) fun v6 H6 e6 i6 r6 => ?_
    walk_at "sx"
    refine set_fld hw na i6 CB (by decide) (Nat.lt_of_le_of_lt (lput (Nat.le_refl 0)) (by decide)) fun H7 e7 i7 => ?_
    have e57 := e6.trans e7
    have f7 := flds_put (f := "seed_list") (f5.ex e57) (r6.ex e7) rfl
    have e37 := e35.trans e57
    walk_at "sx"
    with_reducible refine sx_sfld ?_
    walk_at "sx"
    refine ⟨p, R.map T, rfl, by rw [List.map_map]; exact SqL.of ((e37 p _ np hp)), by rw [List.length_map]; omega, fun ys p8 hys hso hp8 => ?_⟩
    have eys := sorted_is hY hperm hys hso
    subst eys
    have s8 := same_upd (o := .lst ((Y.map T).map V.str)) hp8
    have i8 := (hWf _).same s8 i7
    have np8 := (hWf _).fresh i7 hp8
    have e8 := Ex.of (M := Mq M a) s8
    have r8 : Rep K (Mq M a) (upd H7 p8 (.lst ((Y.map T).map V.str))) (.ref p8) (.lst (Y.map eS)) := by
      refine .lst upd_same np8 ?_
      rw [List.map_map]
      exact reps_S Y
    generalize upd H7 p8 (.lst ((Y.map T).map V.str)) = H8 at i8 e8 r8
    walk_at "sx"
    refine set_fld hw na i8 CB (by decide) (Nat.lt_of_le_of_lt (lput (lput (Nat.le_refl 0))) (by decide)) fun H9 e9 i9 => ?_
    have e79 := e8.trans e9
    have f9 := flds_put (f := "row_list") (f7.ex e79) (r8.ex e9) rfl
    have e39 := e37.trans e79
    walk_at "sx"
    with_reducible refine sx_sfld ?_
    with_reducible refine sx_dc ?_
    walk_at "sx"
    refine dc_true (F := R) (hWf _) i9 (rp.ex e39) rfl hRn (by omega) (fun _ => rfl) (fun _ => rfl) fun D H10 hD nD hDd e10 i10 => ?_
    walk_at "sx"
    have r10 : Rep K (Mq M a) H10 (.ref D) (.dct (R.map fun r => ((.inr (T r) : Key), Nt.D.bl true))) := by
      refine .dct hDd nD (by rw [List.map_map, List.map_map]; rfl) ?_
      rw [List.map_map, List.map_map]
      exact Reps.scal (f := fun _ => V.bl true) (g := fun _ => Nt.D.bl true) (fun _ => .bl _) R
    refine set_fld hw na i10 CB (by decide) (Nat.lt_of_le_of_lt (lput (lput (lput (Nat.le_refl 0)))) (by decide)) fun H11 e11 i11 => ?_
    have e9B := e10.trans e11
    have f11 := flds_put (f := "known_rows") (f9.ex e9B) (r10.ex e11) rfl
    have e3B := e39.trans e9B
    walk_at "sx"
    with_reducible refine sx_sfld ?_
    walk_at "sx"
    refine lc_srcM (as := R) (enc := eS) (fun r => eS (lot r)) (hWf _) i11 (rp.ex e3B) rfl (szOk (by omega)) (fun _ => rfl) ?_ ?_
    · intro L acc k r v H hL ha rv wf hi ex Qe qe
      cases rep_str rv
      have := hRrow r (List.mem_of_getElem? ha)
      walk_at "sx"
      refine ⟨_, _, r, wf, hi, rfl, by omega, fun H' e' i' => ?_⟩
      exact qe _ _ (.str _) i' e'
    intro y12 H12 r12 e12 i12
    have h12 : (R.map fun r => eS (lot r)) = (R.map lot).map eS := by rw [List.map_map]; rfl
    rw [h12] at r12
    walk_at "sx"
    refine ⟨_, _, y12, _, R.map lot, hWf _, i12, rfl, r12, .inl rfl, by rw [List.length_map]; omega, fun l hl => by obtain ⟨r, _, rfl⟩ := List.mem_map.mp hl; exact lotS_lot r, fun p13 H13 _ np13 hp13 e13 i13 => ?_⟩
    have r13 : Rep K (Mq M a) H13 (.ref p13) (.lst ((ordF gC (R.map lot)).map eS)) := ord_rep np13 hp13
    rw [show ordF gC (R.map lot) = ordF gC (Y.map lot) from sort_two (ordF_pw _ _) (ordF_pw _ _) (ordF_nd _ _) (ordF_nd _ _) fun r => by
      rw [ordF_mem, ordF_mem]
      exact (hperm.map lot).mem_iff] at r13
    walk_at "sx"
    refine set_fld hw na i13 CB (by decide) (Nat.lt_of_le_of_lt (lput (lput (lput (lput (Nat.le_refl 0))))) (by decide)) fun H14 e14 i14 => ?_
    have eBE := (e12.trans e13).trans e14
    have f14 := flds_put (f := "lot_list") (f11.ex eBE) (r13.ex e14) rfl
    exact q _ R H14 hperm f14 (e03.trans (e3B.trans eBE)) i14
end


section
variable {P : Program} {w : World} {K : PySem.W.Frag} {mg : Str → Option Value} {base : Heap}
theorem ok_come_coming (B : Bl mg) (L : At K mg "come" s_come ["cells", "seeds", "row"] []) (G1 : Df P w K mg base 2 "bar_lines" ["cells", "seeds", "row", "told"] [] (spBars K)) (G2 : Df P w K mg base 1 "is_row" ["cells", "value"] [] (spIsRowD K)) (G3 : Df P w K mg base 1 "lot_of" ["row"] [] (spLot K)) (G4 : Df P w K mg base 4 "taking" ["seeds", "row"] [] (spTaking K))
    (F : AtA K mg "come_coming" "come" s_come ["cells", "seeds", "row"] []) : Df P w K mg base 5 "come_coming" ["cells", "seeds", "row"] [] (spCome K) := by
  have G2r := row_str G2
  refine F.df sc_come (fun vs H Q E h => ?_) (fun f cdv A outer s H vs Q E hr h => ⟨_, w_come B G1 G2r G3 G4 hr, ?_⟩)
  · obtain ⟨M, I, c, x, fr, S, r, _, _, rfl, _⟩ := h
    rfl
  · obtain ⟨M, I, c, x, fr, S, r, hw, hI, rfl, hc, hx, hr, hS0, hrow, hS, q⟩ := h
    have hfr := isRow_len hrow
    unfold t_come
    walk_at "sx"
    refine ⟨M, I, c, fr, r, hw, hI, rfl, hc, hr, by omega, fun H1 e1 i1 => ?_⟩
    rw [hrow]
    walk_at "sx"
    refine ⟨M, I, x, S, r, hw, i1, rfl, hx.ex e1, hr, hS, fun y H2 e2 i2 r2 => ?_⟩
    refine gs_pair r2 fun y1 y2 r3 r4 => ?_
    cases rep_str r4
    have l1 : (taken S r).1.length ≤ r.length := Nat.le_trans (takes_len _ _ _ _ _) (by simp)
    have l2 : (taken S r).2.length = r.length := takes_tlen S r hS _ _ _ (by simp)
    walk_at "sx"
    rename_i z1 H3 e3 i3 r5 z2 H4 e4 i4 r6
    refine lc_srcM (as := (taken S r).1) (enc := eS) (fun s => .tup [eS kTake, eS s]) hw i4 ((r3.ex e3).ex e4) rfl (szOk (by omega)) (fun _ => rfl) ?_ ?_
    · intro L acc k a v H5 hL ha rv wf hi ex Qe qe
      cases rep_str rv
      walk_at "sx"
      exact qe _ _ (by assumption) (by assumption) (by assumption)
    · intro y6 H6 r7 e6 i6
      refine add_LL hw i6 (r6.ex e6) r7 (szOk (by simp; omega)) fun v7 H7 e7 i7 r8 => ?_
      walk_at "sx"
      refine ⟨M, I, r, hw, i7, rfl, hr, fun H8 e8 i8 => ?_⟩
      walk_at "sx"
      refine ifB (fun h => ?_) (fun h => ?_)
      · have ht : (taken S r).2 = lot r := by simpa using h
        walk_at "sx"
        rename_i u1 H9 e9 i9 r9 u2 H10 e10 i10 r10
        refine add_LL hw i10 (((r8.ex e8).ex e9).ex e10) r10 (szOk (by simp; omega)) fun v11 H11 e11 i11 r11 => ?_
        refine q v11 H11 (by walk_at "ex") i11 ?_
        simp only [paper, if_pos ht]
        exact r11
      · have ht : ¬ (taken S r).2 = lot r := by simpa using h
        walk_at "sx"
        refine ⟨M, I, c, x, fr, S, r, _, hw, i8, rfl, hc.ex (by walk_at "ex"), hx.ex (by walk_at "ex"), hr, by omega, l2, hS0, hS, fun y9 H9 e9 i9 r9 => ?_⟩
        refine add_LL hw i9 ((r8.ex e8).ex e9) r9 (szOk ?_) fun v10 H10 e10 i10 r10 => ?_
        · have := bars_len fr S r (taken S r).2
          simp; omega
        · walk_at "sx"
          rename_i u1 H11 e11 i11 r11 u2 H12 e12 i12 r12
          refine add_LL hw i12 ((r10.ex e11).ex e12) r12 (szOk ?_) fun v13 H13 e13 i13 r13 => ?_
          · have := bars_len fr S r (taken S r).2
            simp; omega
          refine q v13 H13 (by walk_at "ex") i13 ?_
          simp only [paper, if_neg ht]
          rw [← List.append_assoc]
          exact r13
end


section
variable {P : Program} {w : World} {K : PySem.W.Frag} {mg : Str → Option Value} {base : Heap}
/-- a band of these cells, seeds and rows -/
def BandOk (K : PySem.W.Frag) (M : Addr → Prop) (H : Hp) (v : V) (fr : List (List Nat × Nat)) (S Y : List (List Nat)) : Prop := ∃ R, R.Perm Y ∧ Ob K M H v "Band" (bandD fr S Y R)
theorem BandOk.ex {M : Addr → Prop} {H H' : Hp} {v : V} {fr : List (List Nat × Nat)} {S Y : List (List Nat)} (e : Ex M H H') (h : BandOk K M H v fr S Y) : BandOk K M H' v fr S Y := by
  obtain ⟨R, hp, h⟩ := h
  exact ⟨R, hp, h.ex e⟩
theorem BandOk.off {M : Addr → Prop} {H : Hp} {v : V} {fr : List (List Nat × Nat)} {S Y : List (List Nat)} {q : Addr} (e : H q = none) (h : BandOk K M H v fr S Y) : BandOk K (Mq M q) H v fr S Y := by
  obtain ⟨R, hp, h⟩ := h
  exact ⟨R, hp, h.off e⟩
theorem sx_di {td ty : TE} {σ : L2.St} {H : Hp} {Q : VK} (h : ty σ H fun y H1 => td σ H1 fun x H2 => ∃ a o, x = .ref a ∧ DGet H2 a y o ∧ Q (.bl o.isSome) H2) : tDIn ty td σ H Q := h
theorem dct_key {M : Addr → Prop} {H : Hp} {u : V} {R : List (List Nat)} (h : Rep K M H u (.dct (R.map fun r => ((.inr (T r) : Key), D.bl true)))) : ∃ a, u = .ref a ∧ H a = some (.dK (R.map keyT)) := by
  cases h with
  | @dct a kvs _ h n k r =>
    refine ⟨a, rfl, ?_⟩
    have e : kvs = R.map keyT := by
      clear h n
      induction R generalizing kvs with
      | nil =>
        cases kvs with
        | nil => rfl
        | cons x l => simp at k
      | cons x R ih =>
        cases kvs with
        | nil => simp at k
        | cons y l =>
          obtain ⟨y1, y2⟩ := y
          simp only [List.map_cons, List.cons.injEq] at k
          simp only [List.map_cons] at r
          cases r with
          | cons r1 r2 =>
            cases r1
            rw [ih k.2 r2]
            simp only [List.map_cons, keyT]
            rw [k.1]
    rw [← e]
    exact h
theorem seeds_L {M : Addr → Prop} {H : Hp} {x : V} {S : List (List Nat)} (h : Rep K M H x (.lst (S.map eS))) : Seeds K M H x S := ⟨_, h, .inl rfl⟩
def spBRows (K : PySem.W.Frag) : Sp := fun vs H Q _ => ∃ (M : Addr → Prop) (I : Hp → Prop) (x : V) (fr : List (List Nat × Nat)) (S Y : List (List Nat)), Wf M I ∧ I H ∧ vs = [x] ∧ BandOk K M H x fr S Y ∧ ∀ y H', Ex M H H' → I H' → Rep K M H' y (.lst (Y.map eS)) → Q y H'
theorem ok_Band_rows (B : Bl mg) (CB : ClsF K "Band" fl_Band) (F : AtM K "Band" "rows" "Band.rows" s_Band_rows ["self"] []) : DfM P w K mg base 1 "Band" "rows" ["self"] [] (spBRows K) := by
  refine F.df sc_Band_rows (fun vs H Q E h => ?_) (fun f cdv A outer s H vs Q E hr h => ⟨_, w_Band_rows B CB hr, ?_⟩)
  · obtain ⟨M, I, x, fr, S, Y, _, _, rfl, _⟩ := h
    rfl
  · obtain ⟨M, I, x, fr, S, Y, hw, hI, rfl, ⟨R, hp, hx⟩, q⟩ := h
    unfold t_Band_rows
    walk_at "sx"
    with_reducible refine sx_fld ?_
    walk_at "sx"
    refine Ob.fld (f := "row_list") hx CB (by decide) rfl fun u r => ?_
    walk_at "sx"
    refine list_R hw hI r (.inl rfl) fun v H' e i r' => ?_
    exact q v H' e i r'
def spBLots (K : PySem.W.Frag) : Sp := fun vs H Q _ => ∃ (M : Addr → Prop) (I : Hp → Prop) (x : V) (fr : List (List Nat × Nat)) (S Y : List (List Nat)), Wf M I ∧ I H ∧ vs = [x] ∧ BandOk K M H x fr S Y ∧ ∀ y H', Ex M H H' → I H' → Rep K M H' y (.lst ((ordF gC (Y.map lot)).map eS)) → Q y H'
theorem ok_Band_lots (B : Bl mg) (CB : ClsF K "Band" fl_Band) (F : AtM K "Band" "lots" "Band.lots" s_Band_lots ["self"] []) : DfM P w K mg base 1 "Band" "lots" ["self"] [] (spBLots K) := by
  refine F.df sc_Band_lots (fun vs H Q E h => ?_) (fun f cdv A outer s H vs Q E hr h => ⟨_, w_Band_lots B CB hr, ?_⟩)
  · obtain ⟨M, I, x, fr, S, Y, _, _, rfl, _⟩ := h
    rfl
  · obtain ⟨M, I, x, fr, S, Y, hw, hI, rfl, ⟨R, hp, hx⟩, q⟩ := h
    unfold t_Band_lots
    walk_at "sx"
    with_reducible refine sx_fld ?_
    walk_at "sx"
    refine Ob.fld (f := "lot_list") hx CB (by decide) rfl fun u r => ?_
    walk_at "sx"
    refine list_R hw hI r (.inl rfl) fun v H' e i r' => ?_
    exact q v H' e i r'
def fullF (Y : List (List Nat)) : List (List Nat) := Y.filter fun r => !decide (46 ∈ r)
def spBFull (K : PySem.W.Frag) : Sp := fun vs H Q _ => ∃ (M : Addr → Prop) (I : Hp → Prop) (x : V) (fr : List (List Nat × Nat)) (S Y : List (List Nat)), Wf M I ∧ I H ∧ vs = [x] ∧ BandOk K M H x fr S Y ∧ Y.length ≤ 1000 ∧ ∀ y H', Ex M H H' → I H' → Rep K M H' y (.lst ((fullF Y).map eS)) → Q y H'
theorem ok_Band_full_rows (B : Bl mg) (CB : ClsF K "Band" fl_Band) (F : AtM K "Band" "full_rows" "Band.full_rows" s_Band_full_rows ["self"] []) : DfM P w K mg base 1 "Band" "full_rows" ["self"] [] (spBFull K) := by
  refine F.df sc_Band_full_rows (fun vs H Q E h => ?_) (fun f cdv A outer s H vs Q E hr h => ⟨_, w_Band_full_rows B CB hr, ?_⟩)
  · obtain ⟨M, I, x, fr, S, Y, _, _, rfl, _⟩ := h
    rfl
  · obtain ⟨M, I, x, fr, S, Y, hw, hI, rfl, ⟨R, hp, hx⟩, hl, q⟩ := h
    unfold t_Band_full_rows
    walk_at "sx"
    with_reducible refine sx_fld ?_
    walk_at "sx"
    refine Ob.fld (f := "row_list") hx CB (by decide) rfl fun u r => ?_
    refine lc_srcF (as := Y) (enc := eS) (fun r => !decide (46 ∈ r)) eS hw hI r rfl (szOk (by omega)) (fun _ => rfl) ?_ ?_ ?_
    · intro L acc k s v H hL ha rv wf hi ex Qt qt
      cases rep_str rv
      walk_at "sx"
      exact qt _ hi (Ex.refl _)
    · intro L acc k s v H hL ha _ rv wf hi ex Qe qe
      cases rep_str rv
      walk_at "sx"
      exact qe _ _ (.str _) hi (Ex.refl _)
    · intro y H' r' e i
      walk_at "sx"
      exact q y H' e i r'
def spBIn (K : PySem.W.Frag) : Sp := fun vs H Q _ => ∃ (M : Addr → Prop) (I : Hp → Prop) (x : V) (fr : List (List Nat × Nat)) (S Y : List (List Nat)) (r : List Nat), Wf M I ∧ I H ∧ vs = [x, .str (T r)] ∧ BandOk K M H x fr S Y ∧ ∀ H', Ex M H H' → I H' → Q (.bl (decide (r ∈ Y))) H'
theorem ok_Band_contains (B : Bl mg) (CB : ClsF K "Band" fl_Band) (F : AtM K "Band" "__contains__" "Band.__contains__" s_Band___contains__ ["self", "row"] []) : DfM P w K mg base 1 "Band" "__contains__" ["self", "row"] [] (spBIn K) := by
  refine F.df sc_Band___contains__ (fun vs H Q E h => ?_) (fun f cdv A outer s H vs Q E hr h => ⟨_, w_Band___contains__ B CB hr, ?_⟩)
  · obtain ⟨M, I, x, fr, S, Y, r, _, _, rfl, _⟩ := h
    rfl
  · obtain ⟨M, I, x, fr, S, Y, r, hw, hI, rfl, ⟨R, hp, hx⟩, q⟩ := h
    unfold t_Band___contains__
    walk_at "sx"
    refine isi_str (.str _ : Rep K M H (.str (T r)) (.str (T r))) ⟨_, .str _⟩ ?_
    walk_at "sx"
    refine ifIsT rfl ?_
    with_reducible refine sx_di ?_
    walk_at "sx"
    with_reducible refine sx_fld ?_
    walk_at "sx"
    refine Ob.fld (f := "known_rows") hx CB (by decide) rfl fun u ru => ?_
    obtain ⟨a, rfl, ha⟩ := dct_key ru
    refine ⟨a, _, rfl, DGet.k (k := .inr (T r)) ha, ?_⟩
    rw [valV_key, show decide (r ∈ R) = decide (r ∈ Y) from dec_congr hp.mem_iff]
    exact q H (Ex.refl _) hI
def spBLen (K : PySem.W.Frag) : Sp := fun vs H Q _ => ∃ (M : Addr → Prop) (I : Hp → Prop) (x : V) (fr : List (List Nat × Nat)) (S Y : List (List Nat)), Wf M I ∧ I H ∧ vs = [x] ∧ BandOk K M H x fr S Y ∧ Q (.int (Y.length : Nat)) H
theorem ok_Band_len (B : Bl mg) (CB : ClsF K "Band" fl_Band) (F : AtM K "Band" "__len__" "Band.__len__" s_Band___len__ ["self"] []) : DfM P w K mg base 1 "Band" "__len__" ["self"] [] (spBLen K) := by
  refine F.df sc_Band___len__ (fun vs H Q E h => ?_) (fun f cdv A outer s H vs Q E hr h => ⟨_, w_Band___len__ B CB hr, ?_⟩)
  · obtain ⟨M, I, x, fr, S, Y, _, _, rfl, _⟩ := h
    rfl
  · obtain ⟨M, I, x, fr, S, Y, hw, hI, rfl, ⟨R, hp, hx⟩, q⟩ := h
    unfold t_Band___len__
    walk_at "sx"
    with_reducible refine sx_fld ?_
    walk_at "sx"
    refine Ob.fld (f := "row_list") hx CB (by decide) rfl fun u r => ?_
    refine len_R r (.inl rfl) ?_
    rw [List.length_map]
    exact q
def spBCome (K : PySem.W.Frag) : Sp := fun vs H Q _ => ∃ (M : Addr → Prop) (I : Hp → Prop) (x : V) (fr : List (List Nat × Nat)) (S Y : List (List Nat)) (r : List Nat), Wf M I ∧ I H ∧ vs = [x, .str (T r), .non] ∧ BandOk K M H x fr S Y ∧ r.length ≤ 1000 ∧ S.length ≤ 1000 ∧ isRow fr r = true ∧ (∀ s ∈ S, s.length = r.length) ∧ ∀ y H', Ex M H H' → I H' → Rep K M H' y (.lst (paper fr S r)) → Q y H'
theorem ok_Band_come (B : Bl mg) (CB : ClsF K "Band" fl_Band) (G1 : Df P w K mg base 5 "come_coming" ["cells", "seeds", "row"] [] (spCome K)) (F : AtM K "Band" "come" "Band.come" s_Band_come ["self", "row", "seeds"] [.non]) : DfM P w K mg base 6 "Band" "come" ["self", "row", "seeds"] [.non] (spBCome K) := by
  refine F.df sc_Band_come (fun vs H Q E h => ?_) (fun f cdv A outer s H vs Q E hr h => ⟨_, w_Band_come B CB G1 hr, ?_⟩)
  · obtain ⟨M, I, x, fr, S, Y, r, _, _, rfl, _⟩ := h
    rfl
  · obtain ⟨M, I, x, fr, S, Y, r, hw, hI, rfl, ⟨R, hp, hx⟩, hl, hSl, hr2, hS, q⟩ := h
    unfold t_Band_come
    walk_at "sx"
    refine ifIsT (by rfl) ?_
    walk_at "sx"
    with_reducible refine sx_fld ?_
    walk_at "sx"
    refine Ob.fld (f := "cell_list") hx CB (by decide) rfl fun u1 r1 => ?_
    walk_at "sx"
    with_reducible refine sx_fld ?_
    walk_at "sx"
    refine Ob.fld (f := "seed_list") hx CB (by decide) rfl fun u2 r2 => ?_
    walk_at "sx"
    exact ⟨M, I, u1, u2, fr, S, r, hw, hI, rfl, .ofL r1, seeds_L r2, hl, hSl, hr2, hS, q⟩
end


theorem right_ln {fr : List (List Nat × Nat)} {S : List (List Nat)} {r : List Nat} {ls : List D} (hf : FrOk fr) (hr : isRow fr r = true) (hl : fr.length ≤ 1000) (hS : ∀ s ∈ S, isRow fr s = true) (h : RightP fr S r ls) : ∀ e ∈ ls, Ln e := by
  have ev : ∀ {s}, isRow fr s = true → Ev (.str (T s)) := fun {s} hs => ev_s (by rw [isRow_len hs]; exact hl) (row_lt hs)
  have evk : ∀ {k : List Nat}, k.length ≤ 1000 → (∀ c ∈ k, c < 128) → Ev (.str (T k)) := ev_s
  obtain ⟨X, t, E, h1, h2, rfl⟩ := h
  refine all_cons (Ln.t (.cons (evk (by decide) (by decide)) (.cons (ev hr) .nil)) (by simp)) fun e he => ?_
  rcases List.mem_append.mp he with he | he
  · obtain ⟨s, hs, rfl⟩ := List.mem_map.mp he
    exact Ln.t (.cons (evk (by decide) (by decide)) (.cons (ev (hS s (h1.mem s hs))) .nil)) (by simp)
  · rcases h2 with ⟨_, rfl⟩ | ⟨_, _, bs, hb, rfl⟩
    · rw [List.mem_singleton.mp he]
      exact Ln.t (.cons (evk (by decide) (by decide)) .nil) (by simp)
    · rcases List.mem_append.mp he with he | he
      · obtain ⟨s, k, h3, h4, rfl⟩ := hb.els e he
        have hk := unlike_lt h4
        have hk2 : k < fr.length := by rw [← isRow_len (hS s h3)]; exact hk
        have ok := hf fr[k] (List.getElem_mem _)
        have eg : fr.getD k ([], 0) = fr[k] := by simp [List.getD, hk2]
        exact Ln.t (.cons (evk (by decide) (by decide)) (.cons (ev (hS s h3)) (.cons (by rw [eg]; exact ev_s (by have := ok.2.2.2.1; omega) ok.2.2.lt) .nil))) (by simp)
      · rw [List.mem_singleton.mp he]
        exact Ln.t (.cons (evk (by decide) (by decide)) .nil) (by simp)
theorem paper_el {fr : List (List Nat × Nat)} {S : List (List Nat)} {r : List Nat} : ∀ d ∈ paper fr S r, ∃ l : List (List Nat), d = .tup (l.map eS) ∧ l.length ≤ 3 := by
  intro d hd
  unfold paper at hd
  rcases List.mem_append.mp hd with hd | hd
  · rcases List.mem_append.mp hd with hd | hd
    · rw [List.mem_singleton.mp hd]; exact ⟨[kRow, r], rfl, by simp⟩
    · obtain ⟨s, _, rfl⟩ := List.mem_map.mp hd
      exact ⟨[kTake, s], rfl, by simp⟩
  · split at hd
    · rw [List.mem_singleton.mp hd]; exact ⟨[kMade], rfl, by simp⟩
    · rcases List.mem_append.mp hd with hd | hd
      · unfold bars at hd
        obtain ⟨s, _, hs⟩ := List.mem_filterMap.mp hd
        unfold barD at hs
        cases e : unlike s (taken S r).2 r with
        | nil => rw [e] at hs; cases hs
        | cons u us =>
          rw [e] at hs
          cases hs
          exact ⟨[kBar, s, (fr.getD u ([], 0)).1], rfl, by simp⟩
      · rw [List.mem_singleton.mp hd]; exact ⟨[kBarred], rfl, by simp⟩
theorem paper_ln2 {fr : List (List Nat × Nat)} {S : List (List Nat)} {r : List Nat} : (paper fr S r).length ≤ 2 + r.length + S.length := by
  unfold paper
  have h1 : (taken S r).1.length ≤ 0 + r.length := takes_len S r _ _ _
  have h2 := bars_len fr S r (taken S r).2
  simp only [List.length_append, List.length_map, List.length_cons, List.length_nil]
  split <;> simp <;> omega
theorem pl_ls12 {ls : List D} (h : ∀ e ∈ ls, Ln e) (hl : ls.length ≤ 1000) : Pl 3 (.lst ls) := .lst hl fun e he => (h e he).1
theorem fit4_paper {fr : List (List Nat × Nat)} {S : List (List Nat)} {r : List Nat} (h1 : r.length ≤ 1000) (h2 : S.length ≤ 1000) : fit 4 (.lst (paper fr S r)) :=
  .inr (.inl ⟨_, .inl rfl, by have := paper_ln2 (fr := fr) (S := S) (r := r); omega, fun e he => by
    obtain ⟨l, rfl, hl⟩ := paper_el e he
    exact (fit_S l (by omega) 2).2⟩)
theorem paper_last {fr : List (List Nat × Nat)} {S : List (List Nat)} {r : List Nat} : ∃ n, (paper fr S r).length = n + 1 ∧ (paper fr S r)[n]? = some (.tup [eS (if (taken S r).2 = lot r then kMade else kBarred)]) := by
  unfold paper
  by_cases h : (taken S r).2 = lot r
  · simp only [h, if_true]
    refine ⟨1 + (taken S r).1.length, by simp; omega, ?_⟩
    refine (List.getElem?_append_right (by simp; omega)).trans ?_
    rw [show (1 + (taken S r).1.length - ([D.tup [eS kRow, eS r]] ++ List.map (fun s => D.tup [eS kTake, eS s]) (taken S r).1).length) = 0 by simp; omega]
    rfl
  · simp only [h, if_false]
    refine ⟨1 + (taken S r).1.length + (bars fr S r (taken S r).2).length, by simp; omega, ?_⟩
    refine (List.getElem?_append_right (by simp; omega)).trans ?_
    rw [show (1 + (taken S r).1.length + (bars fr S r (taken S r).2).length - ([D.tup [eS kRow, eS r]] ++ List.map (fun s => D.tup [eS kTake, eS s]) (taken S r).1).length) = (bars fr S r (taken S r).2).length by simp; omega]
    refine (List.getElem?_append_right (Nat.le_refl _)).trans ?_
    rw [Nat.sub_self]
    rfl



/-! ### all fillings -/
def fillStep (L : List (List Nat)) (p : List Nat × Nat) : List (List Nat) := L.flatMap fun a => (sgs p.2).map fun c => a ++ [c]
def fillF (fr : List (List Nat × Nat)) : List (List Nat) := fr.foldl fillStep [[]]
theorem sgs_len {m : Nat} (h : m ≤ 4) : (sgs m).length ≤ 5 := by unfold sgs; rw [List.length_take]; simp; omega
theorem flat_len {α β : Type} {f : α → List β} {n : Nat} (h : ∀ a, (f a).length ≤ n) : ∀ l : List α, (l.flatMap f).length ≤ l.length * n
  | [] => by simp
  | a :: l => by
    rw [List.flatMap_cons, List.length_append, List.length_cons, Nat.add_mul, Nat.one_mul]
    have := flat_len h l
    have := h a
    omega
theorem fill_snoc {fr : List (List Nat × Nat)} {p : List Nat × Nat} : fillF (fr ++ [p]) = fillStep (fillF fr) p := by unfold fillF; rw [List.foldl_append]; rfl
theorem fill_len : ∀ {n : Nat} {fr : List (List Nat × Nat)}, fr.length = n → (∀ p ∈ fr, p.2 ≤ 4) → (fillF fr).length ≤ 5 ^ n
  | 0, fr, h, _ => by rw [List.length_eq_zero_iff.mp h]; simp [fillF]
  | n + 1, fr, h, hp => by
    obtain ⟨fr, p, rfl⟩ : ∃ f p, fr = f ++ [p] := ⟨fr.dropLast, fr.getLast (by intro e; rw [e] at h; simp at h), (List.dropLast_concat_getLast _).symm⟩
    rw [fill_snoc]
    have ih := fill_len (n := n) (fr := fr) (by simp at h; exact h) fun q hq => hp q (List.mem_append_left _ hq)
    have h5 : ∀ a : List Nat, ((sgs p.2).map fun c => a ++ [c]).length ≤ 5 := fun a => by rw [List.length_map]; exact sgs_len (hp p (List.mem_append_right _ (List.mem_singleton.mpr rfl)))
    have := flat_len h5 (fillF fr)
    have e : (5 : Nat) ^ (n + 1) = 5 ^ n * 5 := Nat.pow_succ ..
    unfold fillStep
    omega
theorem fill_lens : ∀ {n : Nat} {fr : List (List Nat × Nat)}, fr.length = n → ∀ r ∈ fillF fr, r.length = n
  | 0, fr, h, r, hr => by
    rw [List.length_eq_zero_iff.mp h] at hr
    simp [fillF] at hr
    rw [hr]; rfl
  | n + 1, fr, h, r, hr => by
    obtain ⟨fr, p, rfl⟩ : ∃ f p, fr = f ++ [p] := ⟨fr.dropLast, fr.getLast (by intro e; rw [e] at h; simp at h), (List.dropLast_concat_getLast _).symm⟩
    rw [fill_snoc] at hr
    obtain ⟨a, ha, hr⟩ := List.mem_flatMap.mp hr
    obtain ⟨c, hc, rfl⟩ := List.mem_map.mp hr
    have := fill_lens (n := n) (fr := fr) (by simp at h; exact h) a ha
    simp [this]
theorem zip_snoc {fr : List (List Nat × Nat)} {p : List Nat × Nat} {a : List Nat} {c : Nat} (h : a.length = fr.length) : isRow (fr ++ [p]) (a ++ [c]) = (isRow fr a && decide (c ∈ sgs p.2)) := by
  unfold isRow
  rw [List.zip_append h, List.all_append]
  simp [h, sgs, Bool.and_assoc]
theorem fill_mem : ∀ {n : Nat} {fr : List (List Nat × Nat)}, fr.length = n → ∀ r, r ∈ fillF fr ↔ isRow fr r = true
  | 0, fr, h, r => by
    rw [List.length_eq_zero_iff.mp h]
    simp [fillF, isRow]
  | n + 1, fr, h, r => by
    obtain ⟨fr, p, rfl⟩ : ∃ f p, fr = f ++ [p] := ⟨fr.dropLast, fr.getLast (by intro e; rw [e] at h; simp at h), (List.dropLast_concat_getLast _).symm⟩
    have hl : fr.length = n := by simp at h; exact h
    rw [fill_snoc]
    unfold fillStep
    constructor
    · intro hr
      obtain ⟨a, ha, hr⟩ := List.mem_flatMap.mp hr
      obtain ⟨c, hc, rfl⟩ := List.mem_map.mp hr
      rw [zip_snoc (by rw [fill_lens hl a ha, hl]), (fill_mem hl a).mp ha, decide_eq_true hc]
      rfl
    · intro hr
      have hrl := isRow_len hr
      obtain ⟨a, c, rfl⟩ : ∃ a c, r = a ++ [c] := ⟨r.dropLast, r.getLast (by intro e; rw [e] at hrl; simp at hrl), (List.dropLast_concat_getLast _).symm⟩
      have hal : a.length = fr.length := by simp at hrl; exact hrl
      rw [zip_snoc hal] at hr
      obtain ⟨h1, h2⟩ := Bool.and_eq_true_iff.mp hr
      exact List.mem_flatMap.mpr ⟨a, (fill_mem hl a).mpr h1, List.mem_map.mpr ⟨c, of_decide_eq_true h2, rfl⟩⟩
theorem lt_snoc : ∀ {a b : List Nat} {c d : Nat}, a.length = b.length → a < b → a ++ [c] < b ++ [d]
  | [], [], c, d, _, h => by simp at h
  | [], _ :: _, c, d, h, _ => by simp at h
  | _ :: _, [], c, d, h, _ => by simp at h
  | x :: a, y :: b, c, d, h, hlt => by
    rw [List.cons_append, List.cons_append]
    rw [List.cons_lt_cons_iff] at hlt ⊢
    rcases hlt with h1 | ⟨h1, h2⟩
    · exact .inl h1
    · exact .inr ⟨h1, lt_snoc (by simpa using h) h2⟩
theorem lt_last : ∀ {a : List Nat} {c d : Nat}, c < d → a ++ [c] < a ++ [d]
  | [], c, d, h => by
    show [c] < [d]
    rw [List.cons_lt_cons_iff]
    exact .inl h
  | x :: a, c, d, h => by
    rw [List.cons_append, List.cons_append, List.cons_lt_cons_iff]
    exact .inr ⟨rfl, lt_last h⟩
theorem sgs_up (m : Nat) : (sgs m).Pairwise (· < ·) := by
  unfold sgs
  exact List.Pairwise.sublist (List.take_sublist _ _) (by decide)
theorem pw_flat {α β : Type} {f : α → List β} {P : α → α → Prop} {R : β → β → Prop} (h1 : ∀ a, (f a).Pairwise R) (h2 : ∀ a b, P a b → ∀ x ∈ f a, ∀ y ∈ f b, R x y) : ∀ {l : List α}, l.Pairwise P → (l.flatMap f).Pairwise R
  | [], _ => .nil
  | a :: l, h => by
    obtain ⟨h3, h4⟩ := List.pairwise_cons.mp h
    rw [List.flatMap_cons]
    refine List.pairwise_append.mpr ⟨h1 a, pw_flat h1 h2 h4, fun x hx y hy => ?_⟩
    obtain ⟨b, hb, hy⟩ := List.mem_flatMap.mp hy
    exact h2 a b (h3 b hb) x hx y hy
theorem fill_up : ∀ {n : Nat} {fr : List (List Nat × Nat)}, fr.length = n → (fillF fr).Pairwise fun a b => a.length = b.length ∧ a < b
  | 0, fr, h => by rw [List.length_eq_zero_iff.mp h]; simp [fillF]
  | n + 1, fr, h => by
    obtain ⟨fr, p, rfl⟩ : ∃ f p, fr = f ++ [p] := ⟨fr.dropLast, fr.getLast (by intro e; rw [e] at h; simp at h), (List.dropLast_concat_getLast _).symm⟩
    rw [fill_snoc]
    unfold fillStep
    refine pw_flat (P := fun a b => a.length = b.length ∧ a < b) (fun a => ?_) (fun a b hab x hx y hy => ?_) (fill_up (n := n) (by simp at h; exact h))
    · rw [List.pairwise_map]
      exact (sgs_up p.2).imp fun h => ⟨by simp, lt_last h⟩
    · obtain ⟨c, _, rfl⟩ := List.mem_map.mp hx
      obtain ⟨d, _, rfl⟩ := List.mem_map.mp hy
      exact ⟨by simp [hab.1], lt_snoc hab.1 hab.2⟩
/-- a rising list of distinct texts is sorted -/
theorem up_sorted : ∀ {l : List (List Nat)}, l.Pairwise (· < ·) → sortedS (l.map T) = true
  | [], _ => rfl
  | [a], _ => rfl
  | a :: b :: l, h => by
    obtain ⟨h1, h2⟩ := List.pairwise_cons.mp h
    have key : ∀ {l : List (List Nat)} {p : List Nat}, (p :: l).Pairwise (· < ·) → risingS (T p) (l.map T) = true := by
      intro l
      induction l with
      | nil => intro p _; rfl
      | cons b l ih =>
        intro p h
        obtain ⟨h1, h2⟩ := List.pairwise_cons.mp h
        show (!ltCps (T b).cps.toList (T p).cps.toList && risingS (T b) (l.map T)) = true
        rw [ih h2, Bool.and_true, T_cps, T_cps, ltCps_eq, decide_eq_false (List.lt_asymm (h1 b List.mem_cons_self))]
        rfl
    exact key h
section
variable {P : Program} {w : World} {K : PySem.W.Frag} {mg : Str → Option Value} {base : Heap}
def spFill (K : PySem.W.Frag) : Sp := fun vs H Q _ => ∃ (M : Addr → Prop) (I : Hp → Prop) (x : V) (fr : List (List Nat × Nat)), Wf M I ∧ I H ∧ vs = [x] ∧ Rep K M H x (.lst (fr.map eC)) ∧ FrOk fr ∧ fr.length ≤ 6 ∧ ∀ y H', Ex M H H' → I H' → Rep K M H' y (.lst ((fillF fr).map eS)) → Q y H'
theorem ok_fillings (B : Bl mg) (F : At K mg "_law_fillings" s__law_fillings ["_law_frame_here"] []) : Df P w K mg base 1 "_law_fillings" ["_law_frame_here"] [] (spFill K) := by
  refine F.df sc__law_fillings (fun vs H Q E h => ?_) (fun f cdv A outer s H vs Q E hr h => ⟨_, w__law_fillings B hr, ?_⟩)
  · obtain ⟨M, I, x, fr, _, _, rfl, _⟩ := h
    rfl
  · obtain ⟨M, I, x, fr, hw, hI, rfl, hx, hfr, hf, q⟩ := h
    have hlens : ∀ k, (fillF (fr.take k)).length ≤ 100000 := fun k => by
      have h1 := fill_len (n := (fr.take k).length) (fr := fr.take k) rfl fun p hp => (hfr p (List.mem_of_mem_take hp)).2.1
      have h2 : (fr.take k).length ≤ 6 := by rw [List.length_take]; omega
      have h3 : (5 : Nat) ^ (fr.take k).length ≤ 5 ^ 6 := Nat.pow_le_pow_right (by decide) h2
      have h4 : (5 : Nat) ^ 6 = 15625 := by decide
      omega
    unfold t__law_fillings
    walk_at "sx"
    rename_i v1 H1 e1 i1 r1
    have r1 : Rep K M H1 v1 (.lst ([[]].map eS)) := r1
    refine for_src (as := fr) (enc := eC) (hx.ex e1) rfl (fun k σ H2 => ∃ v u2 u3 u4 u5, σ = [some x, some v, u2, u3, u4, u5, none] ∧ I H2 ∧ Ex M H1 H2 ∧ Rep K M H2 v (.lst ((fillF (fr.take k)).map eS)))
      ⟨_, _, _, _, _, rfl, i1, Ex.refl _, r1⟩ (fun k σ H h => by obtain ⟨_, _, _, _, _, _, _, h, _⟩ := h; exact h) ?_ ?_
    · rintro k c v σ H2 hc ⟨v1, u2, u3, u4, u5, rfl, i2, e2, r2⟩ rv
      obtain ⟨hm1, hm2, ht⟩ := hfr c (List.mem_of_getElem? hc)
      walk_at "sx"
      rename_i v3 H3 e3 i3 r3
      have r3 : Rep K M H3 v3 (.lst ([46].map H08.e1)) := r3
      refine ix_R (n := 1) (rv.ex e3) (.inr rfl) rfl fun v4 r4 => ?_
      cases rep_int r4
      walk_at "sx"
      refine sl_Tto (by decide) ?_
      walk_at "sx"
      refine list_T (K := K) hw i3 (by simp; omega) fun v5 H5 e5 i5 r5 => ?_
      refine add_LL hw i5 (r3.ex e5) r5 (szOk (by simp; omega)) fun v6 H6 e6 i6 r6 => ?_
      have es : ([46].map H08.e1 ++ (([48, 49, 50, 51] : List Nat).take c.2).map fun c => D.str (T [c])) = (sgs c.2).map H08.e1 := rfl
      rw [es] at r6
      have e26 := (e3.trans e5).trans e6
      walk_at "sx"
      refine lst_mut hw i6 (by decide) fun p H7 hp np e7 w7 i7 => ?_
      walk_at "sx"
      have r2p := ((r2.ex e26).off hp).ex e7
      have r6p := (r6.off hp).ex e7
      refine for_src (as := fillF (fr.take k)) (enc := eS) r2p rfl (fun j σ H8 => ∃ u5, σ = [some x, some v1, some v, some v6, some (.ref p), u5, none] ∧ Iq I p (.lst ((((fillF (fr.take k)).take j).flatMap fun a => (sgs c.2).map fun c => a ++ [c]).map fun l => V.str (T l))) H8 ∧ Ex (Mq M p) H7 H8)
        ⟨_, rfl, i7, Ex.refl _⟩ (fun k σ H h => by obtain ⟨_, _, _, h⟩ := h; exact h) ?_ ?_
      · rintro j a va σ H8 ha ⟨u5, rfl, i8, e8⟩ ra
        cases rep_str ra
        have hal := fill_lens rfl a (List.mem_of_getElem? ha)
        have hak : a.length ≤ 6 := by rw [hal, List.length_take]; omega
        have w8 := hw.add p (.lst ((((fillF (fr.take k)).take j).flatMap fun a => (sgs c.2).map fun c => a ++ [c]).map fun l => V.str (T l)))
        walk_at "sx"
        refine ⟨tyv_l i8.2, ?_⟩
        walk_at "sx"
        refine lc_srcM (as := sgs c.2) (enc := H08.e1) (fun c => eS (a ++ [c])) w8 i8 (r6p.ex e8) rfl (szOk (by have := sgs_len hm2; omega)) (fun _ => rfl) ?_ ?_
        · intro L acc k2 d vd H9 hL had rv9 wf hi ex Qe qe
          cases rep_str rv9
          walk_at "sx"
          exact qe _ _ (.str _) hi (Ex.refl _)
        · intro y9 H9 r9 e9 i9
          walk_at "sx"
          have hz : ∃ b, y9 = .ref b ∧ H9 b = some (.lst (((sgs c.2).map fun c => a ++ [c]).map fun l => V.str (T l))) := by
            cases r9 with
            | @lst b xs _ h n r =>
              refine ⟨b, rfl, ?_⟩
              rw [h]
              have := Reps.scal_inv (f := fun c => V.str (T (a ++ [c]))) (g := fun c => eS (a ++ [c])) (fun c v h => rep_str h) r
              rw [this, List.map_map]
              rfl
          obtain ⟨b, rfl, hb⟩ := hz
          have hl1 : (((fillF (fr.take k)).take j).flatMap fun a => (sgs c.2).map fun c => a ++ [c]).length ≤ 500000 := by
            have h5 : ∀ a : List Nat, ((sgs c.2).map fun c => a ++ [c]).length ≤ 5 := fun a => by rw [List.length_map]; exact sgs_len hm2
            have h1 := flat_len h5 ((fillF (fr.take k)).take j)
            have h2 := hlens k
            rw [List.length_take] at h1
            omega
          refine ⟨p, b, _, _, rfl, rfl, i9.2, hb, szOk (by rw [List.length_map, List.length_map, List.length_map]; have := sgs_len hm2; omega), ?_⟩
          obtain ⟨i10, e10⟩ := hw.put (o' := .lst ((((fillF (fr.take k)).take j).flatMap fun a => (sgs c.2).map fun c => a ++ [c]).map (fun l => V.str (T l)) ++ (((sgs c.2).map fun c => a ++ [c]).map fun l => V.str (T l)))) np i9
          refine ⟨_, rfl, ?_, (e8.trans e9).trans e10⟩
          rw [take_snoc ha, List.flatMap_append, List.map_append]
          simpa using i10
      · rintro σ H8 ⟨u5, rfl, i8, e8⟩
        rw [List.take_length] at i8
        walk_at "sx"
        refine ⟨_, _, _, _, _, rfl, i8.1, (e2.trans e26).trans ((e7.trans e8).shut hp), ?_⟩
        rw [take_snoc hc, fill_snoc]
        exact .lst i8.2 np (reps_S _)
    · rintro σ H2 ⟨v1, u2, u3, u4, u5, rfl, i2, e2, r2⟩
      rw [List.take_length] at r2
      walk_at "sx"
      exact q v1 H2 (e1.trans e2) i2 r2
end


section
variable {P : Program} {w : World} {K : PySem.W.Frag} {mg : Str → Option Value} {base : Heap}
theorem look_none : ∀ {l : List (Str × D)} {m : Str}, m ∉ l.map (·.1) → l.lookup m = none
  | [], _, _ => rfl
  | (a, d) :: l, m, h => by
    have h1 : (m == a) = false := by
      simp only [List.map_cons, List.mem_cons, not_or] at h
      simpa using h.1
    simp only [List.lookup, h1]
    exact look_none fun hm => h (List.mem_cons_of_mem _ hm)
theorem BandOk.meth {M : Addr → Prop} {H : Hp} {x : V} {fr : List (List Nat × Nat)} {S Y : List (List Nat)} {m : Str} (h : BandOk K M H x fr S Y) (hm : m ∉ fl_Band) {Z : Prop} (q : Z) : ∃ a dx fs, x = V.ref a ∧ H a = some (.ins (He.ga K "Band") dx fs) ∧ fs.lookup m = none ∧ Z := by
  obtain ⟨R, _, ho⟩ := h
  exact Ob.meth ho (look_none hm) q
theorem BandOk.own {M : Addr → Prop} {H : Hp} {x : V} {fr : List (List Nat × Nat)} {S Y : List (List Nat)} (h : BandOk K M H x fr S Y) : ∃ a dx fs, x = V.ref a ∧ H a = some (.ins (He.ga K "Band") dx fs) := by
  obtain ⟨R, _, a, dx, fs, e, _, ha, _⟩ := h
  exact ⟨a, dx, fs, e, ha⟩
def spPaper (K : PySem.W.Frag) : Sp := fun vs H Q _ => ∃ (M : Addr → Prop) (I : Hp → Prop) (x c y : V) (fr : List (List Nat × Nat)) (S Y : List (List Nat)) (r : List Nat), Wf M I ∧ I H ∧ vs = [x, c, y, .str (T r), .bl (decide (r ∈ Y))] ∧ BandOk K M H x fr S Y ∧ Rep K M H c (.lst (fr.map eC)) ∧ Rep K M H y (.lst (S.map eS)) ∧ FrOk fr ∧ fr.length ≤ 12 ∧ S.length ≤ 30 ∧ (∀ s ∈ S, isRow fr s = true) ∧ isRow fr r = true ∧ RowsOf S fr.length Y ∧ ∀ H', Ex M H H' → I H' → Q (.bl true) H'
theorem ok_paper_so (B : Bl mg) (CB : ClsF K "Band" fl_Band) (G1 : DfM P w K mg base 1 "Band" "__contains__" ["self", "row"] [] (spBIn K)) (G2 : DfM P w K mg base 6 "Band" "come" ["self", "row", "seeds"] [.non] (spBCome K)) (G3 : Df P w K mg base 4 "_law_lines" ["_law_frame_here", "_law_stack_here", "_law_r"] [] (spLines K)) (G4 : Df P w K mg base 5 "_law_same" ["_law_found", "_law_due"] [] (spSame K 4)) (G5 : Df P w K mg base 5 "is_made" ["cells", "seeds", "row"] [] (spMade K)) (G6 : Df P w K mg base 4 "look" ["cells", "seeds", "paper"] [] (spLook K))
    (F : At K mg "_law_paper_so" s__law_paper_so ["_law_band", "_law_frame_here", "_law_stack_here", "_law_r", "_law_made"] []) : Df P w K mg base 7 "_law_paper_so" ["_law_band", "_law_frame_here", "_law_stack_here", "_law_r", "_law_made"] [] (spPaper K) := by
  refine F.df sc__law_paper_so (fun vs H Q E h => ?_) (fun f cdv A outer s H vs Q E hr h => ⟨_, w__law_paper_so B CB G1 G2 G3 G4 G5 G6 hr, ?_⟩)
  · obtain ⟨M, I, x, c, y, fr, S, Y, r, _, _, rfl, _⟩ := h
    rfl
  · obtain ⟨M, I, x, c, y, fr, S, Y, r, hw, hI, rfl, hx, hc, hy, hfr, hf, hSl, hSr, hrr, hY, q⟩ := h
    have hrl := isRow_len hrr
    have lnS : ∀ s ∈ S, s.length = r.length := fun s hs => by rw [isRow_len (hSr s hs), hrl]
    have hmd : decide ((taken S r).2 = lot r) = decide (r ∈ Y) := dec_congr (by rw [made_iff lnS, hY.mem, hrl])
    unfold t__law_paper_so
    walk_at "sx"
    with_reducible refine sx_meth ?_
    walk_at "sx"
    refine hx.meth (by decide) ?_
    walk_at "sx"
    refine ⟨M, I, x, fr, S, Y, r, hw, hI, rfl, hx, by omega, by omega, hrr, lnS, fun v1 H1 e1 i1 r1 => ?_⟩
    walk_at "sx"
    refine ⟨M, I, c, y, fr, S, r, hw, i1, rfl, hc.ex e1, hy.ex e1, by omega, by omega, by omega, lnS, fun v2 H2 e2 i2 r2 => ?_⟩
    walk_at "sx"
    refine ⟨M, I, v1, v2, _, hw, i2, rfl, r1.ex e2, r2, fit4_paper (by omega) (by omega), fun H3 e3 i3 => ?_⟩
    have e03 := e1.trans (e2.trans e3)
    have r13 := r1.ex (e2.trans e3)
    walk_at "sx"
    have hpl : Pl 3 (.lst (paper fr S r)) := pl_ls12 (right_ln hfr hrr (by omega) hSr (right_come lnS)) (by have := paper_ln2 (fr := fr) (S := S) (r := r); omega)
    refine ⟨M, I, c, y, v1, fr, S, _, 3, hw, i3, rfl, .ofL (hc.ex e03), seeds_L (hy.ex e03), r13, hpl, by omega, by omega, fun s hs => isRow_len (hSr s hs), fun H4 e4 i4 => ?_⟩
    rw [show lookF fr S (.lst (paper fr S r)) = .non from right_look hrr (right_come lnS)]
    walk_at "sx"
    refine ⟨M, I, _, _, _, hw, i4, rfl, .non, .non, fit_sc rfl _, fun H5 e5 i5 => ?_⟩
    have e05 := e03.trans (e4.trans e5)
    have r15 := r13.ex (e4.trans e5)
    obtain ⟨n, hn1, hn2⟩ := paper_last (fr := fr) (S := S) (r := r)
    walk_at "sx"
    refine len_R r15 (.inl rfl) ?_
    rw [hn1]
    walk_at "sx"
    have en : ((n + 1 : Nat) : Int) - 1 = ((n : Nat) : Int) := by omega
    rw [en]
    refine ix_R (n := n) r15 (.inl rfl) hn2 fun v6 r6 => ?_
    walk_at "sx"
    refine ⟨M, I, c, y, fr, S, r, hw, i5, rfl, .ofL (hc.ex e05), seeds_L (hy.ex e05), by omega, hrr, lnS, fun H7 e7 i7 => ?_⟩
    rw [hmd]
    walk_at "sx"
    have hx7 := hx.ex (e05.trans e7)
    obtain ⟨a, dx, fs, ea, ha⟩ := hx7.own
    refine ⟨a, dx, fs, ea, ha, M, I, .ref a, fr, S, Y, r, hw, i7, rfl, ea ▸ hx7, fun H8 e8 i8 => ?_⟩
    refine ⟨_, rfl, ?_⟩
    rw [show (decide (r ∈ Y) != false) = decide (r ∈ Y) by cases decide (r ∈ Y) <;> rfl]
    walk_at "sx"
    refine lst_end (K := K) hw i8 (.cons ((r6.ex e7).ex e8) (.cons (.bl _) (.cons (.bl _) .nil))) (szOk (by simp)) fun v9 H9 e9 i9 r9 => ?_
    walk_at "sx"
    have e09 := (e05.trans e7).trans (e8.trans e9)
    have fin : ∀ (v11 : V) (H11 : Hp), Ex M H9 H11 → I H11 → Rep K M H11 v11 (.lst [.tup [eS (if (taken S r).2 = lot r then kMade else kBarred)], .bl (decide (r ∈ Y)), .bl (decide (r ∈ Y))]) → spSame K 4 [v9, v11] H11 (fun v H' => Q v H') E0 := fun v11 H11 e11 i11 r11 => by
      refine ⟨M, I, v9, v11, _, hw, i11, rfl, r9.ex e11, r11, .inr (.inl ⟨_, .inl rfl, by simp, all_cons (.inr (.inl ⟨_, .inr rfl, by simp, all_cons (fit_sc rfl _) all_nil⟩)) (all_cons (fit_sc rfl _) (all_cons (fit_sc rfl _) all_nil))⟩), fun H12 e12 i12 => ?_⟩
      exact q H12 (e09.trans (e11.trans e12)) i12
    refine ⟨_, rfl, ?_⟩
    refine ifB (fun h => ?_) (fun h => ?_)
    · walk_at "sx"
      rename_i v10 H10 e10 i10 r10 v11 H11 e11 i11 r11
      have hm : (taken S r).2 = lot r := of_decide_eq_true (hmd.trans h)
      refine fin v11 H11 (e10.trans e11) i11 ?_
      rw [if_pos hm]
      exact r11
    · walk_at "sx"
      rename_i v10 H10 e10 i10 r10 v11 H11 e11 i11 r11
      have hm : ¬ (taken S r).2 = lot r := of_decide_eq_false (hmd.trans h)
      refine fin v11 H11 (e10.trans e11) i11 ?_
      rw [if_neg hm]
      exact r11
end


/-! ### the law -/
theorem cl_row {fr : List (List Nat × Nat)} {S : List (List Nat)} {n : Nat} (hn : fr.length = n) (hS : ∀ s ∈ S, isRow fr s = true) {r : List Nat} (h : Cl S n r) : isRow fr r = true := by
  induction h with
  | base => rw [← hn]; exact blank_row
  | step hs _ ih => exact lay_row (hS _ hs) ih
theorem asked_is {E Y : List (List Nat)} {p : Nat → Bool} (hp : ∀ k, k < E.length → E.getD k [] ∈ Y → p k = true) : (((List.range E.length).filter p).map fun k => E.getD k []).filter (fun r => decide (r ∈ Y)) = E.filter fun r => decide (r ∈ Y) := by
  have e : (List.range E.length).map (fun k => E.getD k []) = E := by
    refine List.ext_getElem (by simp) fun k h1 h2 => ?_
    simp [List.getD_eq_getElem?_getD, h2]
  conv => rhs; rw [← e]
  rw [List.filter_map, List.filter_map, List.filter_filter]
  congr 1
  refine List.filter_congr fun k hk => ?_
  have hk := List.mem_range.mp hk
  simp only [Function.comp]
  cases hd : decide (E.getD k [] ∈ Y) with
  | false => rw [Bool.false_and]
  | true => rw [hp k hk (of_decide_eq_true hd)]; rfl
theorem fill_is {fr : List (List Nat × Nat)} {S Y : List (List Nat)} {n : Nat} (hn : fr.length = n) (hY : RowsOf S n Y) (hS : ∀ s ∈ S, isRow fr s = true) : (fillF fr).filter (fun r => decide (r ∈ Y)) = Y := by
  have up := fill_up hn
  have up2 : ((fillF fr).filter fun r => decide (r ∈ Y)).Pairwise (· < ·) := (List.Pairwise.sublist List.filter_sublist up).imp fun h => h.2
  refine sort_one (up_sorted up2) hY.so ?_ hY.nd fun r => ?_
  · exact up2.imp fun {a b} h e => by rw [e] at h; exact List.lt_irrefl _ h
  · rw [List.mem_filter, decide_eq_true_eq]
    exact ⟨fun h => h.2, fun h => ⟨(fill_mem hn r).mpr (cl_row hn hS ((hY.mem r).mp h)), h⟩⟩
theorem full_fold {fr : List (List Nat × Nat)} {S : List (List Nat)} (hS : GoodS fr S) : 46 ∉ S.foldr lay (List.replicate fr.length 46) := by
  have ln : ∀ s ∈ S, s.length = fr.length := fun s h => isRow_len (hS.rw s h).1
  have key : ∀ X : List (List Nat), (∀ s ∈ X, s.length = fr.length) → (X.foldr lay (List.replicate fr.length 46)).length = fr.length ∧ ∀ k c, (X.foldr lay (List.replicate fr.length 46))[k]? = some c → (∃ s ∈ X, Mk0 s k) → c ≠ 46 := by
    intro X
    induction X with
    | nil => intro _; exact ⟨by simp, fun k c _ h => by obtain ⟨s, hs, _⟩ := h; cases hs⟩
    | cons a X ih =>
      intro hX
      obtain ⟨h1, h2⟩ := ih fun s hs => hX s (List.mem_cons_of_mem _ hs)
      have ha := hX a List.mem_cons_self
      refine ⟨by rw [List.foldr_cons, lay_len (by omega)]; exact ha, fun k c hc hm => ?_⟩
      rw [List.foldr_cons] at hc
      have hk : k < fr.length := by
        have := (List.getElem?_eq_some_iff.mp hc).1
        rw [lay_len (by omega), ha] at this
        exact this
      obtain ⟨x, hx⟩ := get_some (t := a) (k := k) (by omega)
      obtain ⟨y, hy⟩ := get_some (t := X.foldr lay (List.replicate fr.length 46)) (k := k) (by omega)
      rw [lay_get hx hy] at hc
      by_cases e : x = 46
      · rw [if_pos e] at hc
        cases hc
        refine h2 k _ hy ?_
        obtain ⟨s, hs, c2, h3, h4⟩ := hm
        rcases List.mem_cons.mp hs with rfl | hs
        · rw [h3] at hx; cases hx; exact absurd e h4
        · exact ⟨s, hs, c2, h3, h4⟩
      · rw [if_neg e] at hc
        cases hc
        exact e
  obtain ⟨h1, h2⟩ := key S ln
  intro hm
  obtain ⟨k, hk⟩ := List.mem_iff_getElem?.mp hm
  have hk2 := (List.getElem?_eq_some_iff.mp hk).1
  exact h2 k 46 hk (hS.all k (by omega)) rfl
theorem full_pos {fr : List (List Nat × Nat)} {S Y : List (List Nat)} (hS : GoodS fr S) (hY : RowsOf S fr.length Y) : 0 < (fullF Y).length := by
  have h : S.foldr lay (List.replicate fr.length 46) ∈ fullF Y := by
    unfold fullF
    rw [List.mem_filter]
    exact ⟨(hY.mem _).mpr (cl_fold S fun _ h => h), by rw [decide_eq_false (full_fold hS)]; rfl⟩
  exact List.length_pos_of_mem h
section
set_option maxHeartbeats 20000000
variable {P : Program} {w : World} {K : PySem.W.Frag} {mg : Str → Option Value} {base : Heap}
theorem rep_ref {M : Addr → Prop} {H : Hp} {x : V} {ds : List D} (h : Rep K M H x (.lst ds)) : decide (x = V.non) = false := by cases h; rfl
theorem div_nat {n j : Nat} {Q : VK} {H : Hp} (h : CDivW (n : Nat) (j : Nat)) (q : Q (.int ((n / j : Nat) : Int)) H) : rDivU (.int (n : Nat)) (.int (j : Nat)) H Q := by
  refine div_ii h ?_
  rw [← Int.natCast_ediv]; exact q
theorem ok_law (B : Bl mg) (CB : ClsF K "Band" fl_Band) (G1 : DfM P w K mg base 1 "Band" "__contains__" ["self", "row"] [] (spBIn K)) (G2 : DfI P w K mg base 5 "Band" ["self", "cells", "seeds", "most"] [.int 800] (spInit K)) (G3 : DfM P w K mg base 1 "Band" "__len__" ["self"] [] (spBLen K)) (G4 : DfM P w K mg base 1 "Band" "full_rows" ["self"] [] (spBFull K)) (G5 : DfM P w K mg base 1 "Band" "lots" ["self"] [] (spBLots K)) (G6 : DfM P w K mg base 1 "Band" "rows" ["self"] [] (spBRows K))
    (G7 : Df P w K mg base 1 "_law_bag" ["_law_script"] [] (spBag K)) (G8 : Df P w K mg base 1 "_law_draw" ["_law_bag_here", "_law_sides"] [] (spDraw K)) (G9 : Df P w K mg base 1 "_law_fillings" ["_law_frame_here"] [] (spFill K)) (G10 : Df P w K mg base 4 "_law_frame" ["_law_bag_here", "_law_size_here", "_law_widest"] [] (spFrame K)) (G11 : Df P w K mg base 1 "_law_lot" ["_law_r"] [] (spLot K)) (G12 : Df P w K mg base 2 "_law_lots" ["_law_told"] [] (spOrd K)) (G13 : Df P w K mg base 2 "_law_of" ["_law_bag_here", "_law_things"] [] (spOf K))
    (G14 : Df P w K mg base 7 "_law_paper_so" ["_law_band", "_law_frame_here", "_law_stack_here", "_law_r", "_law_made"] [] (spPaper K)) (G15 : Df P w K mg base 2 "_law_rows" ["_law_stack_here", "_law_wide", "_law_cap"] [] (spRows K)) (G16 : Df P w K mg base 5 "_law_same" ["_law_found", "_law_due"] [] (spSame K 4)) (G17 : Df P w K mg base 3 "_law_size" ["_law_bag_here"] [] (spSize K)) (G18 : Df P w K mg base 3 "_law_stack" ["_law_bag_here", "_law_frame_here", "_law_size_here"] [] (spStack K)) (G19 : Df P w K mg base 1 "over" ["newer", "older"] [] (spLay K)) (G20 : Df P w K mg base 1 "union" ["one", "other"] [] (spUni K))
    {f : Addr} {fd : FuncData} (F : FunD K "law" "law" (defArgs s_law) (defBody s_law) (defScope s_law) [] [] f fd) : FnOk P w K mg base (L2.CX P w) 8 f fd ["_law_script"] (spLaw K) := by
  refine F.ok sc_law (fun vs H Q E h => ?_) (fun cdv A outer s H vs Q E hr h => ⟨_, (w_law B CB G1 G2 G3 G4 G5 G6 G7 G8 G9 G10 G11 G12 G13 G14 G15 G16 G17 G18 G19 G20 hr).nox, ?_⟩)
  · obtain ⟨a, ns, rfl, _⟩ := h
    rfl
  · obtain ⟨a, ns, rfl, ha, hns, q⟩ := h
    unfold t_law
    refine st_eq (σ' := [some (.ref a), none, none, none, none, none, none, none, none, none, none, none, none, none, none, none, none, none, none, none]) rfl ?_
    walk_at "sx"
    refine ⟨a, ns, rfl, ha, hns, fun b l H1 hbl bok => ?_⟩
    have hw := wfB (b := b) (l := l)
    have hB := hasB hbl
    have i1 : IB b l H1 := bok
    walk_at "sx"
    refine ⟨_, _, b, hw, i1, hB, rfl, fun n H2 hn1 hn2 e2 i2 => ?_⟩
    walk_at "sx"
    refine ⟨_, _, b, n, 3, hw, i2, hB, rfl, by omega, by decide, by decide, fun c fr H3 hfl hfr hnd rc e3 i3 => ?_⟩
    walk_at "sx"
    refine ⟨_, _, b, 4, hw, i3, hB, rfl, by decide, by decide, fun k4 H4 hk4 e4 i4 => ?_⟩
    walk_at "sx"
    have ek : (2 : Int) + (k4 : Nat) = ((k4 + 2 : Nat) : Int) := by omega
    rw [ek]
    refine ⟨_, _, b, c, fr, k4 + 2, hw, i4, hB, rfl, rc.ex e4, hfr, by omega, by omega, by omega, by omega, fun y S H5 hS0 hSl hSg ry e5 i5 => ?_⟩
    have rc5 := (rc.ex e4).ex e5
    have hSr : ∀ s ∈ S, isRow fr s = true := fun s hs => (hSg.rw s hs).1
    have lnS : ∀ s ∈ S, s.length = fr.length := fun s hs => isRow_len (hSr s hs)
    walk_at "sx"
    refine len_R rc5 (.inl rfl) ?_
    rw [List.length_map]
    walk_at "sx"
    refine ⟨_, _, y, S, fr.length, hw, i5, rfl, ry, by omega, by omega, lnS, fun H' hb e' i' => ?_, fun m Y H6 hY e6 i6 rm => ?_⟩
    · walk_at "sx"
      refine ifIsT (by rfl) ?_
      walk_at "sx"
      exact q H'
    have hYrow : ∀ r ∈ Y, isRow fr r = true := fun r hr => cl_row rfl hSr ((hY.mem r).mp hr)
    have hYlen : ∀ r ∈ Y, r.length = fr.length := fun r hr => isRow_len (hYrow r hr)
    have hYl := hY.len
    walk_at "sx"
    refine ifIsF (rep_ref rm) ?_
    walk_at "sx"
    -- the band
    with_reducible refine sx_make ?_
    walk_at "sx"
    intro x dx hx hdx ne
    obtain ⟨nx, ex, ix⟩ := made hw i6 (He.ga K "Band") hx hdx ne
    have rcx := ((rc5.ex e6).off hx).ex (Ex.wide (p := x) ex)
    have ryx := ((ry.ex e6).off hx).ex (Ex.wide (p := x) ex)
    generalize upd (upd H6 dx (.own x)) x (.ins (He.ga K "Band") dx []) = H7 at ex ix rcx ryx
    refine ⟨_, _, x, dx, c, y, fr, S, Y, hw, nx, ix, rfl, rcx, hfr, hnd, by omega, by omega, ryx, by omega, hSg, hY, fun fs R H8 hR hF e8 i8 => ⟨rfl, ?_⟩⟩
    have e68 : Ex (MB b l) H6 H8 := ((Ex.wide (p := x) ex).trans e8).shut hx
    have hb : BandOk K (MB b l) H8 (.ref x) fr S Y := ⟨R, hR, x, dx, fs, rfl, nx, i8.2, fun f d hf => by obtain ⟨u, l1, r1⟩ := hF.1 f d hf; exact ⟨u, l1, r1.le fun _ m => .inl m⟩, hF.2⟩
    have rm8 := rm.ex e68
    have rc8 := (rc5.ex e6).ex e68
    have ry8 := (ry.ex e6).ex e68
    have i8 : IB b l H8 := i8.1
    clear hF ix ex rcx ryx e8 hR ne hdx nx rm
    walk_at "sx"
    refine lc_srcF (as := Y) (enc := eS) (fun r => !decide (46 ∈ r)) eS hw i8 rm8 rfl (szOk (by omega)) (fun _ => rfl) ?_ ?_ ?_
    · intro L acc k s v H hL ha rv wf hi ex Qt qt
      cases rep_str rv
      walk_at "sx"
      exact qt _ hi (Ex.refl _)
    · intro L acc k s v H hL ha _ rv wf hi ex Qe qe
      cases rep_str rv
      walk_at "sx"
      exact qe _ _ (.str _) hi (Ex.refl _)
    intro vf H9 r9 e9 i9
    have r9 : Rep K (MB b l) H9 vf (.lst ((fullF Y).map eS)) := r9
    walk_at "sx"
    refine lc_srcM (as := Y) (enc := eS) (fun r => eS (lot r)) hw i9 (rm8.ex e9) rfl (szOk (by omega)) (fun _ => rfl) ?_ ?_
    · intro L acc k r v H hL ha rv wf hi ex Qe qe
      cases rep_str rv
      have := hYlen r (List.mem_of_getElem? ha)
      walk_at "sx"
      refine ⟨_, _, r, wf, hi, rfl, by omega, fun H' e' i' => ?_⟩
      exact qe _ _ (.str _) i' e'
    intro vl H10 r10 e10 i10
    have h10 : (Y.map fun r => eS (lot r)) = (Y.map lot).map eS := by rw [List.map_map]; rfl
    rw [h10] at r10
    walk_at "sx"
    refine ⟨_, _, vl, _, Y.map lot, hw, i10, rfl, r10, .inl rfl, by rw [List.length_map]; omega, fun l hl => by obtain ⟨r, _, rfl⟩ := List.mem_map.mp hl; exact lotS_lot r, fun p11 H11 _ np11 hp11 e11 i11 => ?_⟩
    have r11 : Rep K (MB b l) H11 (.ref p11) (.lst ((ordF gC (Y.map lot)).map eS)) := ord_rep np11 hp11
    have hOl : (ordF gC (Y.map lot)).length ≤ 40 := Nat.le_trans (ordF_len _ _) (by rw [List.length_map]; exact hYl)
    have e8B := e9.trans (e10.trans e11)
    walk_at "sx"
    with_reducible refine sx_meth ?_
    walk_at "sx"
    refine (hb.ex e8B).meth (by decide) ?_
    walk_at "sx"
    refine ⟨_, _, .ref x, fr, S, Y, hw, i11, rfl, hb.ex e8B, fun v12 H12 e12 i12 r12 => ?_⟩
    walk_at "sx"
    with_reducible refine sx_meth ?_
    walk_at "sx"
    refine (hb.ex (e8B.trans e12)).meth (by decide) ?_
    walk_at "sx"
    refine ⟨_, _, .ref x, fr, S, Y, hw, i12, rfl, hb.ex (e8B.trans e12), by omega, fun v13 H13 e13 i13 r13 => ?_⟩
    have e8D := e8B.trans (e12.trans e13)
    walk_at "sx"
    with_reducible refine sx_meth ?_
    walk_at "sx"
    refine (hb.ex e8D).meth (by decide) ?_
    walk_at "sx"
    refine ⟨_, _, .ref x, fr, S, Y, hw, i13, rfl, hb.ex e8D, fun v14 H14 e14 i14 r14 => ?_⟩
    have e8E := e8D.trans e14
    walk_at "sx"
    obtain ⟨a14, dx14, fs14, ea14, ha14⟩ := (hb.ex e8E).own
    refine ⟨a14, dx14, fs14, by rw [ea14], ha14, _, _, .ref a14, fr, S, Y, hw, i14, rfl, ea14 ▸ hb.ex e8E, Y.length, rfl, by omega, ?_⟩
    walk_at "sx"
    refine lst_end (K := K) hw i14 (.cons ((r12.ex e13).ex e14) (.cons (r13.ex e14) (.cons r14 (.cons (.int _) .nil)))) (szOk (by simp)) fun v15 H15 e15 i15 r15 => ?_
    have e8F := e8E.trans e15
    walk_at "sx"
    refine len_R (rm8.ex e8F) (.inl rfl) ?_
    rw [List.length_map]
    walk_at "sx"
    have eBF := e12.trans (e13.trans (e14.trans e15))
    refine lst_end (K := K) hw i15 (.cons (rm8.ex e8F) (.cons (r9.ex ((e10.trans e11).trans eBF)) (.cons (r11.ex eBF) (.cons (.int _) .nil)))) (szOk (by simp)) fun v16 H16 e16 i16 r16 => ?_
    walk_at "sx"
    have hFl : (fullF Y).length ≤ 40 := Nat.le_trans (List.length_filter_le _ _) hYl
    refine ⟨_, _, v15, v16, _, hw, i16, rfl, r15.ex e16, r16, .inr (.inl ⟨_, .inl rfl, by simp, all_cons (fit_S Y (by omega) 2).1 (all_cons (fit_S _ (by omega) 2).1 (all_cons (fit_S _ (by omega) 2).1 (all_cons (fit_sc rfl _) all_nil)))⟩), fun H17 e17 i17 => ?_⟩
    have e8H := e8F.trans (e16.trans e17)
    walk_at "sx"
    refine ⟨_, _, c, fr, hw, i17, rfl, rc8.ex e8H, hfr, by omega, fun vE H18 e18 i18 rE => ?_⟩
    have e8I := e8H.trans e18
    have hEl : (fillF fr).length ≤ 15625 := by
      have h1 := fill_len (n := fr.length) (fr := fr) rfl fun p hp => (hfr p hp).2.1
      have h3 : (5 : Nat) ^ fr.length ≤ 5 ^ 6 := Nat.pow_le_pow_right (by decide) (by omega)
      have h4 : (5 : Nat) ^ 6 = 15625 := by decide
      omega
    have hEm : ∀ r, r ∈ fillF fr ↔ isRow fr r = true := fill_mem rfl
    have hEi := fill_is (Y := Y) rfl hY hSr
    generalize fillF fr = E at rE hEl hEm hEi
    walk_at "sx"
    refine len_R rE (.inl rfl) ?_
    rw [List.length_map]
    walk_at "sx"
    refine div_nat (n := E.length) (j := 250) ⟨by decide, by decide⟩ ?_
    walk_at "sx"
    have es : (1 : Int) + ((E.length / 250 : Nat) : Int) = ((1 + E.length / 250 : Nat) : Int) := by omega
    rw [es]
    generalize hst : 1 + E.length / 250 = st
    have hst0 : 0 < st := by omega
    have hst1 : st < 100000 := by omega
    refine ⟨_, _, b, _, hw, i18, hB, rfl, by omega, by omega, fun sk H19 hsk e19 i19 => ?_⟩
    have e8J := e8I.trans e19
    have rE19 := rE.ex e19
    clear rE es hst
    walk_at "sx"
    refine len_R rE19 (.inl rfl) ?_
    rw [List.length_map]
    walk_at "sx"
    refine ⟨_, rfl, by omega, by omega, ?_⟩
    rw [Int.toNat_natCast]
    refine lc_rngF (K := K) (fun k => decide (k % st = sk) || decide (E.getD k [] ∈ Y)) (fun k => eS (E.getD k [])) hw i19 (szOk (by omega)) (fun _ => rfl) ?_ ?_ ?_
    · intro L acc k H20 hL hk wf hi ex Qt qt
      rw [Int.zero_add]
      have eg : E[k]? = some (E.getD k []) := by simp [List.getD_eq_getElem?_getD, hk]
      walk_at "sx"
      refine mod_ii (by omega) ?_
      walk_at "sx"
      rw [show decide (((k : Nat) : Int) % ((st : Nat) : Int) = ((sk : Nat) : Int)) = decide (k % st = sk) from dec_congr (by omega)]
      refine ifB (fun h => ?_) (fun h => ?_)
      · have := qt H20 hi (Ex.refl _)
        rw [h, Bool.true_or] at this
        exact this
      · walk_at "sx"
        refine ix_R (n := k) ((rE19.off hL).ex ex) (.inl rfl) (by rw [List.getElem?_map, eg]; rfl) fun v rv => ?_
        cases rep_str rv
        walk_at "sx"
        refine in_L (ls := Y) (((rm8.ex e8J).off hL).ex ex) (.inl rfl) ?_
        walk_at "sx"
        have := qt H20 hi (Ex.refl _)
        rw [h, Bool.false_or] at this
        exact this
    · intro L acc k H20 hL hk _ wf hi ex Qe qe
      rw [Int.zero_add]
      have eg : E[k]? = some (E.getD k []) := by simp [List.getD_eq_getElem?_getD, hk]
      walk_at "sx"
      refine ix_R (n := k) ((rE19.off hL).ex ex) (.inl rfl) (by rw [List.getElem?_map, eg]; rfl) fun v rv => ?_
      exact qe _ _ rv hi (Ex.refl _)
    intro vA H20 rA e20 i20
    have e8K := e8J.trans e20
    have hA0 := asked_is (E := E) (Y := Y) (p := fun k => decide (k % st = sk) || decide (E.getD k [] ∈ Y)) (fun k _ h => by show (decide (k % st = sk) || decide (E.getD k [] ∈ Y)) = true; rw [decide_eq_true h, Bool.or_true])
    have hAr : ∀ r ∈ (((List.range E.length).filter fun k => decide (k % st = sk) || decide (E.getD k [] ∈ Y)).map fun k => E.getD k []), isRow fr r = true := by
      intro r hr
      obtain ⟨k, hk, rfl⟩ := List.mem_map.mp hr
      have hk := List.mem_range.mp (List.mem_filter.mp hk).1
      refine (hEm _).mp ?_
      rw [List.getD_eq_getElem?_getD, List.getElem?_eq_getElem hk]
      exact List.getElem_mem _
    have hAl : (((List.range E.length).filter fun k => decide (k % st = sk) || decide (E.getD k [] ∈ Y)).map fun k => E.getD k []).length ≤ E.length := by
      rw [List.length_map]
      have := List.length_filter_le (fun k => decide (k % st = sk) || decide (E.getD k [] ∈ Y)) (List.range E.length)
      rw [List.length_range] at this
      exact this
    rw [show (((List.range E.length).filter fun k => decide (k % st = sk) || decide (E.getD k [] ∈ Y)).map fun k => eS (E.getD k [])) = (((List.range E.length).filter fun k => decide (k % st = sk) || decide (E.getD k [] ∈ Y)).map fun k => E.getD k []).map eS by rw [List.map_map]; rfl] at rA
    rw [hEi] at hA0
    generalize (((List.range E.length).filter fun k => decide (k % st = sk) || decide (E.getD k [] ∈ Y)).map fun k => E.getD k []) = A at rA hA0 hAr hAl
    walk_at "sx"
    refine lc_srcF (as := A) (enc := eS) (fun r => decide (r ∈ Y)) eS hw i20 rA rfl (szOk (by omega)) (fun _ => rfl) ?_ ?_ ?_
    · intro L acc k s v H21 hL ha rv wf hi ex Qt qt
      cases rep_str rv
      walk_at "sx"
      have hbx := (((hb.ex e8K).off hL).ex ex)
      obtain ⟨a1, dx1, fs1, ea1, ha1⟩ := hbx.own
      refine ⟨a1, dx1, fs1, by rw [ea1], ha1, _, _, .ref a1, fr, S, Y, s, wf, hi, rfl, ea1 ▸ hbx, fun H22 e22 i22 => ⟨_, rfl, ?_⟩⟩
      rw [show (decide (s ∈ Y) != false) = decide (s ∈ Y) by cases decide (s ∈ Y) <;> rfl]
      walk_at "sx"
      exact qt _ i22 e22
    · intro L acc k s v H21 hL ha _ rv wf hi ex Qe qe
      cases rep_str rv
      walk_at "sx"
      exact qe _ _ (.str _) hi (Ex.refl _)
    intro vK H21 rK e21 i21
    have rK : Rep K (MB b l) H21 vK (.lst (Y.map eS)) := by
      have e : A.filter (fun r => decide (r ∈ Y)) = Y := hA0
      rw [e] at rK
      exact rK
    have e8L := e8K.trans e21
    walk_at "sx"
    refine ⟨_, _, vK, m, _, hw, i21, rfl, rK, rm8.ex e8L, (fit_S Y (by omega) 3).1, fun H22 e22 i22 => ?_⟩
    have e8M := e8L.trans e22
    walk_at "sx"
    have rA22 := (rA.ex e21).ex e22
    refine len_R rA22 (.inl rfl) ?_
    rw [List.length_map]
    walk_at "sx"
    refine div_nat (n := A.length) (j := 50) ⟨by decide, by decide⟩ ?_
    walk_at "sx"
    have es : (1 : Int) + ((A.length / 50 : Nat) : Int) = ((1 + A.length / 50 : Nat) : Int) := by omega
    rw [es]
    generalize hst2 : 1 + A.length / 50 = st2
    have hst20 : 0 < st2 := by omega
    have hst21 : st2 < 100000 := by omega
    refine ⟨_, _, b, _, hw, i22, hB, rfl, by omega, by omega, fun sk2 H23 hsk2 e23 i23 => ?_⟩
    have e8N := e8M.trans e23
    have rA23 := rA22.ex e23
    clear es hst2 rA22 rA
    walk_at "sx"
    refine len_R rA23 (.inl rfl) ?_
    rw [List.length_map]
    walk_at "sx"
    refine ⟨_, rfl, by omega, by omega, ?_⟩
    rw [Int.toNat_natCast]
    have r11N : Rep K (MB b l) H23 (.ref p11) (.lst ((ordF gC (Y.map lot)).map eS)) := r11.ex (eBF.trans (e16.trans (e17.trans (e18.trans (e19.trans (e20.trans (e21.trans (e22.trans e23))))))))
    have r9N : Rep K (MB b l) H23 vf (.lst ((fullF Y).map eS)) := r9.ex ((e10.trans e11).trans (eBF.trans (e16.trans (e17.trans (e18.trans (e19.trans (e20.trans (e21.trans (e22.trans e23)))))))))
    refine for_rng (fun k σ H => ∃ u13, σ = [some (.ref a), some (.ref b), some c, some y, some m, some (.ref x), some vf, some (.ref p11), some vE, some (.int (st2 : Nat)), some (.int (sk2 : Nat)), some vA, some vK, u13, none, none, none, none, none, none] ∧ IB b l H ∧ Ex (MB b l) H23 H) ⟨_, rfl, i23, Ex.refl _⟩ ?_ ?_
    · rintro k σ H24 hk ⟨u13, rfl, i24, e24⟩
      rw [Int.zero_add]
      have hk : k < A.length := hk
      have eg : A[k]? = some (A.getD k []) := by simp [List.getD_eq_getElem?_getD, hk]
      have hrr := hAr _ (List.mem_of_getElem? eg)
      generalize A.getD k [] = r at eg hrr
      have rA24 := rA23.ex e24
      have e8O := e8N.trans e24
      walk_at "sx"
      refine mod_ii (by omega) ?_
      walk_at "sx"
      refine two (M := MB b l) (I := IB b l) (H := H24) (P := ?P) (fun body => ?_) ?_
      case refine_1 =>
        refine ifB (fun h => ?_) (fun h => ?_)
        · refine ifT ?_
          exact body H24 (Ex.refl _) i24
        · walk_at "sx"
          refine ix_R (n := k) rA24 (.inl rfl) (by rw [List.getElem?_map, eg]; rfl) fun v rv => ?_
          cases rep_str rv
          walk_at "sx"
          refine in_L (ls := Y) (rm8.ex e8O) (.inl rfl) ?_
          walk_at "sx"
          refine ifB (fun h => ?_) (fun h => ?_)
          · exact body H24 (Ex.refl _) i24
          · walk_at "sx"
            exact ⟨_, rfl, i24, e24⟩
      case refine_2 =>
        intro H25 e25 i25
        walk_at "sx"
        refine ix_R (n := k) (rA24.ex e25) (.inl rfl) (by rw [List.getElem?_map, eg]; rfl) fun v rv => ?_
        cases rep_str rv
        walk_at "sx"
        refine ix_R (n := k) (rA24.ex e25) (.inl rfl) (by rw [List.getElem?_map, eg]; rfl) fun v rv => ?_
        cases rep_str rv
        walk_at "sx"
        refine in_L (ls := Y) ((rm8.ex e8O).ex e25) (.inl rfl) ?_
        walk_at "sx"
        have e8P := e8O.trans e25
        refine ⟨_, _, .ref x, c, y, fr, S, Y, r, hw, i25, rfl, hb.ex e8P, rc8.ex e8P, ry8.ex e8P, hfr, by omega, by omega, hSr, hrr, hY, fun H26 e26 i26 => ?_⟩
        walk_at "sx"
        exact ⟨_, rfl, i26, e24.trans (e25.trans e26)⟩
    · rintro σ H24 ⟨u13, rfl, i24, e24⟩
      have e8O := e8N.trans e24
      walk_at "sx"
      refine ⟨_, rfl, by decide, by decide, ?_⟩
      have hYne : 0 < Y.length := List.length_pos_of_mem ((hY.mem _).mpr Cl.base)
      refine for_rng (fun k σ H => ∃ u14 u15 u16 u17 u18, σ = [some (.ref a), some (.ref b), some c, some y, some m, some (.ref x), some vf, some (.ref p11), some vE, some (.int (st2 : Nat)), some (.int (sk2 : Nat)), some vA, some vK, u13, u14, u15, u16, u17, u18, none] ∧ IB b l H ∧ Ex (MB b l) H24 H) ⟨_, _, _, _, _, rfl, i24, Ex.refl _⟩ ?_ ?_
      · rintro k σ H25 hk ⟨u14, u15, u16, u17, u18, rfl, i25, e25⟩
        have e8P := e8O.trans e25
        walk_at "sx"
        refine ⟨_, _, b, m, _, Y.map eS, hw, i25, hB, rfl, rm8.ex e8P, rfl, by rw [List.length_map]; omega, by rw [List.length_map]; omega, fun v1 d1 H26 hd1 rv1 e26 i26 => ?_⟩
        obtain ⟨r1, hr1, rfl⟩ := List.mem_map.mp hd1
        cases rep_str rv1
        have e8Q := e8P.trans e26
        walk_at "sx"
        refine ⟨_, _, b, m, _, Y.map eS, hw, i26, hB, rfl, rm8.ex e8Q, rfl, by rw [List.length_map]; omega, by rw [List.length_map]; omega, fun v2 d2 H27 hd2 rv2 e27 i27 => ?_⟩
        obtain ⟨r2, hr2, rfl⟩ := List.mem_map.mp hd2
        cases rep_str rv2
        have l1 := hYlen r1 hr1
        have l2 := hYlen r2 hr2
        have e8R := e8Q.trans e27
        walk_at "sx"
        refine ⟨_, _, r1, hw, i27, rfl, by omega, fun H28 e28 i28 => ?_⟩
        walk_at "sx"
        refine ⟨_, _, r2, hw, i28, rfl, by omega, fun H29 e29 i29 => ?_⟩
        have e8T := e8R.trans (e28.trans e29)
        walk_at "sx"
        have hin : lay r1 r2 ∈ Y := (hY.mem _).mpr (cl_lay lnS ((hY.mem _).mp hr1) ((hY.mem _).mp hr2))
        refine ⟨_, _, r1, r2, hw, i29, rfl, by omega, fun H30 e30 i30 => ?_⟩
        walk_at "sx"
        have hbx := hb.ex (e8T.trans e30)
        obtain ⟨a1, dx1, fs1, ea1, ha1⟩ := hbx.own
        refine ⟨a1, dx1, fs1, by rw [ea1], ha1, _, _, .ref a1, fr, S, Y, lay r1 r2, hw, i30, rfl, ea1 ▸ hbx, fun H31 e31 i31 => ⟨_, rfl, ?_⟩⟩
        rw [show (decide (lay r1 r2 ∈ Y) != true) = false by rw [decide_eq_true hin]; rfl]
        walk_at "sx"
        refine ⟨_, _, r1, r2, hw, i31, rfl, by omega, fun H32 e32 i32 => ?_⟩
        walk_at "sx"
        have e8W := e8T.trans (e30.trans (e31.trans e32))
        refine ni_L (ls := Y) (rm8.ex e8W) (.inl rfl) ?_
        rw [show (!decide (lay r1 r2 ∈ Y)) = false by rw [decide_eq_true hin]; rfl]
        walk_at "sx"
        refine ⟨_, _, lot r1, lot r2, hw, i32, rfl, by rw [lot_len]; omega, fun H33 e33 i33 => ?_⟩
        walk_at "sx"
        have e2X := e25.trans (e26.trans (e27.trans (e28.trans (e29.trans (e30.trans (e31.trans (e32.trans e33)))))))
        refine ni_L (ls := ordF gC (Y.map lot)) (r11N.ex (e24.trans e2X)) (.inl rfl) ?_
        have hin2 : uni (lot r1) (lot r2) ∈ ordF gC (Y.map lot) := by
          rw [ordF_mem, ← lot_lay (by omega)]
          exact List.mem_map_of_mem hin
        rw [show (!decide (uni (lot r1) (lot r2) ∈ ordF gC (Y.map lot))) = false by rw [decide_eq_true hin2]; rfl]
        walk_at "sx"
        exact ⟨_, _, _, _, _, rfl, i33, e2X⟩
      · rintro σ H25 ⟨u14, u15, u16, u17, u18, rfl, i25, e25⟩
        have e8P := e8O.trans e25
        walk_at "sx"
        with_reducible refine sx_meth ?_
        walk_at "sx"
        refine (hb.ex e8P).meth (by decide) ?_
        walk_at "sx"
        refine ⟨_, _, .ref x, fr, S, Y, hw, i25, rfl, hb.ex e8P, fun v26 H26 e26 i26 r26 => ?_⟩
        walk_at "sx"
        refine len_R (r9N.ex (e24.trans (e25.trans e26))) (.inl rfl) ?_
        rw [List.length_map]
        walk_at "sx"
        rw [show decide ((0 : Int) < (((fullF Y).length : Nat) : Int)) = true from decide_eq_true (by have := full_pos hSg hY; omega)]
        refine lst_end (K := K) hw i26 (.cons r26 (.cons (.bl _) .nil)) (szOk (by simp)) fun v27 H27 e27 i27 r27 => ?_
        walk_at "sx"
        refine lst_end (K := K) hw i27 (.cons (rm8.ex (e8P.trans (e26.trans e27))) (.cons (.bl _) .nil)) (szOk (by simp)) fun v28 H28 e28 i28 r28 => ?_
        walk_at "sx"
        refine ⟨_, _, v27, v28, _, hw, i28, rfl, r27.ex e28, r28, .inr (.inl ⟨_, .inl rfl, by simp, all_cons (fit_S Y (by omega) 2).1 (all_cons (fit_sc rfl _) all_nil)⟩), fun H29 e29 i29 => ?_⟩
        exact q H29
end


end H08
namespace Hd08
open PySem PySem.Spec PyProof.Rows Nt G08
open L2 hiding rLen
theorem all_ok {P : Program} {w : World} {K : PySem.W.Frag} {h base : Heap} {mg : Str → Option Value} {f : Addr} {fd : FuncData} (X : K.In h) (G : h.Ns mainGlobals mg) (c : SaysX fa fn K) (F : FunD K "law" "law" (defArgs s_law) (defBody s_law) (defScope s_law) [] [] f fd) :
    FnOk P w K mg base (L2.CX P w) 8 f fd ["_law_script"] (H08.spLaw K) := by
  have B := bl X G c
  have h_Band___contains__ := H08.ok_Band_contains (P := P) (w := w) (base := base) B (cls_Band c) (at_Band___contains__ X G c)
  have h_blank := H08.ok_blank (P := P) (w := w) (base := base) B (at_blank X G c)
  have h_is_name := H08.ok_is_name (P := P) (w := w) (base := base) B (at_is_name X G c)
  have h_is_number := H08.ok_is_number (P := P) (w := w) (base := base) B (at_is_number X G c)
  have h_check_cells := H08.ok_check_cells (P := P) (w := w) (base := base) B h_is_name h_is_number (at_check_cells X G c)
  have h_is_row := H08.ok_is_row (P := P) (w := w) (base := base) B (at_is_row X G c)
  have h_check_seeds := H08.ok_check_seeds (P := P) (w := w) (base := base) B h_blank h_is_row (at_check_seeds X G c)
  have h_over := H08.ok_over (P := P) (w := w) (base := base) B (at_over X G c)
  have h_grown_rows := H08.ok_grown_rows (P := P) (w := w) (base := base) B h_over (at_grown_rows X G c)
  have h_lot_of := H08.ok_lot_of (P := P) (w := w) (base := base) B (at_lot_of X G c)
  have h_ordered_lots := H08.ok_ordered_lots (P := P) (w := w) (base := base) B (at_lot_size X G c) (at_ordered_lots X G c)
  have h_Band___init__ := H08.ok_init (P := P) (w := w) (base := base) B (cls_Band c) h_blank h_check_cells h_check_seeds h_grown_rows h_is_number h_lot_of h_ordered_lots (at_Band___init__ X G c)
  have h_Band___len__ := H08.ok_Band_len (P := P) (w := w) (base := base) B (cls_Band c) (at_Band___len__ X G c)
  have h_Band_full_rows := H08.ok_Band_full_rows (P := P) (w := w) (base := base) B (cls_Band c) (at_Band_full_rows X G c)
  have h_Band_lots := H08.ok_Band_lots (P := P) (w := w) (base := base) B (cls_Band c) (at_Band_lots X G c)
  have h_Band_rows := H08.ok_Band_rows (P := P) (w := w) (base := base) B (cls_Band c) (at_Band_rows X G c)
  have h__law_bag := H08.ok_bag (P := P) (w := w) (base := base) B (at__law_bag X G c)
  have h__law_draw := H08.ok_draw (P := P) (w := w) (base := base) B (at__law_draw X G c)
  have h__law_fillings := H08.ok_fillings (P := P) (w := w) (base := base) B (at__law_fillings X G c)
  have h__law_of := H08.ok_of (P := P) (w := w) (base := base) B h__law_draw (at__law_of X G c)
  have h__law_title := H08.ok_title (P := P) (w := w) (base := base) B h__law_draw h__law_of (at__law_title X G c)
  have h__law_frame := H08.ok_frame (P := P) (w := w) (base := base) B h__law_draw h__law_title (at__law_frame X G c)
  have h__law_lot := H08.ok_lot (P := P) (w := w) (base := base) B (at__law_lot X G c)
  have h__law_once := H08.ok_once (P := P) (w := w) (base := base) B (at__law_once X G c)
  have h__law_lots := H08.ok_lots (P := P) (w := w) (base := base) B h__law_once (at__law_lots X G c)
  have h_new_places := H08.ok_new_places (P := P) (w := w) (base := base) B (at_new_places X G c)
  have h_bar_lines := H08.ok_bar_lines (P := P) (w := w) (base := base) B h_new_places (at_bar_lines X G c)
  have h_can_take := H08.ok_can_take (P := P) (w := w) (base := base) B h_new_places (at_can_take X G c)
  have h_first_to_take := H08.ok_first_to_take (P := P) (w := w) (base := base) B h_can_take (at_first_to_take X G c)
  have h_union := H08.ok_union (P := P) (w := w) (base := base) B (at_union X G c)
  have h_taking := H08.ok_taking (P := P) (w := w) (base := base) B h_blank h_first_to_take h_lot_of h_union (at_taking X G c)
  have h_come_coming := H08.ok_come_coming (P := P) (w := w) (base := base) B (at_come X G c) h_bar_lines h_is_row h_lot_of h_taking (at_come_coming X G c)
  have h_Band_come := H08.ok_Band_come (P := P) (w := w) (base := base) B (cls_Band c) h_come_coming (at_Band_come X G c)
  have h__law_fresh := H08.ok_fresh (P := P) (w := w) (base := base) B (at__law_fresh X G c)
  have h__law_fits := H08.ok_fits (P := P) (w := w) (base := base) B h__law_fresh (at__law_fits X G c)
  have h__law_join := H08.ok_join (P := P) (w := w) (base := base) B (at__law_join X G c)
  have h__law_greedy := H08.ok_greedy (P := P) (w := w) (base := base) B h__law_fits h__law_join h__law_lot (at__law_greedy X G c)
  have h__law_lines := H08.ok_lines (P := P) (w := w) (base := base) B h__law_fresh h__law_greedy h__law_lot (at__law_lines X G c)
  have h__law_same := H08.ok_same (P := P) (w := w) (base := base) B (at__law_same X G c) 4
  have h_is_made := H08.ok_is_made (P := P) (w := w) (base := base) B h_is_row h_lot_of h_taking (at_is_made X G c)
  have h_bar_holds := H08.ok_bar_holds (P := P) (w := w) (base := base) B h_new_places (at_bar_holds X G c)
  have h_has_form := H08.ok_has_form (P := P) (w := w) (base := base) B (at_has_form X G c)
  have h_next_to_bar := H08.ok_next_to_bar (P := P) (w := w) (base := base) B h_new_places (at_next_to_bar X G c)
  have h_last_holds := H08.ok_last_holds (P := P) (w := w) (base := base) B h_has_form h_lot_of h_next_to_bar (at_last_holds X G c)
  have h_take_holds := H08.ok_take_holds (P := P) (w := w) (base := base) B h_can_take (at_take_holds X G c)
  have h_look := H08.ok_look (P := P) (w := w) (base := base) B h_bar_holds h_blank h_has_form h_is_row h_last_holds h_lot_of h_next_to_bar h_take_holds h_union (at_look X G c)
  have h__law_paper_so := H08.ok_paper_so (P := P) (w := w) (base := base) B (cls_Band c) h_Band___contains__ h_Band_come h__law_lines h__law_same h_is_made h_look (at__law_paper_so X G c)
  have h__law_lay := H08.ok_lay (P := P) (w := w) (base := base) B (at__law_lay X G c)
  have h__law_rows := H08.ok_rows (P := P) (w := w) (base := base) B h__law_lay (at__law_rows X G c)
  have h__law_size := H08.ok_size (P := P) (w := w) (base := base) B h__law_of (at__law_size X G c)
  have h__law_row := H08.ok_row (P := P) (w := w) (base := base) B h__law_draw (at__law_row X G c)
  have h__law_stack := H08.ok_stack (P := P) (w := w) (base := base) B h__law_draw h__law_lot h__law_of h__law_once h__law_row (at__law_stack X G c)
  exact H08.ok_law (P := P) (w := w) (base := base) B (cls_Band c) h_Band___contains__ h_Band___init__ h_Band___len__ h_Band_full_rows h_Band_lots h_Band_rows h__law_bag h__law_draw h__law_fillings h__law_frame h__law_lot h__law_lots h__law_of h__law_paper_so h__law_rows h__law_same h__law_size h__law_stack h_over h_union F
theorem facts {P : Program} {w : World} {K : PySem.W.Frag} {h : Heap} {mg : Str → Option Value} {f : Addr} (X : K.In h) (G : h.Ns mainGlobals mg) (hfa : mg ("law" : Str) = some (.ref f)) (c : SaysX fa fn K) :
    ∃ fd : FuncData, (∀ (s : Shared) (v : Value), BindsTo s fd ⟨[v], []⟩ [("_law_script", v)]) ∧ ∀ base : Heap, K.In base → base.Ns mainGlobals mg → FnOk P w K mg base (L2.CX P w) 8 f fd ["_law_script"] (H08.spLaw K) := by
  obtain ⟨fd, F⟩ := c.def_ 54 (d := d_law) rfl
  have e := hfa.symm.trans (He.glo_ok X G (glo_law c))
  cases e
  have b := FunD.bindsA (ps := ["_law_script"]) F fun _ _ _ _ _ _ us hl => match us, hl with | [_], _ => rfl
  exact ⟨fd, fun s v => b s [v] rfl, fun base _ _ => all_ok X G c F⟩
end Hd08
open PySem PySem.W PySem.Calls PyProof.Rows
theorem PySem.Challenge.cw_newesttells_k08_whole_rows_by_closure_holds : PySem.Challenge.rw_newesttells_k08_whole_rows_by_closure.Holds := by
  w_on; o_law
  refine HandSHeadRun.head_any (r := OpenLaw.row PySem.Challenge.rw_newesttells_k08_whole_rows_by_closure) (q := view (OpenLaw.row PySem.Challenge.rw_newesttells_k08_whole_rows_by_closure).prog [74]) (H := Hd08.hk) (ob := Hd08.ob) (M := 8000) (loose := Hd08.loose) (d := HandSHeadRun.topDef (OpenLaw.row PySem.Challenge.rw_newesttells_k08_whole_rows_by_closure).prog 74) (kwd := []) Hd08.ob_eq
    (by kernel_rfl) (fun s => by kernel_rfl) Hd08.run (by kernel_rfl) (by kernel_rfl) (by kernel_rfl) (by rfl) (by first | assumption | decide +kernel) (by decide +kernel) ⟨rfl, rfl, rfl, rfl, rfl, by decide +kernel⟩ ?hw ?hc
  case hw => w_witness2
  case hc =>
    refine Nt.law_walk (l := PySem.Challenge.rw_newesttells_k08_whole_rows_by_closure) (n := 63) (k := 8) (x := "_law_script") rfl (by decide) (by kernel_rfl) ⟨rfl, by decide, by decide⟩ ?F
    intro w mg fa h Y G hmg0
    obtain ⟨K, KX, c⟩ := Y
    have hmg : mg ("law" : PySem.Str) = some (.ref fa) := by
      have e : (HandSHeadRun.topDef (OpenLaw.row PySem.Challenge.rw_newesttells_k08_whole_rows_by_closure).prog 74).name = ("law" : PySem.Str) := by kernel_rfl
      rw [← e]
      exact hmg0
    obtain ⟨fd, hb, hF⟩ := Hd08.facts (P := (PySem.Challenge.rw_newesttells_k08_whole_rows_by_closure).prog) (w := w) KX G hmg c
    exact ⟨K, fd, H08.spLaw K, KX, hb, fun H a ns hl hS => ⟨a, ns, rfl, hS, hl, fun _ => rfl⟩, hF⟩

