import PyProof.Rows.All
import Wide.All
import OpenK.AllK
import Wide.FinOn
import KE.GoesEnum
import HandS.ForMost
import HandS.Walk
import HandS.Wide
import HandS.TupAny
import HandS.Defaults
import HandS.IsInst
import HandS.Words
import HandS.WordsList
import HandS.HeadEnd
import HandS.HeadHook1
import HandS.HeadHook2
import HandS.Exc
import HandS.TryOnly
import HandS.WordsExc
import HandS.Steps
import HandS.Style
import HandS.Flow
import HandS.Strs
import HandS.Deep
import HandS.Conv
import HandS.Dict
import HandS.Text
import HandS.Ends
import HandS.Set
import HandS.SetFor
import PyProof.Rows.SortShellAny
import PyProof.Rows.SetFrom
import KE.SortKeyHeap
import HandS.SortKw
import HandS.NamedTup0
import HandS.NamedTupGet
import PyProof.ListStr
import HandS.DictComp
import HandS.Property
import HandS.Star
import HandS.More
import HandS.ExcInit
import HandS.ExcField
import KE.KExcInit
import PyProof.ExcBaseAll.ValueError
import PyProof.ExcBaseAll.LookupError
import PyProof.ExcBaseAll.IndexError
import HandS.NoneIn
import HandS.Iter
import HandS.OwnEq
import HandS.FStr
import HandS.SlotsOwn
import PyProof.InstSpecial
import HandS.ExcOwn
import HandS.TryMany
import KE.KOpsOwn
import HandS.StrMore
import KE.DataMinMax
import ObjForm.LawKit
import PyProof.Rows.StrCut
import HandS.MakeKwOnly
import PyProof.InstNe
import HandS.WideBits
import KE.SortData
import HandS.ListItems
import KE.KDictList
import KE.DataCmp
import PyProof.Rows.StrCountLaw
import PySem.Challenge.RW_newesttells_k48_whole_lots_of_bands
import KE.KStateDown
import Lean
import HandS.Head0
import HandS.Head1
import HandS.Head2
set_option Elab.async false
set_option linter.all false
set_option maxRecDepth 100000
set_option maxHeartbeats 8000000
namespace Nt
open PySem PySem.Spec PyProof.Rows L2
/-! ### what may be walked beside another one -/
inductive Src where
  | lst (a : Addr)
  | tup (a : Addr)
  | txt (z : Str)
def Src.v : Src → V
  | .lst a => .ref a
  | .tup a => .ref a
  | .txt z => .str z
def signs (z : Str) : List V := z.cps.toList.map fun c => .str ⟨#[c]⟩
def Src.has (K : PySem.W.Frag) (H : Hp) : Src → List V → Prop
  | .lst a, xs => SqL K H a xs
  | .tup a, xs => SqT K H a xs
  | .txt z, xs => xs = signs z
def Src.far (c : Addr) : Src → Prop
  | .lst a => a ≠ c
  | .tup a => a ≠ c
  | .txt _ => True
def Src.at_ (it : Addr) (i : Nat) (h : Heap) : Src → Prop
  | .lst a => h.IsListIter it a i
  | .tup a => h.IsTupleIter it a i
  | .txt z => ∃ t, h.IsStrIter it (strIterType z) z t i
def Src.fp (it : Addr) : Src → List Addr
  | .lst a => [it, a]
  | .tup a => [it, a]
  | .txt _ => [it]
theorem Src.mem_fp {it : Addr} : ∀ s : Src, it ∈ s.fp it
  | .lst _ => by simp [Src.fp]
  | .tup _ => by simp [Src.fp]
  | .txt _ => by simp [Src.fp]
theorem Src.not_fp {it c : Addr} (hi : c ≠ it) : ∀ s : Src, s.far c → c ∉ s.fp it
  | .lst _, h => by simp [Src.fp]; exact ⟨hi, fun e => h e.symm⟩
  | .tup _, h => by simp [Src.fp]; exact ⟨hi, fun e => h e.symm⟩
  | .txt _, _ => by simp [Src.fp]; exact hi
theorem Src.at_obj {it : Addr} {i : Nat} {h : Heap} : ∀ s : Src, s.at_ it i h → ∃ o, h.get? it = some o ∧ ∀ v, o.data ≠ .cell v
  | .lst _, ⟨o, e, _, d⟩ => ⟨o, e, fun v q => by rw [d] at q; cases q⟩
  | .tup _, ⟨o, e, _, d⟩ => ⟨o, e, fun v q => by rw [d] at q; cases q⟩
  | .txt _, ⟨_, o, e, _, d⟩ => ⟨o, e, fun v q => by rw [d] at q; cases q⟩
theorem Src.at_keep {it : Addr} {i : Nat} {h h' : Heap} (k : ∀ o, h.get? it = some o → h'.get? it = some o) : ∀ s : Src, s.at_ it i h → s.at_ it i h'
  | .lst _, x => Heap.IsListIter.at x k
  | .tup _, x => Heap.IsTupleIter.at x k
  | .txt _, ⟨t, o, e, r⟩ => ⟨t, o, k o e, r⟩
variable {X : Cx} {pins : List (Addr × Obj)} {σ : L2.St} {H : Hp} {s : Shared}
/-- what such a thing draws at a turn -/
structure Drawn (X : Cx) (s : Shared) (S : Src) (it : Addr) (i : Nat) (xs : List V) (P : Nat → Value → Prop) (T : Nat → Heap → Prop) : Prop where
  dr : ∀ A : Around, A.handled = none → Draws X.prog X.w A it (S.fp it) xs.length P T
  here : T i s.heap
  rel : ∀ j u, P j u → ∃ x, xs[j]? = some x ∧ RelV x u
  to : ∀ j h, T j h → S.at_ it j h
theorem drawn (I : Inv X pins σ H s) {S : Src} {it : Addr} {i : Nat} {xs : List V} (hs : S.has X.K H xs) (hf : S.far it) (ha : S.at_ it i s.heap) :
    ∃ P T, Drawn X s S it i xs P T := by
  cases S with
  | lst a =>
    obtain ⟨its, rv, p, hz⟩ := I.list hs
    have el : its.toArray.size = xs.length := by rw [List.size_toArray]; exact rv.length.symm
    refine ⟨fun i v => its.toArray[i]? = some v, fun i h => h.IsListIter it a i ∧ h.IsList a its.toArray, ⟨fun A hA => ?_, ⟨ha, p.isList⟩, fun j u e => ?_, fun j h z => z.1⟩⟩
    · rw [← el]
      exact Draws.list hA it a hf its.toArray
    · have e2 : its[j]? = some u := by simpa using e
      have hj : j < xs.length := by
        have := (List.getElem?_eq_some_iff.mp e2).1
        have := rv.length
        omega
      obtain ⟨u', e3, r⟩ := rv.get (i := j) (x := xs[j]) (by simp [hj])
      rw [e2] at e3
      cases e3
      exact ⟨xs[j], by simp [hj], r⟩
  | tup a =>
    obtain ⟨its, rv, p, hz⟩ := I.tuple hs
    have el : its.toArray.size = xs.length := by rw [List.size_toArray]; exact rv.length.symm
    refine ⟨fun i v => its.toArray[i]? = some v, fun i h => h.IsTupleIter it a i ∧ h.IsTuple a its.toArray, ⟨fun A hA => ?_, ⟨ha, p⟩, fun j u e => ?_, fun j h z => z.1⟩⟩
    · rw [← el]
      exact Draws.tuple hA it a hf its.toArray
    · have e2 : its[j]? = some u := by simpa using e
      have hj : j < xs.length := by
        have := (List.getElem?_eq_some_iff.mp e2).1
        have := rv.length
        omega
      obtain ⟨u', e3, r⟩ := rv.get (i := j) (x := xs[j]) (by simp [hj])
      rw [e2] at e3
      cases e3
      exact ⟨xs[j], by simp [hj], r⟩
  | txt z =>
    obtain ⟨t, ha⟩ := ha
    have hs : xs = signs z := hs
    subst hs
    have el : z.cps.size = (signs z).length := by simp [signs]
    refine ⟨fun i v => ∃ c u, z.cps[i]? = some c ∧ v = .str ⟨#[c]⟩ u, fun i h => h.IsStrIter it (strIterType z) z t i, ⟨fun A hA => ?_, ha, fun j u e => ?_, fun j h y => ⟨t, y⟩⟩⟩
    · rw [← el]
      exact Draws.text hA it z t
    · obtain ⟨c, q, e1, e2⟩ := e
      subst e2
      refine ⟨.str ⟨#[c]⟩, ?_, ⟨_, rfl⟩⟩
      simp [signs, e1]

/-! ### zip of two -/
def ItZ (K : PySem.W.Frag) (S1 S2 : Src) : It where
  go := fun i H => ∃ xs ys : List V, S1.has K H xs ∧ S2.has K H ys ∧ i < xs.length ∧ i < ys.length
  yld := fun i H v H' => ∃ T x y, v = .ref T ∧ H T = none ∧ H' = upd H T (.tup [x, y]) ∧ (∀ xs, S1.has K H xs → xs[i]? = some x) ∧ ∀ ys, S2.has K H ys → ys[i]? = some y
  stop := fun i H => ∃ xs ys : List V, S1.has K H xs ∧ S2.has K H ys ∧ i = min xs.length ys.length
theorem has_inj (I : Inv X pins σ H s) {S : Src} {xs ys : List V} (h : S.has X.K H xs) (h' : S.has X.K H ys) : xs = ys := by
  cases S with
  | lst a => exact I.list_inj h h'
  | tup a => exact I.tuple_inj h h'
  | txt z => exact Eq.trans h (Eq.symm h')
structure ZS (z TI TO i1 i2 : Addr) (S1 S2 : Src) : Prop where
  n1 : TI ≠ z
  n2 : TO ≠ z
  n3 : TI ≠ TO
  n4 : TI ≠ i1
  n5 : TI ≠ i2
  n6 : z ≠ i1
  n7 : z ≠ i2
  n8 : TO ≠ i1
  n9 : TO ≠ i2
  n0 : i1 ≠ i2
  a1 : S1.far z
  a2 : S1.far TO
  a3 : S1.far i1
  a4 : S1.far i2
  b1 : S2.far z
  b2 : S2.far TO
  b3 : S2.far i1
  b4 : S2.far i2
theorem ZS.sep {z TI TO i1 i2 : Addr} {S1 S2 : Src} (D : ZS z TI TO i1 i2 S1 S2) : ZipSep2 z TI TO i1 i2 (S1.fp i1) (S2.fp i2) where
  TIz := D.n1
  TOz := D.n2
  TITO := D.n3
  TIi1 := D.n4
  mem1 := S1.mem_fp
  zf1 := S1.not_fp D.n6 D.a1
  Tf1 := S1.not_fp D.n8 D.a2
  TIi2 := D.n5
  mem2 := S2.mem_fp
  zf2 := S2.not_fp D.n7 D.b1
  Tf2 := S2.not_fp D.n9 D.b2
  sep1_2 := S2.not_fp D.n0 D.b3
  sep2_1 := S1.not_fp (fun e => D.n0 e.symm) D.a4
theorem five {α : Type} {c a1 a2 a3 a4 a5 : α} : c ∈ [a1, a2, a3, a4, a5] ↔ c = a1 ∨ c = a2 ∨ c = a3 ∨ c = a4 ∨ c = a5 := by simp
def ZSt (S1 S2 : Src) (z TI TO i1 i2 : Addr) (i : Nat) (h : Heap) : Prop :=
  IsZip h z TI TO .none ∧ IsTupOf2 h TI (.ref i1) (.ref i2) ∧ (∃ x y, IsTupOf2 h TO x y) ∧ S1.at_ i1 i h ∧ S2.at_ i2 i h
theorem turn_zipS {P : Program} {w : World} {K : PySem.W.Frag} {elts : List Expr} {kk : Nat} {tpos : Pos} {S1 S2 : Src} {z TI TO i1 i2 : Addr} (D : ZS z TI TO i1 i2 S1 S2) :
    Turn P w K (.Tuple elts kk tpos) (ItZ K S1 S2) [z, TI, TO, i1, i2] z (ZSt S1 S2 z TI TO i1 i2) where
  mem := by simp
  obj := fun i h st c hc => by
    obtain ⟨q1, q2, ⟨x, y, q3⟩, q4, q5⟩ := st
    rcases five.mp hc with rfl | rfl | rfl | rfl | rfl
    · exact ⟨_, q1, nofun⟩
    · exact ⟨_, q2, nofun⟩
    · exact ⟨_, q3, nofun⟩
    · exact S1.at_obj q4
    · exact S2.at_obj q5
  keep := fun i h h' st k => by
    obtain ⟨q1, q2, ⟨x, y, q3⟩, q4, q5⟩ := st
    exact ⟨k z (by simp) _ q1, k TI (by simp) _ q2, ⟨x, y, k TO (by simp) _ q3⟩, S1.at_keep (k i1 (by simp)) q4, S2.at_keep (k i2 (by simp)) q5⟩
  item := by
    intro X hP hw hK hc i pins s σ H E I hf st hg
    subst hP hw hK
    obtain ⟨q1, q2, ⟨x0, y0, q3⟩, q4, q5⟩ := st
    obtain ⟨xs, ys, g1, g2, l1, l2⟩ := hg
    obtain ⟨P1, T1, D1⟩ := drawn I g1 D.a3 q4
    obtain ⟨P2, T2, D2⟩ := drawn I g2 D.b4 q5
    have hh : X.A.in1.handled = none := I.ok.hd hc
    have hzl : z < s.heap.objs.size := Heap.lt_size q1
    refine wpAny_pyNext_zipD2_item D.sep (D1.dr _ hh) (D2.dr _ hh) q1 q2 q3 D1.here D2.here l1 l2 fun u1 u2 h' tk p1 p2 z' TO' t1 t2 hT hsz hk => ?_
    obtain ⟨x, hx, r1⟩ := D1.rel _ _ p1
    obtain ⟨y, hy, r2⟩ := D2.rel _ _ p2
    refine ⟨_, rfl, wpAny_letOwnedTupleGo_zip (s := { s with heap := h', toks := tk }) z' fun h'' z'' sb => ?_⟩
    have hT2 : IsTupOf2 h'' s.heap.objs.size u1 u2 := (sb.2 _ (Nat.ne_of_gt hzl)).trans hT
    have new : ObjOk X.prog X.w (upd H s.heap.objs.size (.tup [x, y])) h'' s.heap.objs.size (.tup [x, y]) := by
      refine ⟨(by show 2 ≤ sizeLine; decide), [u1, u2], .cons r1 (.cons r2 .nil), ?_⟩
      exact ⟨_, hT2, rfl, _, rfl⟩
    have lt : ∀ c ∈ [z, TI, TO, i1, i2], c < s.heap.objs.size := fun c hcm => by
      rcases five.mp hcm with rfl | rfl | rfl | rfl | rfl
      · exact hzl
      · exact Heap.lt_size q2
      · exact Heap.lt_size q3
      · obtain ⟨_, e, _⟩ := S1.at_obj q4; exact Heap.lt_size e
      · obtain ⟨_, e, _⟩ := S2.at_obj q5; exact Heap.lt_size e
    have I1 : Inv X pins σ (upd H s.heap.objs.size (.tup [x, y])) { s with heap := h'', toks := tk } :=
      I.turnedNew (t' := tk) (ch := [z, TI, TO, i1, i2]) (fun c o hb q => by
        have hb' := fun e => hb (five.mpr e)
        exact (sb.2 c fun e => hb' (.inl e)).trans (hk c o (fun e => hb' (.inl e)) (fun e => hb' (.inr (.inr (.inl e)))) (fun e => hb' (.inr (.inr (.inr (.inl e))))) (fun e => hb' (.inr (.inr (.inr (.inr e))))) q)) hf (Nat.le_refl _) new
    refine ⟨.ref s.heap.objs.size, _, I1, rfl, ⟨_, x, y, rfl, I.hok.fresh (Nat.le_refl _), rfl, fun l hl => ?_, fun l hl => ?_⟩, ⟨z'', ?_, ⟨u1, u2, ?_⟩, ?_, ?_⟩, fun c hcm => ?_⟩
    · rw [has_inj I hl g1]; exact hx
    · rw [has_inj I hl g2]; exact hy
    · exact (sb.2 _ D.n1).trans (hk _ _ D.n1 D.n3 D.n4 D.n5 q2)
    · exact (sb.2 _ D.n2).trans TO'
    · exact S1.at_keep (fun o q => (sb.2 _ fun e => D.n6 e.symm).trans q) (D1.to _ _ t1)
    · exact S2.at_keep (fun o q => (sb.2 _ fun e => D.n7 e.symm).trans q) (D2.to _ _ t2)
    · rw [upd_ne (Nat.ne_of_lt (lt c hcm))]
      exact (hf c hcm).1
  done := by
    intro X hP hw hK hc i pins s σ H E I hf st hg
    subst hP hw hK
    obtain ⟨q1, q2, ⟨x0, y0, q3⟩, q4, q5⟩ := st
    obtain ⟨xs, ys, g1, g2, he⟩ := hg
    obtain ⟨P1, T1, D1⟩ := drawn I g1 D.a3 q4
    obtain ⟨P2, T2, D2⟩ := drawn I g2 D.b4 q5
    have hh : X.A.in1.handled = none := I.ok.hd hc
    refine wpAny_pyNext_zipD2_end D.sep (D1.dr _ hh) (D2.dr _ hh) q1 q2 q3 D1.here D2.here (by omega) (by omega) (by omega) fun h' tk hk => ⟨rfl, ?_⟩
    refine I.turnedL (t' := tk) (ch := [z, TI, TO, i1, i2]) (fun c o hb q => ?_) hf
    have hb' := fun e => hb (five.mpr e)
    exact hk c o (fun e => hb' (.inl e)) (fun e => hb' (.inr (.inr (.inl e)))) (fun e => hb' (.inr (.inr (.inr (.inl e))))) (fun e => hb' (.inr (.inr (.inr (.inr e))))) q
  self := fun A i s Q E st h => wpAny_pyIter_zip st.1 h
/-- how such a thing begins -/
theorem src_begins (I : Inv X pins σ H s) {S : Src} {xs : List V} {u : Value} (hs : S.has X.K H xs) (r : RelV S.v u) :
    ∃ o G, Begins u o G ∧ G s.heap ∧ (∀ h it, h.get? it = some o → S.at_ it 0 h) ∧ ∀ c, s.heap.objs.size ≤ c → S.far c := by
  cases S with
  | lst a =>
    obtain ⟨its, rv, p, hz⟩ := I.list hs
    have e : u = .ref a := r
    subst e
    exact ⟨_, _, begins_list a its.toArray, p.isList, fun h it e => ⟨_, e, rfl, rfl⟩, fun c hc => Nat.ne_of_lt (Nat.lt_of_lt_of_le p.lt hc)⟩
  | tup a =>
    obtain ⟨its, rv, p, hz⟩ := I.tuple hs
    have e : u = .ref a := r
    subst e
    obtain ⟨o1, ho1, _⟩ := id p
    exact ⟨_, _, begins_tuple a its.toArray, p, fun h it e => ⟨_, e, rfl, rfl⟩, fun c hc => Nat.ne_of_lt (Nat.lt_of_lt_of_le (Heap.lt_size ho1) hc)⟩
  | txt z =>
    obtain ⟨t, rfl⟩ := r
    exact ⟨_, _, begins_text z t, trivial, fun h it e => ⟨t, _, e, rfl, rfl⟩, fun c hc => trivial⟩
def zipR (K : PySem.W.Frag) (R : It → Hp → Prop) : List V → Hp → Prop := fun vs H1 => ∃ S1 S2 xs ys, vs = [Src.v S1, Src.v S2] ∧ S1.has K H1 xs ∧ S2.has K H1 ys ∧ R (ItZ K S1 S2) H1
def iZipS (K : PySem.W.Frag) (ta : TA) : TI := fun σ H R => ta σ H (zipR K R)
theorem pi_zipS {X : Cx} {e e2 : Expr} {ta : TA} {p pos tpos : Pos} {elts : List Expr} {kk : Nat} (hg : Gl X "zip") (hm : X.mg "zip" = none) (ha : PA X [e, e2] ta)
    (hs : starEach [e, e2] X.env = (false, eval e X.env) :: starEach [e2] X.env := by rfl) (hpl : (backTo pos (starEach [e2] X.env)).any (·.1) = false := by rfl) :
    PI X (.Tuple elts kk tpos) (.Call (.Name "zip" p) [e, e2] [] pos) (iZipS X.K ta) := by
  refine ⟨fun pins s σ H R I h => ?_⟩
  refine Call_ (ld_blt I hg hm PyProof.Rows.boot_zip (PyProof.Rows.callWith_type1 (thn (ha.run pos pins s σ H _ I h) fun us s1 ⟨vs, H1, I1, r1, q1⟩ => ?_) hs hpl))
  obtain ⟨S1, S2, xs, ys, rfl, h1, h2, q⟩ := q1
  obtain ⟨u1, u2, rfl, r1, r2⟩ := vals2 r1
  obtain ⟨o1, G1, B1, b1, t1, f1⟩ := src_begins I1 h1 r1
  obtain ⟨o2, G2, B2, b2, t2, f2⟩ := src_begins I1 h2 r2
  refine zip_begins2 B1 B2 b1 b2 fun h' hz hTI hTO e1 e2 hsz hk => wpAny_pyIter_zip hz ?_
  generalize hN : s1.heap.objs.size = N at *
  have I2 : Inv X pins σ H1 { s1 with heap := h' } := I1.kept (t' := s1.toks) hk
  have D : ZS (N + 4) (N + 2) (N + 3) N (N + 1) S1 S2 :=
    { n1 := Nat.ne_of_lt (Nat.lt_add_of_pos_right (n := N + 2) (k := 2) (by decide)), n2 := Nat.ne_of_lt (Nat.lt_add_of_pos_right (n := N + 3) (k := 1) (by decide)),
      n3 := Nat.ne_of_lt (Nat.lt_add_of_pos_right (n := N + 2) (k := 1) (by decide)), n4 := Nat.ne_of_gt (Nat.lt_add_of_pos_right (n := N) (k := 2) (by decide)),
      n5 := Nat.ne_of_gt (Nat.lt_add_of_pos_right (n := N + 1) (k := 1) (by decide)), n6 := Nat.ne_of_gt (Nat.lt_add_of_pos_right (n := N) (k := 4) (by decide)),
      n7 := Nat.ne_of_gt (Nat.lt_add_of_pos_right (n := N + 1) (k := 3) (by decide)), n8 := Nat.ne_of_gt (Nat.lt_add_of_pos_right (n := N) (k := 3) (by decide)),
      n9 := Nat.ne_of_gt (Nat.lt_add_of_pos_right (n := N + 1) (k := 2) (by decide)), n0 := Nat.ne_of_lt (Nat.lt_add_of_pos_right (n := N) (k := 1) (by decide)),
      a1 := f1 _ (Nat.le_add_right _ _), a2 := f1 _ (Nat.le_add_right _ _), a3 := f1 _ (Nat.le_refl _), a4 := f1 _ (Nat.le_add_right _ _),
      b1 := f2 _ (Nat.le_add_right _ _), b2 := f2 _ (Nat.le_add_right _ _), b3 := f2 _ (Nat.le_refl _), b4 := f2 _ (Nat.le_add_right _ _) }
  refine ⟨N + 4, [N + 4, N + 2, N + 3, N, N + 1], _, _, H1, rfl, I2, turn_zipS D, ⟨hz, hTI, ⟨_, _, hTO⟩, t1 _ _ e1, t2 _ _ e2⟩, fun c hcm => ?_, q⟩
  have hle : s1.heap.objs.size ≤ c := by
    rw [hN]
    rcases five.mp hcm with rfl | rfl | rfl | rfl | rfl
    · exact Nat.le_add_right _ _
    · exact Nat.le_add_right _ _
    · exact Nat.le_add_right _ _
    · exact Nat.le_refl _
    · exact Nat.le_add_right _ _
  exact I1.fpOk hle (I1.hok.fresh hle)
theorem walk_zipS {K : PySem.W.Frag} {S1 S2 : Src} {xs ys : List V} {n : Nat} (hn : n = min xs.length ys.length) :
    L2.Walk (ItZ K S1 S2) n (fun H => S1.has K H xs ∧ S2.has K H ys) (YPair (fun i => xs[i]?) (fun i => ys[i]?)) := by
  subst hn
  refine ⟨fun i H hi q => ⟨xs, ys, q.1, q.2, by omega, by omega⟩, fun H q => ⟨xs, ys, q.1, q.2, rfl⟩, fun i H v H' _ q y => ?_⟩
  obtain ⟨T, x, u, h1, h2, h3, h4, h5⟩ := y
  exact ⟨T, x, u, h1, h2, h3, h4 xs q.1, h5 ys q.2⟩

/-! ### enumerate of one -/
def ItE (K : PySem.W.Frag) (S : Src) : It where
  go := fun i H => ∃ xs : List V, S.has K H xs ∧ i < xs.length
  yld := fun i H v H' => ∃ T x, v = .ref T ∧ H T = none ∧ H' = upd H T (.tup [.int (i : Nat), x]) ∧ ∀ xs, S.has K H xs → xs[i]? = some x
  stop := fun i H => ∃ xs : List V, S.has K H xs ∧ i = xs.length
def ESt (S : Src) (e it : Addr) (i : Nat) (h : Heap) : Prop := (∃ old, IsEnum h e it ((i : Nat) : Int) old) ∧ S.at_ it i h
theorem turn_enumS {P : Program} {w : World} {K : PySem.W.Frag} {elts : List Expr} {kk : Nat} {tpos : Pos} {S : Src} {e it : Addr} (hne : e ≠ it) (fe : S.far e) (fi : S.far it) :
    Turn P w K (.Tuple elts kk tpos) (ItE K S) [e, it] e (ESt S e it) where
  mem := by simp
  obj := fun i h st c hc => by
    obtain ⟨⟨old, q1⟩, q2⟩ := st
    rcases (by simpa using hc : c = e ∨ c = it) with rfl | rfl
    · exact ⟨_, q1, nofun⟩
    · exact S.at_obj q2
  keep := fun i h h' st k => by
    obtain ⟨⟨old, q1⟩, q2⟩ := st
    exact ⟨⟨old, k e (by simp) _ q1⟩, S.at_keep (k it (by simp)) q2⟩
  item := by
    intro X hP hw hK hc i pins s σ H E I hf st hg
    subst hP hw hK
    obtain ⟨⟨old, q1⟩, q2⟩ := st
    obtain ⟨xs, g1, l1⟩ := hg
    obtain ⟨P1, T1, D1⟩ := drawn I g1 fi q2
    have hh : X.A.in1.handled = none := I.ok.hd hc
    have hel : e < s.heap.objs.size := Heap.lt_size q1
    refine wpAny_pyNext_enum_itemC (D1.dr _ hh) q1 D1.here l1 hne (S.not_fp hne fe) fun u h' tk p1 ho t1 hT hsz hk => ?_
    obtain ⟨x, hx, r1⟩ := D1.rel _ _ p1
    refine ⟨_, rfl, wpAny_letOwnedTupleGo_enum (s := { s with heap := h', toks := tk + 1 }) ho fun h'' he' sb => ?_⟩
    have hT2 : h''.get? s.heap.objs.size = some { cls := .type "tuple", data := .seq #[.int i tk, u] } := (sb.2 _ (Nat.ne_of_gt hel)).trans hT
    have new : ObjOk X.prog X.w (upd H s.heap.objs.size (.tup [.int (i : Nat), x])) h'' s.heap.objs.size (.tup [.int (i : Nat), x]) := by
      refine ⟨(by show 2 ≤ sizeLine; decide), [.int i tk, u], .cons ⟨_, rfl⟩ (.cons r1 .nil), ?_⟩
      exact ⟨_, hT2, rfl, _, rfl⟩
    have lt : ∀ c ∈ [e, it], c < s.heap.objs.size := fun c hcm => by
      rcases (by simpa using hcm : c = e ∨ c = it) with rfl | rfl
      · exact hel
      · obtain ⟨_, e, _⟩ := S.at_obj q2; exact Heap.lt_size e
    have I1 : Inv X pins σ (upd H s.heap.objs.size (.tup [.int (i : Nat), x])) { s with heap := h'', toks := tk + 1 } :=
      I.turnedNew (t' := tk + 1) (ch := [e, it]) (fun c o hb q => by
        have hb' : ¬ (c = e ∨ c = it) := fun z => hb (by simpa using z)
        exact (sb.2 c fun z => hb' (.inl z)).trans (hk c o (fun z => hb' (.inl z)) (fun z => hb' (.inr z)) q)) hf (Nat.le_refl _) new
    refine ⟨.ref s.heap.objs.size, _, I1, rfl, ⟨_, x, rfl, I.hok.fresh (Nat.le_refl _), rfl, fun l hl => ?_⟩, ⟨⟨u, ?_⟩, ?_⟩, fun c hcm => ?_⟩
    · rw [has_inj I hl g1]; exact hx
    · have e1 : (((i + 1 : Nat) : Nat) : Int) = (i : Int) + 1 := by omega
      rw [e1]
      exact he'
    · exact S.at_keep (fun o q => (sb.2 _ fun z => hne z.symm).trans q) (D1.to _ _ t1)
    · rw [upd_ne (Nat.ne_of_lt (lt c hcm))]
      exact (hf c hcm).1
  done := by
    intro X hP hw hK hc i pins s σ H E I hf st hg
    subst hP hw hK
    obtain ⟨⟨old, q1⟩, q2⟩ := st
    obtain ⟨xs, g1, he⟩ := hg
    obtain ⟨P1, T1, D1⟩ := drawn I g1 fi q2
    have hh : X.A.in1.handled = none := I.ok.hd hc
    subst he
    refine wpAny_pyNext_enum_endD (D1.dr _ hh) q1 D1.here fun h' hk => ⟨rfl, ?_⟩
    refine I.turnedL (t' := s.toks) (ch := [e, it]) (fun c o hb q => ?_) hf
    have hb' : ¬ (c = e ∨ c = it) := fun z => hb (by simpa using z)
    exact hk c o (fun z => hb' (.inr z)) q
  self := fun A i s Q E st h => by
    obtain ⟨⟨old, q1⟩, _⟩ := st
    exact wpAny_pyIter_enum q1 h
theorem meets_enum1 {v : Value} {o : Obj} {G : Heap → Prop} (B : Begins v o G) :
    Meets (Builtin.«enumerate.__new__» ⟨[.type "enumerate", v], []⟩) (fun _ R s => G s.heap ∧
      R (.ok (.ret (.ref (s.heap.push o).objs.size))) { s with heap := (s.heap.push o).push { cls := .type "enumerate", data := .fields #[.none, .bool false, .ref s.heap.objs.size, rawInt 0, .none, .none] } }) :=
  .of_wp fun prog w A R s h => by
    obtain ⟨hp, g, d, tk, os⟩ := s
    obtain ⟨h1, h⟩ := h
    have hsub := sub_enumerate
    have q1 : ∀ {A' : Around} {E : Value → Shared → Prop} {Q : Value → Shared → Prop}, Q (.ref hp.objs.size) ⟨hp.push o, g, d, tk, os⟩ → wpAny (model prog w) A' (pyIter v) Q E ⟨hp, g, d, tk, os⟩ :=
      fun q => B.iter prog w _ _ ⟨hp, g, d, tk, os⟩ _ h1 q
    wp_walk using q1
    refine wpAny_stack_any fun st => wpAny_pure ?_
    split
    · rename_i c _ _ _ _ _
      cases (c == Value.type "enumerate") <;> (wp_walk using q1; exact ⟨_, rfl, h⟩)
    · wp_walk using q1
      exact ⟨_, rfl, h⟩
theorem call_enumS {prog : Program} {w : World} {A : Around} {E : Value → Shared → Prop} {s : Shared} {v : Value} {o : Obj} {G : Heap → Prop} {Q : Value → Shared → Prop} (B : Begins v o G) (h1 : G s.heap)
    (h : ∀ h', IsEnum h' (s.heap.objs.size + 1) s.heap.objs.size 0 .none → h'.get? s.heap.objs.size = some o → (∀ b o, s.heap.get? b = some o → h'.get? b = some o) → Q (.ref (s.heap.objs.size + 1)) { s with heap := h' }) :
    wpAny (model prog w) A (call (.type "enumerate") [v]) Q E s := by
  refine callType_new F.called_enumerate (by decide) (F.typeCall_enumerate_1 _) (F.newCall_enumerate_1 _) (fun obj => F.args_object_init_2 obj _) F.entry_enumerate_new (meets_enum1 B) ⟨h1, ?_⟩
  have hz : (s.heap.push o).objs.size = s.heap.objs.size + 1 := Heap.size_push ..
  show _ ∧ _
  rw [hz]
  generalize he : (s.heap.push o).push { cls := .type "enumerate", data := .fields #[.none, .bool false, .ref s.heap.objs.size, rawInt 0, .none, .none] } = h2
  have g1 : IsEnum h2 (s.heap.objs.size + 1) s.heap.objs.size 0 .none := by
    rw [← he, ← hz]
    exact Heap.get?_push_size _ rfl
  refine ⟨⟨_, g1, rfl⟩, h _ g1 ?_ fun b u x => ?_⟩
  · rw [← he]
    exact Heap.get?_push_of_some _ (Heap.get?_push_size _ B.free)
  · rw [← he]
    exact Heap.get?_push_of_some _ (Heap.get?_push_of_some _ x)
def enumR (K : PySem.W.Frag) (R : It → Hp → Prop) : List V → Hp → Prop := fun vs H1 => ∃ S xs, vs = [Src.v S] ∧ S.has K H1 xs ∧ R (ItE K S) H1
def iEnumS (K : PySem.W.Frag) (ta : TA) : TI := fun σ H R => ta σ H (enumR K R)
theorem pi_enumS {X : Cx} {e : Expr} {ta : TA} {p pos tpos : Pos} {elts : List Expr} {kk : Nat} (hg : Gl X "enumerate") (hm : X.mg "enumerate" = none) (ha : PA X [e] ta)
    (hs : starEach [e] X.env = [(false, eval e X.env)] := by rfl) : PI X (.Tuple elts kk tpos) (.Call (.Name "enumerate" p) [e] [] pos) (iEnumS X.K ta) := by
  refine ⟨fun pins s σ H R I h => ?_⟩
  refine Call_ (ld_blt I hg hm boot_enumerate (PyProof.Rows.callWith_type1 (thn (ha.run pos pins s σ H _ I h) fun us s1 ⟨vs, H1, I1, r1, q1⟩ => ?_) hs rfl))
  obtain ⟨S, xs, rfl, h1, q⟩ := q1
  obtain ⟨u1, rfl, r2⟩ := vals1 r1
  obtain ⟨o, G, B, b, t, f⟩ := src_begins I1 h1 r2
  refine call_enumS B b fun h' he e1 hk => wpAny_pyIter_enum he ?_
  have I2 : Inv X pins σ H1 { s1 with heap := h' } := I1.kept (t' := s1.toks) hk
  refine ⟨s1.heap.objs.size + 1, [s1.heap.objs.size + 1, s1.heap.objs.size], _, _, H1, rfl, I2, turn_enumS (Nat.succ_ne_self _) (f _ (Nat.le_add_right _ _)) (f _ (Nat.le_refl _)), ⟨⟨.none, he⟩, t _ _ e1⟩, fun c hcm => ?_, q⟩
  have hle : s1.heap.objs.size ≤ c := by
    rcases (by simpa using hcm : c = s1.heap.objs.size + 1 ∨ c = s1.heap.objs.size) with rfl | rfl
    · exact Nat.le_add_right _ _
    · exact Nat.le_refl _
  exact I1.fpOk hle (I1.hok.fresh hle)
theorem walk_enumS {K : PySem.W.Frag} {S : Src} {xs : List V} : L2.Walk (ItE K S) xs.length (fun H => S.has K H xs) (YPair (fun i => some (.int (i : Nat))) (fun i => xs[i]?)) := by
  refine ⟨fun i H hi q => ⟨xs, q, hi⟩, fun H q => ⟨xs, q, rfl⟩, fun i H v H' _ q y => ?_⟩
  obtain ⟨T, x, h1, h2, h3, h4⟩ := y
  exact ⟨T, .int (i : Nat), x, h1, h2, h3, rfl, h4 xs q⟩

/-! ### one of them alone -/
def srcR (K : PySem.W.Frag) (R : It → Hp → Prop) : VK := fun x H1 => (∃ a, x = .ref a ∧ (∃ xs, SqL K H1 a xs) ∧ R (Itl K a) H1) ∨ (∃ a, x = .ref a ∧ (∃ xs, SqT K H1 a xs) ∧ R (Itt K a) H1) ∨ ∃ z, x = .str z ∧ R (Its z) H1
def iSrc (K : PySem.W.Frag) (tl : TE) : TI := fun σ H R => tl σ H (srcR K R)
theorem pi_src {X : Cx} {tg l : Expr} {tl : TE} (hl : PE X l tl) : PI X tg l (iSrc X.K tl) := by
  refine ⟨fun pins s σ H R I h => ?_⟩
  refine thn (hl.run pins s σ H _ I h) fun v s1 ⟨x, H1, I1, r1, q1⟩ => ?_
  rcases q1 with ⟨a, rfl, ⟨xs, hq⟩, q⟩ | ⟨a, rfl, ⟨xs, hq⟩, q⟩ | ⟨z, rfl, q⟩
  · obtain ⟨its, rv, p, hz⟩ := I1.list hq
    cases (show v = Value.ref a from r1)
    refine wpAny_pyIter_list p.isList ?_
    exact pi_one (tk := s1.toks) I1 _ (turn_list a _) ⟨_, Heap.get?_push_size _ rfl, rfl, rfl⟩ q
  · obtain ⟨its, rv, p, hz⟩ := I1.tuple hq
    cases (show v = Value.ref a from r1)
    refine wpAny_pyIter_tuple (show s1.heap.IsTuple a its.toArray from p) ?_
    exact pi_one (tk := s1.toks) I1 _ (turn_tuple a _) ⟨_, Heap.get?_push_size _ rfl, rfl, rfl⟩ q
  · obtain ⟨t, rfl⟩ := r1
    cases ha : z.cps.all (· < 128)
    · refine wpAny_pyIter_wide ha ?_
      exact pi_one (tk := s1.toks) I1 _ (turn_str _ z t _ (.inr rfl)) ⟨_, Heap.get?_push_size _ rfl, rfl, rfl⟩ q
    · refine wpAny_pyIter_ascii ha ?_
      exact pi_one (tk := s1.toks) I1 _ (turn_str _ z t _ (.inl rfl)) ⟨_, Heap.get?_push_size _ rfl, rfl, rfl⟩ q
end Nt

namespace Nt
open PySem PySem.Spec PyProof.Rows L2
/-! ### worlds: M the addresses that may change, I what is kept of them -/
structure Wf (M : Addr → Prop) (I : Hp → Prop) : Prop where
  live : ∀ H, I H → ∀ p, M p → H p ≠ none
  stable : ∀ H H', I H → (∀ p, M p → H' p = H p) → I H'
def Ex (M : Addr → Prop) (H H' : Hp) : Prop := ∀ p o, ¬ M p → H p = some o → H' p = some o
theorem Ex.refl {M : Addr → Prop} (H : Hp) : Ex M H H := fun _ _ _ h => h
theorem Ex.trans {M : Addr → Prop} {H H1 H2 : Hp} (a : Ex M H H1) (b : Ex M H1 H2) : Ex M H H2 := fun p o n h => b p o n (a p o n h)
theorem Ex.of {M : Addr → Prop} {H H' : Hp} (a : L2.Same H H') : Ex M H H' := fun p o _ h => a p o h
theorem Wf.same {M : Addr → Prop} {I : Hp → Prop} (w : Wf M I) {H H' : Hp} (e : L2.Same H H') (h : I H) : I H' := by
  refine w.stable H H' h fun p hp => ?_
  cases q : H p with
  | none => exact absurd q (w.live H h p hp)
  | some o => exact e p o q
theorem same_upd {H : Hp} {p : Addr} {o : HO} (h : H p = none) : L2.Same H (upd H p o) := fun a u e => by
  rw [upd_ne (ne_of_none e h)]
  exact e
theorem Wf.fresh {M : Addr → Prop} {I : Hp → Prop} (w : Wf M I) {H : Hp} {p : Addr} (h : I H) (hp : H p = none) : ¬ M p := fun m => w.live H h p m hp
/-- nothing changes -/
def M0 : Addr → Prop := fun _ => False
def I0 : Hp → Prop := fun _ => True
theorem wf0 : Wf M0 I0 := ⟨fun _ _ _ h => h.elim, fun _ _ _ _ => trivial⟩
/-- one object more that may change: its content told -/
def Mq (M : Addr → Prop) (q : Addr) : Addr → Prop := fun p => M p ∨ p = q
def Iq (I : Hp → Prop) (q : Addr) (o : HO) : Hp → Prop := fun H => I H ∧ H q = some o
theorem Wf.add {M : Addr → Prop} {I : Hp → Prop} (w : Wf M I) (q : Addr) (o : HO) : Wf (Mq M q) (Iq I q o) where
  live := fun H h p hp => by
    rcases hp with hp | rfl
    · exact w.live H h.1 p hp
    · rw [h.2]; exact nofun
  stable := fun H H' h e => ⟨w.stable H H' h.1 fun p hp => e p (.inl hp), (e q (.inr rfl)).trans h.2⟩
/-- the object changes -/
theorem Wf.put {M : Addr → Prop} {I : Hp → Prop} (w : Wf M I) {q : Addr} {o o' : HO} {H : Hp} (hq : ¬ M q) (h : Iq I q o H) : Iq I q o' (upd H q o') ∧ Ex (Mq M q) H (upd H q o') := by
  refine ⟨⟨w.stable _ _ h.1 fun p hp => upd_ne fun e => hq (e ▸ hp), upd_same⟩, fun p u n e => ?_⟩
  rw [upd_ne fun z => n (.inr z)]
  exact e

/-! ### data -/
inductive D where
  | non
  | bl (b : Bool)
  | int (i : Int)
  | str (z : Str)
  | lst (l : List D)
  | tup (l : List D)
  | dct (l : List (Key × D))
  | oth (n : Nat)
mutual
inductive Rep (K : PySem.W.Frag) (M : Addr → Prop) (H : Hp) : V → D → Prop
  | non : Rep K M H .non .non
  | bl (b : Bool) : Rep K M H (.bl b) (.bl b)
  | int (i : Int) : Rep K M H (.int i) (.int i)
  | str (z : Str) : Rep K M H (.str z) (.str z)
  | lst {a : Addr} {xs : List V} {ds : List D} : H a = some (.lst xs) → ¬ M a → Reps K M H xs ds → Rep K M H (.ref a) (.lst ds)
  | tup {a : Addr} {xs : List V} {ds : List D} : H a = some (.tup xs) → ¬ M a → Reps K M H xs ds → Rep K M H (.ref a) (.tup ds)
  | dct {a : Addr} {kvs : List (Key × V)} {ds : List (Key × D)} : H a = some (.dK kvs) → ¬ M a → kvs.map (·.1) = ds.map (·.1) → Reps K M H (kvs.map (·.2)) (ds.map (·.2)) → Rep K M H (.ref a) (.dct ds)
  | oth {a : Addr} {φ : Heap → Prop} {n : Nat} : H a = some (.ext φ) → ¬ M a → Rep K M H (.ref a) (.oth n)
inductive Reps (K : PySem.W.Frag) (M : Addr → Prop) (H : Hp) : List V → List D → Prop
  | nil : Reps K M H [] []
  | cons {v : V} {vs : List V} {d : D} {ds : List D} : Rep K M H v d → Reps K M H vs ds → Reps K M H (v :: vs) (d :: ds)
end
section
variable {K : PySem.W.Frag} {M M' : Addr → Prop} {H H' : Hp}
theorem sq_l {a : Addr} {xs : List V} (e : Ex M H H') (hm : ¬ M a) (h : SqL K H a xs) : SqL K H' a xs := by
  rcases h with (h | ⟨o, h⟩) | h
  · exact .inl (.inl (e _ _ hm h))
  · exact .inl (.inr ⟨o, e _ _ hm h⟩)
  · exact .inr h
theorem sq_t {a : Addr} {xs : List V} (e : Ex M H H') (hm : ¬ M a) (h : SqT K H a xs) : SqT K H' a xs := by
  rcases h with (h | ⟨o, h⟩) | h
  · exact .inl (.inl (e _ _ hm h))
  · exact .inl (.inr ⟨o, e _ _ hm h⟩)
  · exact .inr h
mutual
theorem Rep.ex (e : Ex M H H') : ∀ {v : V} {d : D}, Rep K M H v d → Rep K M H' v d
  | _, _, .non => .non
  | _, _, .bl b => .bl b
  | _, _, .int i => .int i
  | _, _, .str z => .str z
  | _, _, .lst h n r => .lst (e _ _ n h) n (Reps.ex e r)
  | _, _, .tup h n r => .tup (e _ _ n h) n (Reps.ex e r)
  | _, _, .dct h n k r => .dct (e _ _ n h) n k (Reps.ex e r)
  | _, _, .oth h n => .oth (e _ _ n h) n
theorem Reps.ex (e : Ex M H H') : ∀ {v : List V} {d : List D}, Reps K M H v d → Reps K M H' v d
  | _, _, .nil => .nil
  | _, _, .cons h r => .cons (Rep.ex e h) (Reps.ex e r)
end
theorem Rep.same (e : L2.Same H H') {v : V} {d : D} (h : Rep K M H v d) : Rep K M H' v d := h.ex (.of e)
theorem Reps.same (e : L2.Same H H') {v : List V} {d : List D} (h : Reps K M H v d) : Reps K M H' v d := h.ex (.of e)
mutual
theorem Rep.le (hm : ∀ p, M p → M' p) : ∀ {v : V} {d : D}, Rep K M' H v d → Rep K M H v d
  | _, _, .non => .non
  | _, _, .bl b => .bl b
  | _, _, .int i => .int i
  | _, _, .str z => .str z
  | _, _, .lst h n r => .lst h (fun m => n (hm _ m)) (Reps.le hm r)
  | _, _, .tup h n r => .tup h (fun m => n (hm _ m)) (Reps.le hm r)
  | _, _, .dct h n k r => .dct h (fun m => n (hm _ m)) k (Reps.le hm r)
  | _, _, .oth h n => .oth h fun m => n (hm _ m)
theorem Reps.le (hm : ∀ p, M p → M' p) : ∀ {v : List V} {d : List D}, Reps K M' H v d → Reps K M H v d
  | _, _, .nil => .nil
  | _, _, .cons h r => .cons (Rep.le hm h) (Reps.le hm r)
end
mutual
/-- the addresses of data lie in H: one that H has not may be let change -/
theorem Rep.off {q : Addr} (hq : H q = none) : ∀ {v : V} {d : D}, Rep K M H v d → Rep K (Mq M q) H v d
  | _, _, .non => .non
  | _, _, .bl b => .bl b
  | _, _, .int i => .int i
  | _, _, .str z => .str z
  | _, _, .lst h n r => .lst h (fun m => m.elim n fun e => by rw [e, hq] at h; cases h) (Reps.off hq r)
  | _, _, .tup h n r => .tup h (fun m => m.elim n fun e => by rw [e, hq] at h; cases h) (Reps.off hq r)
  | _, _, .dct h n k r => .dct h (fun m => m.elim n fun e => by rw [e, hq] at h; cases h) k (Reps.off hq r)
  | _, _, .oth h n => .oth h fun m => m.elim n fun e => by rw [e, hq] at h; cases h
theorem Reps.off {q : Addr} (hq : H q = none) : ∀ {v : List V} {d : List D}, Reps K M H v d → Reps K (Mq M q) H v d
  | _, _, .nil => .nil
  | _, _, .cons h r => .cons (Rep.off hq h) (Reps.off hq r)
end
/-- what may change no longer does -/
theorem Rep.on {q : Addr} : ∀ {v : V} {d : D}, Rep K (Mq M q) H v d → Rep K M H v d := fun {v d} h => h.le fun p m => .inl m
end
end Nt

namespace Nt
open PySem PySem.Spec PyProof.Rows L2
/-! ### signs by their numbers -/
def T (l : List Nat) : Str := ⟨l.toArray⟩
theorem T_cps (l : List Nat) : (T l).cps.toList = l := rfl
theorem T_len (l : List Nat) : (T l).length = l.length := by simp [T, Str.length]
theorem T_app (l m : List Nat) : (T l) ++ (T m) = T (l ++ m) := by
  show (⟨(T l).cps ++ (T m).cps⟩ : Str) = _
  simp [T]
theorem T_inj {l m : List Nat} (h : T l = T m) : l = m := by
  have := congrArg (fun z : Str => z.cps.toList) h
  simpa [T] using this
theorem T_one (c : Nat) : (⟨#[c]⟩ : Str) = T [c] := rfl
theorem signs_T (l : List Nat) : signs (T l) = l.map fun c => .str (T [c]) := by simp [signs, T]
/-! ### universal operators: what is done shows by the values -/
def rAddU (K : PySem.W.Frag) : R2 := fun x y H Q =>
  rI0 (fun i j => .int (i + j)) x y H Q ∨ (∃ i j, x = .str i ∧ y = .str j ∧ i.length + j.length ≤ sizeLine ∧ Q (.str (i ++ j)) H) ∨ rCat x y H Q ∨ rCatA K x y H Q
theorem op_addU {X : Cx} : OpR X (binaryOp .Add) (rAddU X.K) := op_add.or (op_add_str.or (op_cat.or op_catA))
def rRepS : R2 := fun x y H Q => ∃ z k, x = .str z ∧ y = .int k ∧ 0 ≤ k ∧ k ≤ 100000 ∧ z.length ≤ 100 ∧ Q (.str (T (List.replicate k.toNat z.cps.toList).flatten)) H
theorem rep_cps (z : Str) (n : Nat) : (⟨(List.replicate n z.cps).foldl (· ++ ·) #[]⟩ : Str) = T (List.replicate n z.cps.toList).flatten := by
  have h : ∀ (m : Nat) (a : Array Nat), ((List.replicate m z.cps).foldl (· ++ ·) a).toList = a.toList ++ (List.replicate m z.cps.toList).flatten := by
    intro m
    induction m with
    | zero => intro a; simp
    | succ m ih => intro a; simp [List.replicate_succ, ih]
  have e := h n #[]
  simp only [List.nil_append] at e
  unfold T
  congr 1
  exact Array.toList_inj.mp (by simpa using e)
theorem op_repS {X : Cx} : OpR X (binaryOp .Mult) rRepS := by
  intro pins s σ H x y v u Q I rx ry h
  obtain ⟨z, k, rfl, rfl, h0, h1, h2, q⟩ := h
  obtain ⟨t, rfl⟩ := rx
  obtain ⟨t2, rfl⟩ := ry
  have e := rep_cps z k.toNat
  have hz : z.length * k.toNat ≤ 100 * 100000 := Nat.mul_le_mul h2 (by omega)
  have el : z.length = z.cps.size := rfl
  have hs : sizeLine = 16777216 := sizeLine_eq
  have hz2 : k.toNat * z.cps.size ≤ 10000000 := by rw [Nat.mul_comm]; exact hz
  refine PySem.P.mul_str (by
      have a1 : ¬ k < -(2 ^ 63 : Int) := by omega
      have a2 : ¬ k ≥ 2 ^ 63 := by omega
      rw [decide_eq_false a1, decide_eq_false a2]; rfl) (fun a _ hh => ?_) (fun _ _ => ?_) ?_
  · have : (2 ^ 63 - 1 : Int) / k ≥ 1000 := by
      apply Int.le_ediv_of_mul_le (by omega)
      omega
    omega
  · show Builtin.Str.tooLong (z.length * k.toNat) = false
    unfold Builtin.Str.tooLong
    first
      | (simp only [decide_eq_false_iff_not]; omega)
      | (rw [decide_eq_false]; omega)
      | (simp; omega)
  · by_cases c1 : k < 1
    · rw [if_pos c1]
      have k0 : k.toNat = 0 := by omega
      rw [k0] at q
      exact ⟨by decide, ⟨.str _, H, I.tok _, ⟨_, rfl⟩, q⟩⟩
    · rw [if_neg c1]
      by_cases c2 : (k == 1 || z.length == 0) = true
      · rw [if_pos c2]
        have ez : T (List.replicate k.toNat z.cps.toList).flatten = z := by
          rcases Bool.or_eq_true_iff.mp c2 with c | c
          · have : k = 1 := by simpa using c
            subst this
            simp [T]
          · have c' : z.cps.size = 0 := by simpa [el] using c
            have : z.cps = #[] := Array.size_eq_zero_iff.mp c'
            obtain ⟨cp⟩ := z
            simp only at this
            subst this
            simp [T]
        rw [ez] at q
        exact ⟨.str _, H, I, ⟨_, rfl⟩, q⟩
      · rw [if_neg c2]
        rw [← e] at q
        refine ⟨?_, ⟨.str _, H, I.tok _, ⟨_, rfl⟩, q⟩⟩
        rw [e]
        first
          | (simp [T, Str.length] at *; omega)
          | (show (T _).length ≤ _; rw [T_len]; simp; omega)
end Nt

namespace Nt
open PySem PySem.Spec PyProof.Rows L2
/-! ### lists, place by place -/
inductive A2 {α β : Type} (P : α → β → Prop) : List α → List β → Prop
  | nil : A2 P [] []
  | cons {a b as bs} : P a b → A2 P as bs → A2 P (a :: as) (b :: bs)
theorem A2.append {α β : Type} {P : α → β → Prop} : ∀ {as cs : List α} {bs ds : List β}, A2 P as bs → A2 P cs ds → A2 P (as ++ cs) (bs ++ ds)
  | _, _, _, _, .nil, h => h
  | _, _, _, _, .cons x y, h => .cons x (y.append h)
theorem A2.length {α β : Type} {P : α → β → Prop} : ∀ {as : List α} {bs : List β}, A2 P as bs → bs.length = as.length
  | _, _, .nil => rfl
  | _, _, .cons _ y => congrArg (· + 1) y.length
theorem A2.eq {α β : Type} {f : α → β} : ∀ {as : List α} {bs : List β}, A2 (fun a b => b = f a) as bs → bs = as.map f
  | _, _, .nil => rfl
  | _, _, .cons x y => by rw [x, y.eq]; rfl
theorem A2.imp {α β : Type} {P Q : α → β → Prop} (h : ∀ a b, P a b → Q a b) : ∀ {as : List α} {bs : List β}, A2 P as bs → A2 Q as bs
  | _, _, .nil => .nil
  | _, _, .cons x y => .cons (h _ _ x) (y.imp h)
theorem A2.map {α β : Type} {f : α → β} : ∀ as : List α, A2 (fun a b => b = f a) as (as.map f)
  | [] => .nil
  | _ :: as => .cons rfl (A2.map as)
/-- the second parts are of a form -/
theorem A2.ex {α β γ : Type} {P : α → β → Prop} {Q : α → γ → Prop} {g : γ → β} (h : ∀ a b, P a b → ∃ c, b = g c ∧ Q a c) : ∀ {as : List α} {bs : List β}, A2 P as bs → ∃ cs, bs = cs.map g ∧ A2 Q as cs
  | _, _, .nil => ⟨[], rfl, .nil⟩
  | _, _, .cons x y => by
    obtain ⟨c, e, q⟩ := h _ _ x
    obtain ⟨cs, e2, q2⟩ := y.ex h
    exact ⟨c :: cs, by rw [e, e2]; rfl, .cons q q2⟩
theorem A2.all {α β : Type} {P : α → β → Prop} {Q : β → Prop} (h : ∀ a b, P a b → Q b) : ∀ {as : List α} {bs : List β}, A2 P as bs → ∀ b ∈ bs, Q b
  | _, _, .nil, _, hb => by cases hb
  | _, _, .cons x y, b, hb => by
    rcases List.mem_cons.mp hb with rfl | hb
    · exact h _ _ x
    · exact y.all h b hb
section
variable {K : PySem.W.Frag} {M : Addr → Prop} {H : Hp}
theorem Reps.append : ∀ {xs ys : List V} {ds es : List D}, Reps K M H xs ds → Reps K M H ys es → Reps K M H (xs ++ ys) (ds ++ es)
  | _, _, _, _, .nil, h => h
  | _, _, _, _, .cons x y, h => .cons x (y.append h)
theorem Reps.length : ∀ {xs : List V} {ds : List D}, Reps K M H xs ds → xs.length = ds.length
  | _, _, .nil => rfl
  | _, _, .cons _ y => congrArg (· + 1) y.length
theorem Reps.get : ∀ {xs : List V} {ds : List D} {k : Nat} {d : D}, Reps K M H xs ds → ds[k]? = some d → ∃ x, xs[k]? = some x ∧ Rep K M H x d
  | _, _, 0, _, .cons x _, h => ⟨_, rfl, by cases h; exact x⟩
  | _, _, k + 1, _, .cons _ y, h => y.get (k := k) h
theorem Reps.take : ∀ {xs : List V} {ds : List D} (k : Nat), Reps K M H xs ds → Reps K M H (xs.take k) (ds.take k)
  | _, _, 0, _ => by simp; exact .nil
  | _, _, k + 1, .nil => .nil
  | _, _, k + 1, .cons x y => .cons x (y.take k)
theorem Reps.drop : ∀ {xs : List V} {ds : List D} (k : Nat), Reps K M H xs ds → Reps K M H (xs.drop k) (ds.drop k)
  | _, _, 0, h => h
  | _, _, k + 1, .nil => .nil
  | _, _, k + 1, .cons x y => y.drop k
theorem Reps.reverse : ∀ {xs : List V} {ds : List D}, Reps K M H xs ds → Reps K M H xs.reverse ds.reverse
  | _, _, .nil => .nil
  | _, _, .cons x y => by simp only [List.reverse_cons]; exact y.reverse.append (.cons x .nil)
/-- scalars stand for themselves -/
theorem Reps.scal {α : Type} {f : α → V} {g : α → D} (hfg : ∀ a, Rep K M H (f a) (g a)) : ∀ l : List α, Reps K M H (l.map f) (l.map g)
  | [] => .nil
  | a :: l => .cons (hfg a) (Reps.scal hfg l)
theorem Reps.scal_inv {α : Type} {f : α → V} {g : α → D} (hfg : ∀ a v, Rep K M H v (g a) → v = f a) : ∀ {l : List α} {xs : List V}, Reps K M H xs (l.map g) → xs = l.map f
  | [], _, .nil => rfl
  | a :: l, _, .cons x y => by rw [hfg a _ x, Reps.scal_inv hfg y]; rfl
theorem rep_int {v : V} {i : Int} (h : Rep K M H v (.int i)) : v = .int i := by cases h; rfl
theorem rep_str {v : V} {i : Str} (h : Rep K M H v (.str i)) : v = .str i := by cases h; rfl
theorem rep_bl {v : V} {i : Bool} (h : Rep K M H v (.bl i)) : v = .bl i := by cases h; rfl
theorem rep_non {v : V} (h : Rep K M H v .non) : v = .non := by cases h; rfl
end
/-! ### what may be walked -/
def D.elems : D → Option (List D)
  | .lst l => some l
  | .tup l => some l
  | .str z => some (z.cps.toList.map fun c => .str (T [c]))
  | _ => none
theorem src_of {K : PySem.W.Frag} {M : Addr → Prop} {H : Hp} {v : V} {d : D} {ds : List D} (h : Rep K M H v d) (e : d.elems = some ds) :
    ∃ S xs, v = Src.v S ∧ Reps K M H xs ds ∧ ∀ H', Ex M H H' → S.has K H' xs := by
  cases h with
  | lst h n r => cases e; exact ⟨.lst _, _, rfl, r, fun H' x => SqL.of (x _ _ n h)⟩
  | tup h n r => cases e; exact ⟨.tup _, _, rfl, r, fun H' x => SqT.of (x _ _ n h)⟩
  | str z =>
    cases e
    refine ⟨.txt z, signs z, rfl, ?_, fun _ _ => rfl⟩
    unfold signs
    exact Reps.scal (fun c => .str (T [c])) _
  | _ => cases e
/-! ### comprehensions -/
def Bd (g : TG) (Y : Hp → V → Hp → Prop) (σ σ2 : L2.St) : Prop := ∀ H x H' (Qc : L2.St → Hp → Prop), Y H x H' → (∀ H2, L2.Same H H2 → Qc σ2 H2) → g x σ H' Qc
theorem bd_name {i : Nat} {σ : L2.St} {v : V} {Y : Hp → V → Hp → Prop} (hY : ∀ H x H', Y H x H' → H' = H ∧ x = v) : Bd (gName i) Y σ (σ.set i (some v)) := fun H x H' Qc y q => by
  obtain ⟨rfl, rfl⟩ := hY _ _ _ y
  exact q _ (L2.Same.refl _)
theorem bd_pair {K : PySem.W.Frag} {i j : Nat} {σ : L2.St} {v w : V} {Y : Hp → V → Hp → Prop} (hY : ∀ H x H', Y H x H' → ∃ p, x = .ref p ∧ H p = none ∧ H' = upd H p (.tup [v, w])) :
    Bd (gTup K 2 (gCons (gName i) (gCons (gName j) gNil))) Y σ ((σ.set i (some v)).set j (some w)) := fun H x H' Qc y q => by
  obtain ⟨p, rfl, hp, rfl⟩ := hY _ _ _ y
  exact ⟨p, [v, w], rfl, SqT.of upd_same, rfl, v, [w], rfl, w, [], rfl, rfl, q _ (same_upd hp)⟩
section
variable {K : PySem.W.Frag} {M : Addr → Prop} {I : Hp → Prop} {J : It} {G : Hp → Prop} {Y : Nat → Hp → V → Hp → Prop} {α : Type} {as : List α} {g : TG} {tt : TT} {te : TE} {vs : List Nat} {σ : L2.St} {H1 : Hp}
theorem iq_of {q : Addr} {o : HO} {H : Hp} (h : Iq I q o H) : I H := h.1
theorem take_snoc {k : Nat} {a : α} (h : as[k]? = some a) : as.take (k + 1) = as.take k ++ [a] := by
  have hk := (List.getElem?_eq_some_iff.mp h)
  obtain ⟨hk, e⟩ := hk
  rw [List.take_succ_eq_append_getElem hk, e]
theorem lc_any {Q : VK} (w : L2.Walk J as.length G Y) (hw : Wf M I) (hI : I H1) (p : α → Bool) (P : α → D → Prop) (asg : Nat → α → L2.St) (hG : ∀ H', Ex M H1 H' → G H') (hlen : as.length ≤ sizeLine)
    (hb : ∀ k a, as[k]? = some a → Bd g (Y k) (wipe σ vs) (asg k a)) (hwp : ∀ k a, wipe (asg k a) vs = wipe σ vs)
    (ht : ∀ L acc k a H, H1 L = none → ¬ M L → as[k]? = some a → Wf (Mq M L) (Iq I L (.lst acc)) → Iq I L (.lst acc) H → Ex (Mq M L) H1 H →
      ∀ Qt : Bool → Hp → Prop, (∀ H3, Iq I L (.lst acc) H3 → Ex (Mq M L) H H3 → Qt (p a) H3) → tt (asg k a) H Qt)
    (he : ∀ L acc k a H, H1 L = none → ¬ M L → as[k]? = some a → p a = true → Wf (Mq M L) (Iq I L (.lst acc)) → Iq I L (.lst acc) H → Ex (Mq M L) H1 H →
      ∀ Qe : VK, (∀ y d H4, P a d → Rep K (Mq M L) H4 y d → Iq I L (.lst acc) H4 → Ex (Mq M L) H H4 → Qe y H4) → te (asg k a) H Qe)
    (hd : ∀ L ds H', H1 L = none → A2 P (as.filter p) ds → Rep K M H' (.ref L) (.lst ds) → Ex M H1 H' → I H' → Q (.ref L) H') :
    ∀ L, H1 L = none → ∃ W : Nat → Nat → Hp → Prop, (∃ m, W 0 m (upd H1 L (.lst []))) ∧ ∀ i m H, W i m H →
      (J.stop i H ∧ Q (.ref L) H) ∨ (J.go i H ∧ ∃ Nx : Hp → Prop, (∀ H', Nx H' → ∃ m', m' < m ∧ W (i + 1) m' H') ∧ ∀ x H', J.yld i H x H' → g x (wipe σ vs) H' fun σ2 H2 => wipe σ2 vs = wipe σ vs ∧ tt σ2 H2 fun b H3 =>
        if b = true then te σ2 H3 fun y H4 => ∃ acc, H4 L = some (.lst acc) ∧ acc.length < sizeLine ∧ Nx (upd H4 L (.lst (acc ++ [y]))) else Nx H3) := by
  intro L hL
  have nM : ¬ M L := hw.fresh hI hL
  have exL : ∀ {H' : Hp}, Ex (Mq M L) H1 H' → Ex M H1 H' := fun e p o n h => e p o (fun m => m.elim n fun z => by rw [z, hL] at h; cases h) h
  refine lc_it w (fun k H => ∃ acc ds, Iq I L (.lst acc) H ∧ A2 P ((as.take k).filter p) ds ∧ Reps K (Mq M L) H acc ds ∧ Ex (Mq M L) H1 H) ?_ (fun k H _ h => ?_) ?_ ?_
  · refine ⟨[], [], ⟨hw.same (same_upd hL) hI, upd_same⟩, .nil, .nil, Ex.of (same_upd hL)⟩
  · obtain ⟨acc, ds, _, _, _, e⟩ := h
    exact hG H (exL e)
  · rintro k x H H' hk ⟨acc, ds, i1, a2, rs, e⟩ y
    have ha : as[k]? = some as[k] := by simp [hk]
    have wf' := hw.add L (.lst acc)
    have hlen2 : acc.length < sizeLine := by
      have l1 := rs.length
      have l2 := a2.length
      have l3 : ((as.take k).filter p).length ≤ (as.take k).length := List.length_filter_le _ _
      have l4 : (as.take k).length ≤ k := by simp; omega
      omega
    refine hb k _ ha H x H' _ y fun H2 sm => ⟨hwp k _, ?_⟩
    have i2 := wf'.same sm i1
    have e2 : Ex (Mq M L) H1 H2 := e.trans (Ex.of sm)
    have rs2 := rs.same sm
    refine ht L acc k _ H2 hL nM ha wf' i2 e2 _ fun H3 i3 e3 => ?_
    cases hp : p as[k] with
    | false =>
      simp only [Bool.false_eq_true, if_false]
      refine ⟨acc, ds, i3, ?_, rs2.ex e3, e2.trans e3⟩
      rw [take_snoc ha, List.filter_append]
      simpa [hp] using a2
    | true =>
      simp only [if_true]
      refine he L acc k _ H3 hL nM ha hp wf' i3 (e2.trans e3) _ fun y d H4 py ry i4 e4 => ⟨acc, i4.2, hlen2, ?_⟩
      obtain ⟨i5, e5⟩ := hw.put (o' := .lst (acc ++ [y])) nM i4
      refine ⟨acc ++ [y], ds ++ [d], i5, ?_, ?_, ((e2.trans e3).trans e4).trans e5⟩
      · rw [take_snoc ha, List.filter_append]
        refine a2.append ?_
        simp [hp]
        exact .cons py .nil
      · exact (((rs2.ex e3).ex e4).append (.cons ry .nil)).ex e5
  · rintro H ⟨acc, ds, i1, a2, rs, e⟩
    refine hd L ds H hL ?_ (.lst i1.2 nM (rs.le fun p m => .inl m)) (exL e) i1.1
    simpa using a2
end
end Nt

namespace Nt
open PySem PySem.Spec PyProof.Rows L2
/-! ### comprehensions and loops by what is walked -/
def LcR (g : TG) (tt : TT) (te : TE) (vs : List Nat) (σ : L2.St) (Q : VK) : It → Hp → Prop := fun J H1 => ∀ L, H1 L = none → ∃ W : Nat → Nat → Hp → Prop, (∃ m, W 0 m (upd H1 L (.lst []))) ∧ ∀ i m H, W i m H →
  (J.stop i H ∧ Q (.ref L) H) ∨ (J.go i H ∧ ∃ Nx : Hp → Prop, (∀ H', Nx H' → ∃ m', m' < m ∧ W (i + 1) m' H') ∧ ∀ x H', J.yld i H x H' → g x (wipe σ vs) H' fun σ2 H2 => wipe σ2 vs = wipe σ vs ∧ tt σ2 H2 fun b H3 =>
    if b = true then te σ2 H3 fun y H4 => ∃ acc, H4 L = some (.lst acc) ∧ acc.length < sizeLine ∧ Nx (upd H4 L (.lst (acc ++ [y]))) else Nx H3)
theorem sx_lc {wi : TI} {g : TG} {tt : TT} {te : TE} {vs : List Nat} {σ : L2.St} {H : Hp} {Q : VK} (h : wi σ H (LcR g tt te vs σ Q)) : tLc wi g tt te vs σ H Q := h
def ForR (g : TG) (tb : TS) (D : Ends) (σ : L2.St) : It → Hp → Prop := fun J H1 => ∃ W : Nat → Nat → L2.St → Hp → Prop, (∃ m, W 0 m σ H1) ∧ ∀ i m σ H, W i m σ H →
  (J.stop i H ∧ D.nx σ H) ∨ (J.go i H ∧ ∃ N : L2.St → Hp → Prop, (∀ σ' H', N σ' H' → ∃ m', m' < m ∧ W (i + 1) m' σ' H') ∧ ∀ x H', J.yld i H x H' → g x σ H' fun σ2 H2 => tb { D with nx := N, ct := N, bk := D.nx } σ2 H2)
theorem sx_for {wi : TI} {g : TG} {tb : TS} {D : Ends} {σ : L2.St} {H : Hp} (h : wi σ H (ForR g tb D σ)) : tFor wi g tb D σ H := h
theorem sx_isrc {K : PySem.W.Frag} {tl : TE} {σ : L2.St} {H : Hp} {R : It → Hp → Prop} (h : tl σ H (srcR K R)) : iSrc K tl σ H R := h
theorem sx_izip {K : PySem.W.Frag} {ta : TA} {σ : L2.St} {H : Hp} {R : It → Hp → Prop} (h : ta σ H (zipR K R)) : iZipS K ta σ H R := h
theorem sx_ienum {K : PySem.W.Frag} {ta : TA} {σ : L2.St} {H : Hp} {R : It → Hp → Prop} (h : ta σ H (enumR K R)) : iEnumS K ta σ H R := h
section
variable {K : PySem.W.Frag} {M : Addr → Prop} {I : Hp → Prop} {α β : Type} {as : List α} {bs : List β} {tt : TT} {te : TE} {vs : List Nat} {σ : L2.St} {H1 : Hp} {Q : VK} {enc : α → D} {enc2 : β → D}
theorem reps_at {H : Hp} {xs : List V} {k : Nat} {a : α} (r : Reps K M H xs (as.map enc)) (h : as[k]? = some a) : ∃ x, xs[k]? = some x ∧ Rep K M H x (enc a) := r.get (by simp [h])
theorem reps_len {H : Hp} {xs : List V} (r : Reps K M H xs (as.map enc)) : xs.length = as.length := by simpa using r.length
/-- [e for x in s if t] -/
theorem lc_src {i : Nat} {x : V} {d : D} (hw : Wf M I) (hI : I H1) (hx : Rep K M H1 x d) (hd : d.elems = some (as.map enc)) (hlen : as.length ≤ sizeLine) (hwp : ∀ v, wipe ((wipe σ vs).set i (some v)) vs = wipe σ vs) (p : α → Bool) (P : α → D → Prop)
    (ht : ∀ (L : Addr) (acc : List V) (k : Nat) (a : α) (v : V) (H : Hp), H1 L = none → ¬ M L → as[k]? = some a → Rep K (Mq M L) H v (enc a) → Wf (Mq M L) (Iq I L (.lst acc)) → Iq I L (.lst acc) H → Ex (Mq M L) H1 H →
      ∀ Qt : Bool → Hp → Prop, (∀ H3, Iq I L (.lst acc) H3 → Ex (Mq M L) H H3 → Qt (p a) H3) → tt ((wipe σ vs).set i (some v)) H Qt)
    (he : ∀ (L : Addr) (acc : List V) (k : Nat) (a : α) (v : V) (H : Hp), H1 L = none → ¬ M L → as[k]? = some a → p a = true → Rep K (Mq M L) H v (enc a) → Wf (Mq M L) (Iq I L (.lst acc)) → Iq I L (.lst acc) H → Ex (Mq M L) H1 H →
      ∀ Qe : VK, (∀ y d H4, P a d → Rep K (Mq M L) H4 y d → Iq I L (.lst acc) H4 → Ex (Mq M L) H H4 → Qe y H4) → te ((wipe σ vs).set i (some v)) H Qe)
    (hq : ∀ y ds H', A2 P (as.filter p) ds → Rep K M H' y (.lst ds) → Ex M H1 H' → I H' → Q y H') : srcR K (LcR (gName i) tt te vs σ Q) x H1 := by
  obtain ⟨S, xs, rfl, r, hS⟩ := src_of hx hd
  have hl := reps_len r
  have key : ∀ {J : It} {G : Hp → Prop} {Y : Nat → Hp → V → Hp → Prop}, L2.Walk J as.length G Y → (∀ H', Ex M H1 H' → G H') → (∀ k H x H', Y k H x H' → H' = H ∧ xs[k]? = some x) → LcR (gName i) tt te vs σ Q J H1 := fun {J G Y} w hG hY => by
    refine lc_any (K := K) w hw hI p P (fun k _ => (wipe σ vs).set i (some (xs.getD k .non))) hG hlen (fun k a ha => ?_) (fun k a => hwp _) ?_ ?_ ?_
    · exact bd_name fun H x H' y => by
        obtain ⟨e1, e2⟩ := hY k H x H' y
        exact ⟨e1, by simp [List.getD, e2]⟩
    · intro L acc k a H hL nL ha wf hi ex Qt q
      obtain ⟨v, hv, rv⟩ := reps_at r ha
      have e : xs.getD k .non = v := by simp [List.getD, hv]
      rw [e]
      exact ht L acc k a v H hL nL ha ((rv.off hL).ex ex) wf hi ex Qt q
    · intro L acc k a H hL nL ha hp wf hi ex Qt q
      obtain ⟨v, hv, rv⟩ := reps_at r ha
      have e : xs.getD k .non = v := by simp [List.getD, hv]
      rw [e]
      exact he L acc k a v H hL nL ha hp ((rv.off hL).ex ex) wf hi ex Qt q
    · exact fun L ds H' hL a2 rp ex hi => hq _ ds H' a2 rp ex hi
  cases S with
  | lst a =>
    refine .inl ⟨a, rfl, ⟨xs, hS H1 (Ex.refl _)⟩, ?_⟩
    have w := walk_list (K := K) (a := a) (xs := xs)
    rw [hl] at w
    exact key w hS fun k H x H' y => y
  | tup a =>
    refine .inr (.inl ⟨a, rfl, ⟨xs, hS H1 (Ex.refl _)⟩, ?_⟩)
    have w := walk_tup (K := K) (a := a) (xs := xs)
    rw [hl] at w
    exact key w hS fun k H x H' y => y
  | txt z =>
    refine .inr (.inr ⟨z, rfl, ?_⟩)
    have hxs : xs = signs z := hS H1 (Ex.refl _)
    have w := walk_str (z := z)
    have hz : z.cps.size = as.length := by rw [← hl, hxs]; simp [signs]
    rw [hz] at w
    refine key w (fun _ _ => trivial) fun k H x H' y => ⟨y.1, ?_⟩
    obtain ⟨_, c, e1, e2⟩ := y
    rw [hxs, e2]
    simp [signs, e1]
/-- [e for x, y in zip(s, t) if ..] -/
theorem lc_zip {i j : Nat} {x1 x2 : V} {d1 d2 : D} (hw : Wf M I) (hI : I H1) (hx : Rep K M H1 x1 d1) (hd : d1.elems = some (as.map enc)) (hx2 : Rep K M H1 x2 d2) (hd2 : d2.elems = some (bs.map enc2)) (hlen : as.length ≤ sizeLine)
    (hwp : ∀ v w, wipe (((wipe σ vs).set i (some v)).set j (some w)) vs = wipe σ vs) (p : α × β → Bool) (P : α × β → D → Prop)
    (ht : ∀ (L : Addr) (acc : List V) (k : Nat) (a : α) (b : β) (v w : V) (H : Hp), H1 L = none → ¬ M L → as[k]? = some a → bs[k]? = some b → Rep K (Mq M L) H v (enc a) → Rep K (Mq M L) H w (enc2 b) → Wf (Mq M L) (Iq I L (.lst acc)) → Iq I L (.lst acc) H → Ex (Mq M L) H1 H →
      ∀ Qt : Bool → Hp → Prop, (∀ H3, Iq I L (.lst acc) H3 → Ex (Mq M L) H H3 → Qt (p (a, b)) H3) → tt (((wipe σ vs).set i (some v)).set j (some w)) H Qt)
    (he : ∀ (L : Addr) (acc : List V) (k : Nat) (a : α) (b : β) (v w : V) (H : Hp), H1 L = none → ¬ M L → as[k]? = some a → bs[k]? = some b → p (a, b) = true → Rep K (Mq M L) H v (enc a) → Rep K (Mq M L) H w (enc2 b) → Wf (Mq M L) (Iq I L (.lst acc)) → Iq I L (.lst acc) H → Ex (Mq M L) H1 H →
      ∀ Qe : VK, (∀ y d H4, P (a, b) d → Rep K (Mq M L) H4 y d → Iq I L (.lst acc) H4 → Ex (Mq M L) H H4 → Qe y H4) → te (((wipe σ vs).set i (some v)).set j (some w)) H Qe)
    (hq : ∀ y ds H', A2 P ((as.zip bs).filter p) ds → Rep K M H' y (.lst ds) → Ex M H1 H' → I H' → Q y H') : zipR K (LcR (gTup K 2 (gCons (gName i) (gCons (gName j) gNil))) tt te vs σ Q) [x1, x2] H1 := by
  obtain ⟨S1, xs, rfl, r, hS⟩ := src_of hx hd
  obtain ⟨S2, ys, rfl, r2, hS2⟩ := src_of hx2 hd2
  have hl := reps_len r
  have hl2 := reps_len r2
  refine ⟨S1, S2, xs, ys, rfl, hS _ (Ex.refl _), hS2 _ (Ex.refl _), ?_⟩
  have hz : (as.zip bs).length = min xs.length ys.length := by rw [List.length_zip, hl, hl2]
  have at_ : ∀ {k : Nat} {ab : α × β}, (as.zip bs)[k]? = some ab → as[k]? = some ab.1 ∧ bs[k]? = some ab.2 := fun {k ab} h => by
    obtain ⟨a, b⟩ := ab
    exact List.getElem?_zip_eq_some.mp h
  refine lc_any (K := K) (walk_zipS hz) hw hI p P (fun k _ => ((wipe σ vs).set i (some (xs.getD k .non))).set j (some (ys.getD k .non))) (fun H' e => ⟨hS H' e, hS2 H' e⟩) (by rw [List.length_zip]; omega) (fun k a ha => ?_) (fun k a => hwp _ _) ?_ ?_ ?_
  · exact bd_pair fun H x H' y => by
      obtain ⟨T, u, v, e1, e2, e3, e4, e5⟩ := y
      refine ⟨T, e1, e2, ?_⟩
      simp [List.getD, e4, e5, e3]
  · intro L acc k ab H hL nL ha wf hi ex Qt q
    obtain ⟨h1, h2⟩ := at_ ha
    obtain ⟨v, hv, rv⟩ := reps_at r h1
    obtain ⟨w, hv2, rv2⟩ := reps_at r2 h2
    have e : xs.getD k .non = v := by simp [List.getD, hv]
    have e2 : ys.getD k .non = w := by simp [List.getD, hv2]
    rw [e, e2]
    exact ht L acc k ab.1 ab.2 v w H hL nL h1 h2 ((rv.off hL).ex ex) ((rv2.off hL).ex ex) wf hi ex Qt q
  · intro L acc k ab H hL nL ha hp wf hi ex Qt q
    obtain ⟨h1, h2⟩ := at_ ha
    obtain ⟨v, hv, rv⟩ := reps_at r h1
    obtain ⟨w, hv2, rv2⟩ := reps_at r2 h2
    have e : xs.getD k .non = v := by simp [List.getD, hv]
    have e2 : ys.getD k .non = w := by simp [List.getD, hv2]
    rw [e, e2]
    exact he L acc k ab.1 ab.2 v w H hL nL h1 h2 hp ((rv.off hL).ex ex) ((rv2.off hL).ex ex) wf hi ex Qt q
  · exact fun L ds H' hL a2 rp ex hi => hq _ ds H' a2 rp ex hi
/-- [e for i, x in enumerate(s) if ..] -/
theorem lc_enum {i j : Nat} {x1 : V} {d1 : D} (hw : Wf M I) (hI : I H1) (hx : Rep K M H1 x1 d1) (hd : d1.elems = some (as.map enc)) (hlen : as.length ≤ sizeLine)
    (hwp : ∀ v w, wipe (((wipe σ vs).set i (some v)).set j (some w)) vs = wipe σ vs) (p : α × Nat → Bool) (P : α × Nat → D → Prop)
    (ht : ∀ (L : Addr) (acc : List V) (k : Nat) (a : α) (v : V) (H : Hp), H1 L = none → ¬ M L → as[k]? = some a → Rep K (Mq M L) H v (enc a) → Wf (Mq M L) (Iq I L (.lst acc)) → Iq I L (.lst acc) H → Ex (Mq M L) H1 H →
      ∀ Qt : Bool → Hp → Prop, (∀ H3, Iq I L (.lst acc) H3 → Ex (Mq M L) H H3 → Qt (p (a, k)) H3) → tt (((wipe σ vs).set i (some (.int (k : Nat)))).set j (some v)) H Qt)
    (he : ∀ (L : Addr) (acc : List V) (k : Nat) (a : α) (v : V) (H : Hp), H1 L = none → ¬ M L → as[k]? = some a → p (a, k) = true → Rep K (Mq M L) H v (enc a) → Wf (Mq M L) (Iq I L (.lst acc)) → Iq I L (.lst acc) H → Ex (Mq M L) H1 H →
      ∀ Qe : VK, (∀ y d H4, P (a, k) d → Rep K (Mq M L) H4 y d → Iq I L (.lst acc) H4 → Ex (Mq M L) H H4 → Qe y H4) → te (((wipe σ vs).set i (some (.int (k : Nat)))).set j (some v)) H Qe)
    (hq : ∀ y ds H', A2 P ((as.zipIdx).filter p) ds → Rep K M H' y (.lst ds) → Ex M H1 H' → I H' → Q y H') : enumR K (LcR (gTup K 2 (gCons (gName i) (gCons (gName j) gNil))) tt te vs σ Q) [x1] H1 := by
  obtain ⟨S1, xs, rfl, r, hS⟩ := src_of hx hd
  have hl := reps_len r
  refine ⟨S1, xs, rfl, hS _ (Ex.refl _), ?_⟩
  have w := walk_enumS (K := K) (S := S1) (xs := xs)
  rw [show xs.length = as.zipIdx.length by simp [hl]] at w
  have at_ : ∀ {k : Nat} {ab : α × Nat}, as.zipIdx[k]? = some ab → as[k]? = some ab.1 ∧ ab.2 = k := fun {k ab} h => by
    rw [List.getElem?_zipIdx] at h
    cases e : as[k]? with
    | none => rw [e] at h; cases h
    | some a => rw [e] at h; cases h; exact ⟨rfl, by simp⟩
  refine lc_any (K := K) w hw hI p P (fun k _ => ((wipe σ vs).set i (some (.int (k : Nat)))).set j (some (xs.getD k .non))) (fun H' e => hS H' e) (by simpa using hlen) (fun k a ha => ?_) (fun k a => hwp _ _) ?_ ?_ ?_
  · exact bd_pair fun H x H' y => by
      obtain ⟨T, u, v, e1, e2, e3, e4, e5⟩ := y
      refine ⟨T, e1, e2, ?_⟩
      cases e4
      simp [List.getD, e5, e3]
  · intro L acc k ab H hL nL ha wf hi ex Qt q
    obtain ⟨h1, h2⟩ := at_ ha
    obtain ⟨a, b⟩ := ab
    simp only at h1 h2
    subst h2
    obtain ⟨v, hv, rv⟩ := reps_at r h1
    have e : xs.getD b .non = v := by simp [List.getD, hv]
    rw [e]
    exact ht L acc b a v H hL nL h1 ((rv.off hL).ex ex) wf hi ex Qt q
  · intro L acc k ab H hL nL ha hp wf hi ex Qt q
    obtain ⟨h1, h2⟩ := at_ ha
    obtain ⟨a, b⟩ := ab
    simp only at h1 h2
    subst h2
    obtain ⟨v, hv, rv⟩ := reps_at r h1
    have e : xs.getD b .non = v := by simp [List.getD, hv]
    rw [e]
    exact he L acc b a v H hL nL h1 hp ((rv.off hL).ex ex) wf hi ex Qt q
  · exact fun L ds H' hL a2 rp ex hi => hq _ ds H' a2 rp ex hi
/-- [e for k in range(..) if ..] -/
theorem lc_rng {i : Nat} {lo : Int} {n : Nat} (hw : Wf M I) (hI : I H1) (hlen : n ≤ sizeLine) (hwp : ∀ v, wipe ((wipe σ vs).set i (some v)) vs = wipe σ vs) (p : Nat → Bool) (P : Nat → D → Prop)
    (ht : ∀ (L : Addr) (acc : List V) (k : Nat) (H : Hp), H1 L = none → ¬ M L → k < n → Wf (Mq M L) (Iq I L (.lst acc)) → Iq I L (.lst acc) H → Ex (Mq M L) H1 H →
      ∀ Qt : Bool → Hp → Prop, (∀ H3, Iq I L (.lst acc) H3 → Ex (Mq M L) H H3 → Qt (p k) H3) → tt ((wipe σ vs).set i (some (.int (lo + (k : Nat))))) H Qt)
    (he : ∀ (L : Addr) (acc : List V) (k : Nat) (H : Hp), H1 L = none → ¬ M L → k < n → p k = true → Wf (Mq M L) (Iq I L (.lst acc)) → Iq I L (.lst acc) H → Ex (Mq M L) H1 H →
      ∀ Qe : VK, (∀ y d H4, P k d → Rep K (Mq M L) H4 y d → Iq I L (.lst acc) H4 → Ex (Mq M L) H H4 → Qe y H4) → te ((wipe σ vs).set i (some (.int (lo + (k : Nat))))) H Qe)
    (hq : ∀ y ds H', A2 P ((List.range n).filter p) ds → Rep K M H' y (.lst ds) → Ex M H1 H' → I H' → Q y H') : LcR (gName i) tt te vs σ Q (Itr lo n) H1 := by
  have w := walk_range (lo := lo) (n := n)
  rw [show Walk (Itr lo n) n = Walk (Itr lo n) (List.range n).length by simp] at w
  have at_ : ∀ {k a : Nat}, (List.range n)[k]? = some a → k < n ∧ a = k := fun {k a} h => by
    have hk := (List.getElem?_eq_some_iff.mp h).1
    rw [List.length_range] at hk
    rw [List.getElem?_range hk] at h
    cases h
    exact ⟨hk, rfl⟩
  refine lc_any (K := K) w hw hI p P (fun k _ => (wipe σ vs).set i (some (.int (lo + (k : Nat))))) (fun _ _ => trivial) (by simpa using hlen) (fun k a ha => ?_) (fun k a => hwp _) ?_ ?_ ?_
  · exact bd_name fun H x H' y => y
  · intro L acc k a H hL nL ha wf hi ex Qt q
    obtain ⟨h1, rfl⟩ := at_ ha
    exact ht L acc a H hL nL h1 wf hi ex Qt q
  · intro L acc k a H hL nL ha hp wf hi ex Qt q
    obtain ⟨h1, rfl⟩ := at_ ha
    exact he L acc a H hL nL h1 hp wf hi ex Qt q
  · exact fun L ds H' hL a2 rp ex hi => hq _ ds H' a2 rp ex hi
/-! ### loops -/
theorem for_src {i : Nat} {x : V} {d : D} {tb : TS} {E : Ends} (hx : Rep K M H1 x d) (hd : d.elems = some (as.map enc)) (Pv : Nat → L2.St → Hp → Prop) (h0 : Pv 0 σ H1) (hG : ∀ k σ H, Pv k σ H → Ex M H1 H)
    (hs : ∀ k a v σ H, as[k]? = some a → Pv k σ H → Rep K M H v (enc a) → tb { E with nx := Pv (k + 1), ct := Pv (k + 1), bk := E.nx } (σ.set i (some v)) H) (hq : ∀ σ H, Pv as.length σ H → E.nx σ H) : srcR K (ForR (gName i) tb E σ) x H1 := by
  obtain ⟨S, xs, rfl, r, hS⟩ := src_of hx hd
  have hl := reps_len r
  have key : ∀ {J : It} {G : Hp → Prop} {Y : Nat → Hp → V → Hp → Prop}, L2.Walk J as.length G Y → (∀ H', Ex M H1 H' → G H') → (∀ k H x H', Y k H x H' → H' = H ∧ xs[k]? = some x) → ForR (gName i) tb E σ J H1 := fun {J G Y} w hG2 hY => by
    refine for_it w Pv h0 (fun k σ H _ h => hG2 _ (hG k σ H h)) (fun k x σ H H' hk h y => ?_) hq
    obtain ⟨rfl, e2⟩ := hY _ _ _ _ y
    have ha : as[k]? = some as[k] := by simp [hk]
    obtain ⟨v, hv, rv⟩ := reps_at r ha
    rw [hv] at e2
    cases e2
    exact hs k _ _ σ _ ha h (rv.ex (hG _ _ _ h))
  cases S with
  | lst a =>
    refine .inl ⟨a, rfl, ⟨xs, hS H1 (Ex.refl _)⟩, ?_⟩
    have w := walk_list (K := K) (a := a) (xs := xs)
    rw [hl] at w
    exact key w hS fun k H x H' y => y
  | tup a =>
    refine .inr (.inl ⟨a, rfl, ⟨xs, hS H1 (Ex.refl _)⟩, ?_⟩)
    have w := walk_tup (K := K) (a := a) (xs := xs)
    rw [hl] at w
    exact key w hS fun k H x H' y => y
  | txt z =>
    refine .inr (.inr ⟨z, rfl, ?_⟩)
    have hxs : xs = signs z := hS H1 (Ex.refl _)
    have w := walk_str (z := z)
    have hz : z.cps.size = as.length := by rw [← hl, hxs]; simp [signs]
    rw [hz] at w
    refine key w (fun _ _ => trivial) fun k H x H' y => ⟨y.1, ?_⟩
    obtain ⟨_, c, e1, e2⟩ := y
    rw [hxs, e2]
    simp [signs, e1]
theorem for_rng {i : Nat} {lo : Int} {n : Nat} {tb : TS} {E : Ends} (Pv : Nat → L2.St → Hp → Prop) (h0 : Pv 0 σ H1)
    (hs : ∀ k σ H, k < n → Pv k σ H → tb { E with nx := Pv (k + 1), ct := Pv (k + 1), bk := E.nx } (σ.set i (some (.int (lo + (k : Nat))))) H) (hq : ∀ σ H, Pv n σ H → E.nx σ H) : ForR (gName i) tb E σ (Itr lo n) H1 := by
  refine for_it walk_range Pv h0 (fun _ _ _ _ _ => trivial) (fun k x σ H H' hk h y => ?_) hq
  obtain ⟨rfl, rfl⟩ := y
  exact hs k σ _ hk h
end
end Nt

namespace Nt
open PySem PySem.Spec PyProof.Rows L2
/-! ### a def that keeps a promise -/
structure Df (P : Program) (w : World) (K : PySem.W.Frag) (mg : Str → Option Value) (base : Heap) (k : Nat) (x : Str) (ps : List Str) (dfl : List V) (sp : Sp) : Prop where
  mgx : mg x = some (.ref (He.ga K x))
  ok : ∃ fd, FnOk P w K mg base (L2.CX P w) k (He.ga K x) fd ps sp ∧ ∀ j, j ≤ dfl.length → ∃ ds, Vals (dfl.drop j) ds ∧ Binds K fd ps ds
  kp : PySem.W.keepIn K (.ref (He.ga K x)) = true
/-- where a def stands, and how it is bound: what the head tells -/
structure At (K : PySem.W.Frag) (mg : Str → Option Value) (x : Str) (st : Stmt) (ps : List Str) (dfl : List V) : Prop where
  mgx : mg x = some (.ref (He.ga K x))
  ex : ∃ fd, FunD K x x (defArgs st) (defBody st) (defScope st) dfl [] (He.ga K x) fd ∧ ∀ j, j ≤ dfl.length → ∃ ds, Vals (dfl.drop j) ds ∧ Binds K fd ps ds
section
variable {P : Program} {w : World} {K : PySem.W.Frag} {mg : Str → Option Value} {base : Heap} {k : Nat} {x : Str} {ps : List Str} {dfl : List V} {sp : Sp} {st : Stmt} {N : List Str}
/-- a def that raises nothing -/
theorem At.df (F : At K mg x st ps dfl) (S : FnScope N ps (defScope st)) (len : ∀ vs H Q E, sp vs H Q E → vs.length = ps.length)
    (hbody : ∀ (f : Addr) (cdv : Value) (A : Around) (outer : List Env) (s : Shared) (H : Hp) (vs : List V) (Q : VK) (E : XK), Room k (A.deeper (envOfC x (defScope st) s.heap.objs.size f cdv)) → sp vs H Q E →
      ∃ t, PSs (cxOf (L2.CX P w) P w K mg base N x (defScope st) f cdv A outer s H E).nox (defBody st) t ∧ t { nx := fun _ H' => Q .non H', rt := Q } (start N vs) H) : Df P w K mg base (k + 1) x ps dfl sp := by
  obtain ⟨fd, F1, F2⟩ := F.ex
  refine ⟨F.mgx, ⟨fd, F1.ok S len fun cdv A outer s H vs Q E hr h => ?_, F2⟩, F1.kp⟩
  obtain ⟨t, h1, h2⟩ := hbody _ cdv A outer s H vs Q E hr h
  exact ⟨t, h1.nox, h2⟩
theorem At.dfX (F : At K mg x st ps dfl) (S : FnScope N ps (defScope st)) (len : ∀ vs H Q E, sp vs H Q E → vs.length = ps.length)
    (hbody : ∀ (f : Addr) (cdv : Value) (A : Around) (outer : List Env) (s : Shared) (H : Hp) (vs : List V) (Q : VK) (E : XK), Room k (A.deeper (envOfC x (defScope st) s.heap.objs.size f cdv)) → sp vs H Q E →
      ∃ t, PSs (cxOf (L2.CX P w) P w K mg base N x (defScope st) f cdv A outer s H E) (defBody st) t ∧ t { nx := fun _ H' => Q .non H', rt := Q } (start N vs) H) : Df P w K mg base (k + 1) x ps dfl sp := by
  obtain ⟨fd, F1, F2⟩ := F.ex
  exact ⟨F.mgx, ⟨fd, F1.ok S len fun cdv A outer s H vs Q E hr h => hbody _ cdv A outer s H vs Q E hr h, F2⟩, F1.kp⟩
end
section
variable {X : Cx} {k : Nat} {x : Str} {ps : List Str} {dfl : List V} {sp : Sp} {e : Expr} {es : List Expr} {t : TA} {p pos : Pos}
/-- f(e, ..): what is not written comes from the defaults behind the first j -/
theorem pe_df (j : Nat) (G : Df X.prog X.w X.K X.mg X.base k x ps dfl sp) (hr : Room k X.A) (hg : Gl X x) (ha : PA X (e :: es) t) (hj : j ≤ dfl.length := by decide) (hdb : (x == ("__debug__" : Str)) = false := by decide)
    (he : starEach (e :: es) X.env = (false, eval e X.env) :: starEach es X.env := by rfl) (hpl : (backTo pos (starEach es X.env)).any (·.1) = false := by rfl) :
    PE X (.Call (.Name x p) (e :: es) [] pos) (tCall sp (dfl.drop j) E0 t) := by
  obtain ⟨fd, F, hb⟩ := G.ok
  obtain ⟨ds, hd, b⟩ := hb j hj
  exact pe_call F hr hg G.mgx G.kp b hd passL ha hdb he hpl
theorem pe_df0 (j : Nat) (G : Df X.prog X.w X.K X.mg X.base k x ps dfl sp) (hr : Room k X.A) (hg : Gl X x) (hj : j ≤ dfl.length := by decide) (hdb : (x == ("__debug__" : Str)) = false := by decide) :
    PE X (.Call (.Name x p) [] [] pos) (tCall sp (dfl.drop j) E0 tNil) := by
  obtain ⟨fd, F, hb⟩ := G.ok
  obtain ⟨ds, hd, b⟩ := hb j hj
  exact pe_call0 F hr hg G.mgx G.kp b hd passL hdb
end
/-! ### more universal operators -/
section
variable {X : Cx}
def rMulU : R2 := fun x y H Q => rI CMulW (fun i j => .int (i * j)) x y H Q ∨ rI CMul (fun i j => .int (i * j)) x y H Q ∨ rRepS x y H Q ∨ rRep x y H Q
theorem op_mulU : OpR X (binaryOp .Mult) rMulU := op_mulW.or (op_mul.or (op_repS.or op_rep))
def rEqU (K : PySem.W.Frag) : R2 := fun x y H Q => rEq x y H Q ∨ rEqD K x y H Q
theorem op_eqU (hu : X.A.units + 64 < cLine) : OpR X (compareOp .Eq) (rEqU X.K) := op_eq.or (op_eqD hu)
def rNeU (K : PySem.W.Frag) : R2 := fun x y H Q => rNe x y H Q ∨ rNeD K x y H Q
theorem op_neU (hu : X.A.units + 64 < cLine) : OpR X (compareOp .NotEq) (rNeU X.K) := op_ne.or (op_neD hu)
theorem units5 {k : Nat} {A : Around} (r : Room k A) : A.units + 65 < cLine := by have := r.un; omega
def rInU (K : PySem.W.Frag) : R2 := fun x y H Q => rInS x y H Q ∨ rIn K false x y H Q ∨ rInD K x y H Q
theorem op_inU (hv : X.A.units + 65 < cLine) : OpR X (compareOp .In) (rInU X.K) := op_inS.or (op_in_seq.or (op_inD hv))
def rNiU (K : PySem.W.Frag) : R2 := fun x y H Q => rNotInS x y H Q ∨ rIn K true x y H Q ∨ rNotInD K x y H Q
theorem op_niU (hv : X.A.units + 65 < cLine) : OpR X (compareOp .NotIn) (rNiU X.K) := op_notInS.or (op_notIn_seq.or (op_notInD hv))
theorem SlR.or {r r' : V → Option Int → Option Int → Hp → VK → Prop} (h : L2.SlR X r) (h' : L2.SlR X r') : L2.SlR X (fun x l u H Q => r x l u H Q ∨ r' x l u H Q) := by
  intro pins s σ H x v vl vu lo hi sl Q I rx hs pl pu z
  rcases z with z | z
  · exact h pins s σ H x v vl vu lo hi sl Q I rx hs pl pu z
  · exact h' pins s σ H x v vl vu lo hi sl Q I rx hs pl pu z
def rSlU (K : PySem.W.Frag) : V → Option Int → Option Int → Hp → VK → Prop := fun x l u H Q => rSlL K x l u H Q ∨ rSlA K x l u H Q ∨ rSlS x l u H Q
theorem sl_U : L2.SlR X (rSlU X.K) := SlR.or sl_list (SlR.or sl_tupA sl_str)
def rLen (K : PySem.W.Frag) : List V → Hp → VK → Prop := fun xs H Q => ∃ x n, xs = [x] ∧ LenV K x H n ∧ Q (.int n) H
theorem call_lenU : CallR X (.builtin "len") (rLen X.K) := call_len
def rInt1 : List V → Hp → VK → Prop := fun xs H Q => (∃ i, xs = [.int i] ∧ Q (.int i) H) ∨ ∃ k, xs = [.bl k] ∧ Q (.int (if k then 1 else 0)) H
theorem call_intU : CallR X (.type "int") rInt1 := call_int1
def rStr1 : List V → Hp → VK → Prop := fun xs H Q => ∃ i, xs = [.int i] ∧ i.natAbs.log2 < 1920 ∧ Q (.str (toString i)) H
theorem call_strU : CallR X (.type "str") rStr1 := call_str_int
def rListS (K : PySem.W.Frag) : List V → Hp → VK → Prop := fun xs H Q => ∃ p ys, xs = [.ref p] ∧ (SqL K H p ys ∨ SqT K H p ys) ∧ ∀ l, H l = none → Q (.ref l) (upd H l (.lst ys))
def rList1 (K : PySem.W.Frag) : List V → Hp → VK → Prop := fun xs H Q => rListS K xs H Q ∨ rListD xs H Q
theorem call_listU (hc : X.calm = true) : CallR X (.type "list") (rList1 X.K) := by
  intro pins s σ H xs us Q I r z
  rcases z with z | z
  · exact call_list_of pins s σ H xs us Q I r z
  · exact call_list_dK hc pins s σ H xs us Q I r z
def rTup1 (K : PySem.W.Frag) : List V → Hp → VK → Prop := fun xs H Q => ∃ p ys, xs = [.ref p] ∧ ((SqL K H p ys ∧ ∀ l, H l = none → Q (.ref l) (upd H l (.tup ys))) ∨ (SqT K H p ys ∧ Q (.ref p) H))
theorem call_tupU : CallR X (.type "tuple") (rTup1 X.K) := call_tuple_of
def rAbs : List V → Hp → VK → Prop := fun xs H Q => ∃ i, xs = [.int i] ∧ Q (.int (if i < 0 then -i else i)) H
theorem call_absU : CallR X (.builtin "abs") rAbs := call_abs
def rJoin (K : PySem.W.Frag) : V → List V → Hp → VK → Prop := fun x xs H Q => ∃ a p, ∃ ys : List Str, x = .str a ∧ xs = [.ref p] ∧ (SqL K H p (ys.map V.str) ∨ SqT K H p (ys.map V.str)) ∧ (ys.map (·.length)).sum + ys.length * a.length ≤ 16777216 ∧ Q (.str (Txt.join a ys)) H
theorem pe_joinU {o e : Expr} {to te : TE} {apos pos : Pos} (ho : PE X o to) (he : PE X e te) (hs : starEach [e] X.env = [(false, eval e X.env)] := by rfl) (hbase : attributeBase o "join" X.env (eval o X.env) = eval o X.env := by rfl) (hline : (apos.endLine == pos.line) = true := by rfl) :
    PE X (.Call (.Attribute o "join" apos) [e] [] pos) (tM1 (rJoin X.K) to te) := pe_join ho he hs hbase hline
theorem pt_tru {a : Expr} {ta : TE} (ha : PE X a ta) (he : ∀ whole, isTrue a X.env whole = (do let v ← whole; standAt a.pos; holding [v] (truthy v)) := by intro _; rfl) : PT X a (tTru X.K ta) := pt_truth ha he
end
end Nt

namespace Nt
open PySem PySem.Spec PyProof.Rows L2
section
variable {X : Cx}
def rSubU : R2 := rI0 fun i j => .int (i - j)
theorem op_subU : OpR X (binaryOp .Sub) rSubU := op_sub
def rDivU : R2 := rI CDivW fun i j => .int (i / j)
theorem op_divU : OpR X (binaryOp .FloorDiv) rDivU := op_fdivW
def rModU : R2 := rI (fun _ j => 0 < j) fun i j => .int (i % j)
theorem op_modU : OpR X (binaryOp .Mod) rModU := op_mod
def rPowU : R2 := rI CPow fun i j => .int (i ^ j.toNat)
theorem op_powU : OpR X (binaryOp .Pow) rPowU := op_pow
def rAndU : R2 := rI0 fun i j => .int (Builtin.bitAnd i j)
theorem op_andU : OpR X (binaryOp .BitAnd) rAndU := op_and
def rOrU : R2 := rI0 fun i j => .int (Builtin.bitOr i j)
theorem op_orU : OpR X (binaryOp .BitOr) rOrU := op_or
def rXorU : R2 := rI0 fun i j => .int (Builtin.bitXor i j)
theorem op_xorU : OpR X (binaryOp .BitXor) rXorU := op_xor
def rNegU : V → Hp → VK → Prop := rU fun i => .int (-i)
theorem un_negU : UnR X (unaryOp .USub) rNegU := un_neg
def rInvU : V → Hp → VK → Prop := rU fun i => .int (Builtin.bitNot i)
theorem un_invU : UnR X (unaryOp .Invert) rInvU := un_inv
def rLtU : R2 := rI0 fun i j => .bl (decide (i < j))
theorem op_ltU : OpR X (compareOp .Lt) rLtU := op_lt
def rLeU : R2 := rI0 fun i j => .bl (decide (i ≤ j))
theorem op_leU : OpR X (compareOp .LtE) rLeU := op_le
def rGtU : R2 := rI0 fun i j => .bl (decide (j < i))
theorem op_gtU : OpR X (compareOp .Gt) rGtU := op_gt
def rGeU : R2 := rI0 fun i j => .bl (decide (j ≤ i))
theorem op_geU : OpR X (compareOp .GtE) rGeU := op_ge
def rIsBU : R2 := fun x y H Q => ∃ a b : Bool, x = .bl a ∧ y = .bl b ∧ Q (.bl (decide (a = b))) H
theorem op_isBU : OpR X (compareOp .Is) rIsBU := op_isBl
def rNotBU : R2 := fun x y H Q => ∃ a b : Bool, x = .bl a ∧ y = .bl b ∧ Q (.bl (!decide (a = b))) H
theorem op_notBU : OpR X (compareOp .IsNot) rNotBU := op_notBl
theorem pe_strT {x : Str} {l : List Nat} {j : Nat} {pos : Pos} (h : x = T l) : PE X (.Constant (.str x) j pos) (tC (.str (T l))) := by
  subst h
  exact pe_str
theorem pe_globS {x : Str} {z : Str} {pos : Pos} (hg : Gl X x) (h : ∃ t, X.mg x = some (.str z t)) (hd : (x == ("__debug__" : Str)) = false := by decide) : PE X (.Name x pos) (tC (.str z)) := by
  obtain ⟨t, h⟩ := h
  exact pe_glob hg h ⟨t, rfl⟩ hd
theorem pe_globI {x : Str} {z : Int} {pos : Pos} (hg : Gl X x) (h : ∃ t, X.mg x = some (.int z t)) (hd : (x == ("__debug__" : Str)) = false := by decide) : PE X (.Name x pos) (tC (.int z)) := by
  obtain ⟨t, h⟩ := h
  exact pe_glob hg h ⟨t, rfl⟩ hd
def rCount : V → List V → Hp → VK → Prop := fun x xs H Q => ∃ a b, x = .str a ∧ xs = [.str b] ∧ Q (.int (Txt.count a b)) H
theorem pe_countU {o e : Expr} {to te : TE} {apos pos : Pos} (ho : PE X o to) (he : PE X e te) (hs : starEach [e] X.env = [(false, eval e X.env)] := by rfl) (hbase : attributeBase o "count" X.env (eval o X.env) = eval o X.env := by rfl) (hline : (apos.endLine == pos.line) = true := by rfl) :
    PE X (.Call (.Attribute o "count" apos) [e] [] pos) (tM1 rCount to te) := pe_m1 F.slot_str_count F.type_str_count mt_count ho he hs hbase hline
def rMax : List V → Hp → VK → Prop := fun xs H Q => ∃ i j, xs = [.int i, .int j] ∧ Q (.int (if j > i then j else i)) H
theorem call_maxU (hc : X.calm = true) : CallR X (.builtin "max") rMax := call_max2 hc
end
end Nt

namespace Nt
open PySem PySem.Spec PyProof.Rows L2
/-- int of a whole number, a bool or a text -/
def rIntA : List V → Hp → VK → Prop := fun xs H Q => rInt1 xs H Q ∨ ∃ a n, xs = [.str a] ∧ PySem.intText? a = some n ∧ a.length ≤ 640 ∧ Q (.int n) H
theorem call_intA {X : Cx} : CallR X (.type "int") rIntA := call_intU.or call_int_str
end Nt

namespace Nt
open PySem PySem.Spec PyProof.Rows L2
/-! ### readings, step by step -/
def TupK (Q : VK) : List V → Hp → Prop := fun xs H1 => xs.length ≤ sizeLine ∧ ∀ p, H1 p = none → Q (.ref p) (upd H1 p (.tup xs))
def LstK (Q : VK) : List V → Hp → Prop := fun xs H1 => xs.length ≤ sizeLine ∧ ∀ p, H1 p = none → Q (.ref p) (upd H1 p (.lst xs))
def RevK (K : PySem.W.Frag) (Q : VK) : V → Hp → Prop := fun x H1 => ∃ a xs, x = .ref a ∧ SqL K H1 a xs ∧ ∀ p, H1 p = none → Q (.ref p) (upd H1 p (.lst xs.reverse))
section
variable {K : PySem.W.Frag} {M : Addr → Prop} {I : Hp → Prop} {σ : L2.St} {H : Hp} {Q : VK} {QT : Bool → Hp → Prop} {QA : List V → Hp → Prop} {QO : Option Int → Hp → Prop} {v x y : V} {ta tb tc : TE} {t u : TT} {a b : TA} {E : Ends} {s1 s2 : TS} {r r' : R2} {i j k : Int} {l m : List Nat} {c : Bool}
theorem sx_var {n : Nat} (h : σ[n]? = some (some v)) (q : Q v H) : tVar n σ H Q := ⟨v, h, q⟩
theorem sx_c (q : Q v H) : tC v σ H Q := q
theorem sx_op (h : ta σ H fun x H1 => tb σ H1 fun y H2 => r x y H2 Q) : tOp r ta tb σ H Q := h
theorem sx_un {r : V → Hp → VK → Prop} (h : ta σ H fun x H1 => r x H1 Q) : tUn r ta σ H Q := h
theorem sx_if (h : t σ H fun c H1 => if c = true then ta σ H1 Q else tb σ H1 Q) : tIf t ta tb σ H Q := h
theorem sx_andV (h : ta σ H fun x H1 => ∃ c, x = .bl c ∧ if c = true then tb σ H1 Q else Q (.bl false) H1) : tAndV ta tb σ H Q := h
theorem sx_orV (h : ta σ H fun x H1 => ∃ c, x = .bl c ∧ if c = true then Q (.bl true) H1 else tb σ H1 Q) : tOrV ta tb σ H Q := h
theorem sx_notV (h : ta σ H fun x H1 => ∃ c, x = .bl c ∧ Q (.bl (!c)) H1) : tNotV ta σ H Q := h
theorem sx_chain (h : ta σ H fun x H1 => tb σ H1 fun y H2 => r x y H2 fun z H3 => ∃ k, z = .bl k ∧ if k = true then tc σ H3 (fun w H4 => r' y w H4 Q) else Q (.bl false) H3) : tChain r r' ta tb tc σ H Q := h
theorem sx_call {sp : Sp} {d : List V} {X : XK} (h : a σ H fun vs H1 => sp (vs ++ d) H1 Q X) : tCall sp d X a σ H Q := h
theorem sx_cb {r : List V → Hp → VK → Prop} (h : a σ H fun vs H1 => r vs H1 Q) : tCB r a σ H Q := h
theorem sx_m1 {r : V → List V → Hp → VK → Prop} (h : ta σ H fun x H1 => (∃ a, x = .str a) ∧ tb σ H1 fun y H2 => r x [y] H2 Q) : tM1 r ta tb σ H Q := h
theorem sx_bm {r : V → List V → Hp → VK → Prop} {T : String} (h : ta σ H fun x H1 => tyV K T x H1 ∧ a σ H1 fun xs H2 => r x xs H2 Q) : tBM K T r ta a σ H Q := h
theorem sx_bm0 {r : V → List V → Hp → VK → Prop} {T : String} (h : ta σ H fun x H1 => tyV K T x H1 ∧ r x [] H1 Q) : tBM0 K T r ta σ H Q := h
theorem sx_sl {r : V → Option Int → Option Int → Hp → VK → Prop} {tl th : TO} (h : ta σ H fun x H1 => tl σ H1 fun l H2 => th σ H2 fun u H3 => r x l u H3 Q) : tSl r ta tl th σ H Q := h
theorem sx_nopart (h : QO none H) : tNoPart σ H QO := h
theorem sx_part (h : ta σ H fun x H1 => ∃ i, x = .int i ∧ QO (some i) H1) : tPart ta σ H QO := h
theorem sx_nil (h : QA [] H) : tNil σ H QA := h
theorem sx_cons (h : ta σ H fun x H1 => a σ H1 fun xs H2 => QA (x :: xs) H2) : tCons ta a σ H QA := h
theorem sx_tb (h : ta σ H fun x H1 => ∃ c, x = .bl c ∧ QT c H1) : tB ta σ H QT := h
theorem sx_tt (h : ta σ H fun x H1 => ∃ c, x = .bl c ∧ QT c H1) : tTest ta σ H QT := h
theorem sx_and (h : t σ H fun c H1 => if c = true then u σ H1 QT else QT false H1) : tAnd t u σ H QT := h
theorem sx_or (h : t σ H fun c H1 => if c = true then QT true H1 else u σ H1 QT) : tOr t u σ H QT := h
theorem sx_not (h : t σ H fun c H1 => QT (!c) H1) : tNot t σ H QT := h
theorem sx_tru (h : ta σ H fun x H' => ∃ k, TruV K x H' k ∧ QT k H') : L2.tTru K ta σ H QT := h
theorem sx_yes (h : QT true H) : tYes σ H QT := h
theorem sx_next (h : E.nx σ H) : tNext E σ H := h
theorem sx_seq (h : s1 { E with nx := s2 E } σ H) : tSeq s1 s2 E σ H := h
theorem sx_brk (h : E.bk σ H) : tBreak E σ H := h
theorem sx_cnt (h : E.ct σ H) : tCont E σ H := h
theorem sx_drop (h : ta σ H fun _ H1 => E.nx σ H1) : tDrop ta E σ H := h
theorem sx_ret (h : ta σ H E.rt) : tRet ta E σ H := h
theorem sx_retN (h : E.rt .non H) : tRetN E σ H := h
theorem sx_ifS (h : t σ H fun b H1 => if b = true then s1 E σ H1 else s2 E σ H1) : tIfS t s1 s2 E σ H := h
theorem sx_asg {g : TG} (h : ta σ H fun x H1 => g x σ H1 E.nx) : tAsg ta g E σ H := h
theorem sx_par {n o : Nat} (h : a σ H fun vs H1 => ∃ v w, vs = [v, w] ∧ E.nx ((σ.set n (some v)).set o (some w)) H1) : tPar n o a E σ H := h
theorem sx_par3 {n o p : Nat} (h : a σ H fun vs H1 => ∃ u v w, vs = [u, v, w] ∧ E.nx (((σ.set n (some u)).set o (some v)).set p (some w)) H1) : tPar3 n o p a E σ H := h
theorem sx_rng1 {R : It → Hp → Prop} (h : a σ H fun vs H1 => ∃ j : Int, vs = [.int j] ∧ -(2 ^ 62) ≤ j ∧ j < 2 ^ 62 ∧ R (Itr 0 j.toNat) H1) : iRng1 a σ H R := h
theorem sx_rng2 {R : It → Hp → Prop} (h : a σ H fun vs H1 => ∃ i j : Int, vs = [.int i, .int j] ∧ (-(2 ^ 62) ≤ i ∧ i < 2 ^ 62 ∧ -(2 ^ 62) ≤ j ∧ j < 2 ^ 62) ∧ R (Itr i (j - i).toNat) H1) : iRng2 a σ H R := h
theorem gs_name {n : Nat} {G : L2.St → Hp → Prop} (h : G (σ.set n (some v)) H) : gName n v σ H G := h
theorem gs_sub {G : L2.St → Hp → Prop} {f : TSet} (h : ta σ H fun o H1 => tb σ H1 fun i H2 => f o i v H2 fun H3 => G σ H3) : gSub ta tb f v σ H G := h
/-- a tuple is taken apart -/
theorem gs_pair {n o : Nat} {G : L2.St → Hp → Prop} {d e : D} (h : Rep K M H v (.tup [d, e])) (q : ∀ x y, Rep K M H x d → Rep K M H y e → G ((σ.set n (some x)).set o (some y)) H) : gTup K 2 (gCons (gName n) (gCons (gName o) gNil)) v σ H G := by
  cases h with
  | tup h n r => cases r with
    | cons r1 r2 => cases r2 with
      | cons r2 r3 => cases r3; exact ⟨_, _, rfl, SqT.of h, rfl, _, _, rfl, _, _, rfl, rfl, q _ _ r1 r2⟩
theorem ex_b {b : Bool} {Z : Bool → Prop} (q : Z b) : ∃ c, V.bl b = .bl c ∧ Z c := ⟨b, rfl, q⟩
theorem ex_i {b : Int} {Z : Int → Prop} (q : Z b) : ∃ c, V.int b = .int c ∧ Z c := ⟨b, rfl, q⟩
theorem ex_s {b : Str} {Z : Prop} (q : Z) : (∃ a, V.str b = .str a) ∧ Z := ⟨⟨b, rfl⟩, q⟩
theorem ex_2 {Z : V → V → Prop} (q : Z x y) : ∃ v w, [x, y] = [v, w] ∧ Z v w := ⟨x, y, rfl, q⟩
theorem ex_3 {z : V} {Z : V → V → V → Prop} (q : Z x y z) : ∃ u v w, [x, y, z] = [u, v, w] ∧ Z u v w := ⟨x, y, z, rfl, q⟩
/-! values -/
theorem add_ii (q : Q (.int (i + j)) H) : rAddU K (.int i) (.int j) H Q := .inl ⟨i, j, rfl, rfl, q⟩
theorem add_TT (h : l.length + m.length ≤ sizeLine) (q : Q (.str (T (l ++ m))) H) : rAddU K (.str (T l)) (.str (T m)) H Q := .inr (.inl ⟨_, _, rfl, rfl, by rw [T_len, T_len]; exact h, by rw [T_app]; exact q⟩)
theorem add_LL {ds es : List D} (hw : Wf M I) (hI : I H) (hx : Rep K M H x (.lst ds)) (hy : Rep K M H y (.lst es)) (h : ds.length + es.length ≤ sizeLine) (q : ∀ v H', Ex M H H' → I H' → Rep K M H' v (.lst (ds ++ es)) → Q v H') : rAddU K x y H Q := by
  cases hx with
  | lst h1 n1 r1 => cases hy with
    | lst h2 n2 r2 =>
      refine .inr (.inr (.inl ⟨_, _, _, _, rfl, rfl, h1, h2, by rw [r1.length, r2.length]; exact h, fun p hp => ?_⟩))
      exact q _ _ (Ex.of (same_upd hp)) (hw.same (same_upd hp) hI) (.lst upd_same (hw.fresh hI hp) ((r1.append r2).same (same_upd hp)))
theorem sub_ii (q : Q (.int (i - j)) H) : rSubU (.int i) (.int j) H Q := ⟨i, j, rfl, rfl, q⟩
theorem mul_ii (h : CMulW i j) (q : Q (.int (i * j)) H) : rMulU (.int i) (.int j) H Q := .inl ⟨i, j, rfl, rfl, h, q⟩
theorem mul_Ti {n : Nat} (h1 : n ≤ 100000) (h2 : l.length ≤ 100) (q : Q (.str (T (List.replicate n l).flatten)) H) : rMulU (.str (T l)) (.int (n : Nat)) H Q := .inr (.inr (.inl ⟨_, _, rfl, rfl, by omega, by omega, by rw [T_len]; exact h2, by simpa [T_cps] using q⟩))
theorem mul_s (h : CMul i j) (q : Q (.int (i * j)) H) : rMulU (.int i) (.int j) H Q := .inr (.inl ⟨i, j, rfl, rfl, h, q⟩)
theorem div_ii (h : CDivW i j) (q : Q (.int (i / j)) H) : rDivU (.int i) (.int j) H Q := ⟨i, j, rfl, rfl, h, q⟩
theorem mod_ii (h : 0 < j) (q : Q (.int (i % j)) H) : rModU (.int i) (.int j) H Q := ⟨i, j, rfl, rfl, h, q⟩
theorem pow_ii (h : CPow i j) (q : Q (.int (i ^ j.toNat)) H) : rPowU (.int i) (.int j) H Q := ⟨i, j, rfl, rfl, h, q⟩
theorem neg_i (q : Q (.int (-i)) H) : rNegU (.int i) H Q := ⟨i, rfl, q⟩
theorem lt_ii (q : Q (.bl (decide (i < j))) H) : rLtU (.int i) (.int j) H Q := ⟨i, j, rfl, rfl, q⟩
theorem le_ii (q : Q (.bl (decide (i ≤ j))) H) : rLeU (.int i) (.int j) H Q := ⟨i, j, rfl, rfl, q⟩
theorem gt_ii (q : Q (.bl (decide (j < i))) H) : rGtU (.int i) (.int j) H Q := ⟨i, j, rfl, rfl, q⟩
theorem ge_ii (q : Q (.bl (decide (j ≤ i))) H) : rGeU (.int i) (.int j) H Q := ⟨i, j, rfl, rfl, q⟩
theorem dec_congr {p q : Prop} [Decidable p] [Decidable q] (h : p ↔ q) : decide p = decide q := by simp [h]
theorem eq_ii (q : Q (.bl (decide (i = j))) H) : rEqU K (.int i) (.int j) H Q := .inl ⟨rfl, by
  have e : decide (V.int i = V.int j) = decide (i = j) := dec_congr ⟨fun e => by cases e; rfl, fun e => by rw [e]⟩
  rw [e]; exact q⟩
theorem eq_TT (q : Q (.bl (decide (l = m))) H) : rEqU K (.str (T l)) (.str (T m)) H Q := .inl ⟨rfl, by
  have e : decide (V.str (T l) = V.str (T m)) = decide (l = m) := dec_congr ⟨fun e => by injection e with e; exact T_inj e, fun e => by rw [e]⟩
  rw [e]; exact q⟩
theorem eq_bb {p q' : Bool} (q : Q (.bl (decide (p = q'))) H) : rEqU K (.bl p) (.bl q') H Q := .inl ⟨rfl, by
  have e : decide (V.bl p = V.bl q') = decide (p = q') := dec_congr ⟨fun e => by cases e; rfl, fun e => by rw [e]⟩
  rw [e]; exact q⟩
theorem ne_ii (q : Q (.bl (!decide (i = j))) H) : rNeU K (.int i) (.int j) H Q := .inl ⟨rfl, by
  have e : decide (V.int i = V.int j) = decide (i = j) := dec_congr ⟨fun e => by cases e; rfl, fun e => by rw [e]⟩
  rw [e]; exact q⟩
theorem ne_TT (q : Q (.bl (!decide (l = m))) H) : rNeU K (.str (T l)) (.str (T m)) H Q := .inl ⟨rfl, by
  have e : decide (V.str (T l) = V.str (T m)) = decide (l = m) := dec_congr ⟨fun e => by injection e with e; exact T_inj e, fun e => by rw [e]⟩
  rw [e]; exact q⟩
theorem ne_bb {p q' : Bool} (q : Q (.bl (!decide (p = q'))) H) : rNeU K (.bl p) (.bl q') H Q := .inl ⟨rfl, by
  have e : decide (V.bl p = V.bl q') = decide (p = q') := dec_congr ⟨fun e => by cases e; rfl, fun e => by rw [e]⟩
  rw [e]; exact q⟩
theorem in_1T {z : Nat} (q : Q (.bl (decide (z ∈ l))) H) : rInU K (.str (T [z])) (.str (T l)) H Q := .inl ⟨z, T l, rfl, rfl, q⟩
theorem ni_1T {z : Nat} (q : Q (.bl (!decide (z ∈ l))) H) : rNiU K (.str (T [z])) (.str (T l)) H Q := .inl ⟨z, T l, rfl, rfl, q⟩
theorem isN_v (q : Q (.bl (decide (v = .non))) H) : rIsN v .non H Q := ⟨rfl, q⟩
theorem notN_v (q : Q (.bl (!decide (v = .non))) H) : rNotN v .non H Q := ⟨rfl, q⟩
theorem isB_b {p q' : Bool} (q : Q (.bl (decide (p = q'))) H) : rIsBU (.bl p) (.bl q') H Q := ⟨_, _, rfl, rfl, q⟩
theorem notB_b {p q' : Bool} (q : Q (.bl (!decide (p = q'))) H) : rNotBU (.bl p) (.bl q') H Q := ⟨_, _, rfl, rfl, q⟩
/-! displays, lists, lengths, items -/
theorem sx_tup (hw : Wf M I) (h : a σ H fun xs H1 => I H1 ∧ ∃ ds, Reps K M H1 xs ds ∧ ds.length ≤ sizeLine ∧ ∀ v H', Ex M H1 H' → I H' → Rep K M H' v (.tup ds) → Q v H')
    (mono : ∀ A B : List V → Hp → Prop, (∀ xs H1, A xs H1 → B xs H1) → a σ H A → a σ H B) : tTup a σ H Q := by
  refine mono _ _ ?_ h
  rintro xs H1 ⟨hI, ds, r, hz, q⟩
  refine ⟨by rw [r.length]; exact hz, fun p hp => ?_⟩
  have e := same_upd (o := .tup xs) hp
  exact q _ _ (Ex.of e) (hw.same e hI) (.tup upd_same (hw.fresh hI hp) (r.same e))
theorem tup_end {xs : List V} {ds : List D} (hw : Wf M I) (hI : I H) (r : Reps K M H xs ds) (hz : ds.length ≤ sizeLine) (q : ∀ v H', Ex M H H' → I H' → Rep K M H' v (.tup ds) → Q v H') : TupK Q xs H := by
  refine ⟨by rw [r.length]; exact hz, fun p hp => ?_⟩
  have e := same_upd (o := .tup xs) hp
  exact q _ _ (Ex.of e) (hw.same e hI) (.tup upd_same (hw.fresh hI hp) (r.same e))
theorem lst_end {xs : List V} {ds : List D} (hw : Wf M I) (hI : I H) (r : Reps K M H xs ds) (hz : ds.length ≤ sizeLine) (q : ∀ v H', Ex M H H' → I H' → Rep K M H' v (.lst ds) → Q v H') : LstK Q xs H := by
  refine ⟨by rw [r.length]; exact hz, fun p hp => ?_⟩
  have e := same_upd (o := .lst xs) hp
  exact q _ _ (Ex.of e) (hw.same e hI) (.lst upd_same (hw.fresh hI hp) (r.same e))
/-- a list that will change: its world -/
theorem lst_mut {xs : List V} (hw : Wf M I) (hI : I H) (hz : xs.length ≤ sizeLine) (q : ∀ p H', H p = none → ¬ M p → Ex (Mq M p) H H' → Wf (Mq M p) (Iq I p (.lst xs)) → Iq I p (.lst xs) H' → Q (.ref p) H') : LstK Q xs H := by
  refine ⟨hz, fun p hp => ?_⟩
  have e := same_upd (o := .lst xs) hp
  exact q _ _ hp (hw.fresh hI hp) (Ex.of e) (hw.add _ _) ⟨hw.same e hI, upd_same⟩
theorem sx_tup0 (h : a σ H (TupK Q)) : tTup a σ H Q := h
theorem sx_lst0 (h : a σ H (LstK Q)) : tLst a σ H Q := h
theorem len_T (h : l.length ≤ sizeLine) (q : Q (.int (l.length : Nat)) H) : rLen K [.str (T l)] H Q := ⟨_, _, rfl, ⟨by rw [T_len]; exact h, rfl⟩, by rw [T_len]; exact q⟩
theorem len_R {d : D} {ds : List D} (hx : Rep K M H x d) (hd : d = .lst ds ∨ d = .tup ds) (q : Q (.int (ds.length : Nat)) H) : rLen K [x] H Q := by
  rcases hd with rfl | rfl
  · cases hx with
    | lst h n r => exact ⟨_, _, rfl, .inl ⟨_, SqL.of h, rfl⟩, by rw [r.length]; exact q⟩
  · cases hx with
    | tup h n r => exact ⟨_, _, rfl, .inr ⟨_, SqT.of h, rfl⟩, by rw [r.length]; exact q⟩
theorem atI_nat' {α : Type} {xs : List α} {n : Nat} {a : α} (h : xs[n]? = some a) : atI xs (n : Nat) = some a := by
  have hn := (List.getElem?_eq_some_iff.mp h).1
  unfold atI ixN
  rw [if_pos (by omega), if_pos (by omega)]
  simpa using h
theorem ix_T {n : Nat} {z : Nat} (hl : l.length ≤ sizeLine) (h : l[n]? = some z) (q : Q (.str (T [z])) H) : rIx K (.str (T l)) (.int (n : Nat)) H Q := .inr (.inr ⟨T l, _, z, rfl, rfl, by rw [T_len]; exact hl, by rw [T_cps]; exact atI_nat' h, q⟩)
theorem ix_R {d e : D} {ds : List D} {n : Nat} (hx : Rep K M H x d) (hd : d = .lst ds ∨ d = .tup ds) (h : ds[n]? = some e) (q : ∀ v, Rep K M H v e → Q v H) : rIx K x (.int (n : Nat)) H Q := by
  rcases hd with rfl | rfl
  · cases hx with
    | lst h1 n1 r =>
      obtain ⟨v, hv, rv⟩ := r.get h
      exact .inl ⟨_, _, _, v, rfl, rfl, SqL.of h1, atI_nat' hv, q v rv⟩
  · cases hx with
    | tup h1 n1 r =>
      obtain ⟨v, hv, rv⟩ := r.get h
      exact .inr (.inl ⟨_, _, _, v, rfl, rfl, SqT.of h1, atI_nat' hv, q v rv⟩)
theorem sIx_0 {n : Nat} : HT.sIx n 0 none = 0 := rfl
theorem sl_Tto {n : Nat} (hl : l.length ≤ sizeLine) (q : Q (.str (T (l.take n))) H) : rSlU K (.str (T l)) none (some (n : Nat)) H Q := .inr (.inr ⟨T l, rfl, by rw [T_len]; exact hl, by
  unfold cutS
  rw [HT.sIx_none, HT.sIx_nat, T_cps, T_len]
  simp only [List.drop_zero, Nat.sub_zero]
  have e : l.take (min n l.length) = l.take n := by
    by_cases h : n ≤ l.length
    · rw [Nat.min_eq_left h]
    · rw [Nat.min_eq_right (by omega), List.take_of_length_le (Nat.le_refl _), List.take_of_length_le (by omega)]
  rw [e]; exact q⟩)
theorem sl_Tfrom {n : Nat} (hl : l.length ≤ sizeLine) (q : Q (.str (T (l.drop n))) H) : rSlU K (.str (T l)) (some (n : Nat)) none H Q := .inr (.inr ⟨T l, rfl, by rw [T_len]; exact hl, by
  unfold cutS
  rw [HT.sIx_none, HT.sIx_nat, T_cps, T_len]
  have e : (l.drop (min n l.length)).take (l.length - min n l.length) = l.drop n := by
    by_cases h : n ≤ l.length
    · rw [Nat.min_eq_left h, List.take_of_length_le (by simp)]
    · rw [Nat.min_eq_right (by omega), List.drop_of_length_le (Nat.le_refl _), List.drop_of_length_le (by omega)]; simp
  rw [e]; exact q⟩)
theorem join_nil {yss : List Str} : Txt.join (T []) yss = T (yss.map fun y => y.cps.toList).flatten := by
  have h0 : Txt.join (T []) yss = Str.join (T []) yss := eq_of_beq (PyProof.Rows.join_plain_closes (T []) yss)
  have h := TL.tl_join (T []) yss
  have e : ∀ ps : List (List Nat), TL.joinL [] ps = ps.flatten := by
    intro ps
    induction ps with
    | nil => rfl
    | cons p ps ih => cases ps with
      | nil => simp [TL.joinL]
      | cons q r => simp only [TL.joinL, List.nil_append]; rw [ih]; rfl
  have h2 : (Str.join (T []) yss).cps.toList = (yss.map fun y => y.cps.toList).flatten := Eq.trans h (e _)
  rw [h0]
  show (⟨(Str.join (T []) yss).cps⟩ : Str) = _
  unfold T at *
  congr 1
  exact Array.toList_inj.mp (by rw [h2])
/-- ''.join of a list of texts -/
theorem join_R {ls : List (List Nat)} (hx : Rep K M H x (.lst (ls.map fun l => .str (T l)))) (h : (ls.map (·.length)).sum ≤ 16777216) (q : Q (.str (T ls.flatten)) H) : rJoin K (.str (T [])) [x] H Q := by
  cases hx with
  | lst h1 n1 r =>
    have e := Reps.scal_inv (f := fun l => V.str (T l)) (fun a v h => rep_str h) r
    subst e
    have hl0 : (T []).length = 0 := rfl
    refine ⟨T [], _, ls.map T, rfl, rfl, .inl (SqL.of (by rw [h1]; simp)), ?_, ?_⟩
    · rw [hl0, Nat.mul_zero, Nat.add_zero, List.map_map]
      have : (List.map ((fun x => x.length) ∘ T) ls) = ls.map (·.length) := by
        apply List.map_congr_left; intro a _; exact T_len a
      rw [this]; exact h
    · rw [join_nil, List.map_map]
      have : (List.map ((fun y : Str => y.cps.toList) ∘ T) ls) = ls := by
        rw [show ((fun y : Str => y.cps.toList) ∘ T) = id from rfl]; simp
      rw [this]; exact q
theorem all_R {bs : List Bool} (hx : Rep K M H x (.lst (bs.map .bl))) (q : Q (.bl (bs.all id)) H) : rAll K [x] H Q := by
  cases hx with
  | lst h1 n1 r =>
    have e := Reps.scal_inv (f := V.bl) (fun a v h => rep_bl h) r
    subst e
    exact ⟨_, bs, rfl, SqL.of h1, q⟩
theorem tru_R {ds : List D} (hx : Rep K M H x (.lst ds)) (q : QT (!ds.isEmpty) H) : ∃ k, TruV K x H k ∧ QT k H := by
  cases hx with
  | lst h1 n1 r =>
    refine ⟨_, .inl ⟨_, SqL.of h1, rfl⟩, ?_⟩
    have e := r.length
    cases r with
    | nil => exact q
    | cons _ _ => exact q
theorem list_R {d : D} {ds : List D} (hw : Wf M I) (hI : I H) (hx : Rep K M H x d) (hd : d = .lst ds ∨ d = .tup ds) (q : ∀ v H', Ex M H H' → I H' → Rep K M H' v (.lst ds) → Q v H') : rList1 K [x] H Q := by
  have key : ∀ {p : Addr} {xs : List V}, Reps K M H xs ds → H p = none → Q (.ref p) (upd H p (.lst xs)) := fun {p xs} r hp => by
    have e := same_upd (o := .lst xs) hp
    exact q _ _ (Ex.of e) (hw.same e hI) (.lst upd_same (hw.fresh hI hp) (r.same e))
  rcases hd with rfl | rfl
  · cases hx with
    | lst h n r => exact .inl ⟨_, _, rfl, .inl (SqL.of h), fun p hp => key r hp⟩
  · cases hx with
    | tup h n r => exact .inl ⟨_, _, rfl, .inr (SqT.of h), fun p hp => key r hp⟩
theorem rev_R {ds : List D} (hw : Wf M I) (hI : I H) (hx : Rep K M H x (.lst ds)) (q : ∀ v H', Ex M H H' → I H' → Rep K M H' v (.lst ds.reverse) → Q v H') : RevK K Q x H := by
  cases hx with
  | lst h n r =>
    refine ⟨_, _, rfl, SqL.of h, fun p hp => ?_⟩
    exact q _ _ (Ex.of (same_upd hp)) (hw.same (same_upd hp) hI) (.lst upd_same (hw.fresh hI hp) (r.reverse.same (same_upd hp)))
theorem sx_rev (h : ta σ H (RevK K Q)) : tRevL K ta σ H Q := h
end
theorem ifT {A B : Prop} (h : A) : if true = true then A else B := by rw [if_pos rfl]; exact h
theorem ifF {A B : Prop} (h : B) : if false = true then A else B := by rw [if_neg Bool.false_ne_true]; exact h
theorem ifB {b : Bool} {A B : Prop} (h1 : b = true → A) (h2 : b = false → B) : if b = true then A else B := by
  cases b
  · rw [if_neg Bool.false_ne_true]; exact h2 rfl
  · rw [if_pos rfl]; exact h1 rfl
end Nt
namespace Nt
open PySem PySem.Spec PyProof.Rows L2
/-- isinstance of a value whose type shows -/
inductive TyD : D → String → Prop
  | non : TyD .non "NoneType"
  | bl (b : Bool) : TyD (.bl b) "bool"
  | int (i : Int) : TyD (.int i) "int"
  | str (z : Str) : TyD (.str z) "str"
  | lst (l : List D) : TyD (.lst l) "list"
  | tup (l : List D) : TyD (.tup l) "tuple"
  | dct (l : List (Key × D)) : TyD (.dct l) "dict"
theorem tyx_of {K : PySem.W.Frag} {M : Addr → Prop} {H : Hp} {x : V} {d : D} {t : String} (h : Rep K M H x d) (ht : TyD d t) : TyX K H x (.type t) := by
  cases ht <;> cases h
  · exact .base .non
  · exact .base (.bl _)
  · exact .base (.int _)
  · exact .base (.str _)
  · exact .base (.lst (by assumption))
  · exact .base (.tup (by assumption))
  · exact .base (.dK (by assumption))
theorem isi_D {K : PySem.W.Frag} {M : Addr → Prop} {H : Hp} {x : V} {d : D} {t c : String} {b : Bool} {Q : VK} (h : Rep K M H x d) (ht : TyD d t) (k : PySem.W.kitOne K (.type t) (.type c) = some b) (q : Q (.bl b) H) : rIsi K [x, .ty c] H Q :=
  ⟨x, .ty c, .type t, .type c, b, rfl, .ty c, tyx_of h ht, k, q⟩
theorem sx_var1 {n : Nat} {σ : L2.St} {H : Hp} {Q : VK} (h : ∃ v, σ[n]? = some (some v) ∧ Q v H) : tVar n σ H Q := h
theorem szOk {n : Nat} (h : n ≤ 1000000) : n ≤ sizeLine := Nat.le_trans h (by decide)
end Nt
namespace Nt
theorem ifNT {A B : Prop} (h : B) : if (!true) = true then A else B := by rw [if_neg (by decide)]; exact h
theorem ifNF {A B : Prop} (h : A) : if (!false) = true then A else B := by rw [if_pos (by decide)]; exact h
end Nt
namespace Nt
open PySem PySem.Spec PyProof.Rows L2
section
variable {K : PySem.W.Frag} {M : Addr → Prop} {I : Hp → Prop} {σ : L2.St} {H H0 : Hp} {Q : VK} {x y : V}
theorem lst_endC {xs : List V} {ds : List D} (hw : Wf M I) (hI : I H) (r : Reps K M H (x :: xs) ds) (hz : ds.length ≤ sizeLine) (q : ∀ v H', Ex M H H' → I H' → Rep K M H' v (.lst ds) → Q v H') : LstK Q (x :: xs) H := lst_end hw hI r hz q
theorem Ex.shut {p : Addr} (hp : H0 p = none) (e : Ex (Mq M p) H0 H) : Ex M H0 H := fun a o n h => e a o (fun m => m.elim n fun z => by rw [z, hp] at h; cases h) h
/-- xs.append(e), the list told by the world -/
theorem app_mut {p : Addr} {xs : List V} (hw : Wf M I) (hp : ¬ M p) (hI : Iq I p (.lst xs) H) (hl : xs.length < 1000000) (q : ∀ H', Ex (Mq M p) H H' → Wf (Mq M p) (Iq I p (.lst (xs ++ [y]))) → Iq I p (.lst (xs ++ [y])) H' → Q .non H') : rAppend (.ref p) [y] H Q := by
  refine ⟨p, xs, y, rfl, rfl, hI.2, Nat.lt_of_lt_of_le hl (by decide), ?_⟩
  obtain ⟨i, e⟩ := hw.put (o' := .lst (xs ++ [y])) hp hI
  exact q _ e (hw.add _ _) i
theorem tyv_l {p : Addr} {xs : List V} (h : H p = some (.lst xs)) : tyV K "list" (.ref p) H := .inl ⟨rfl, xs, SqL.of h⟩
theorem Wf.sub {M : Addr → Prop} {I : Hp → Prop} (w : Wf M I) {H H' : Hp} (h : L2.Same H H') (i : I H) : I H' := w.same h i
end
end Nt
namespace Nt
theorem ifIsF {b : Bool} {A B : Prop} (h : b = false) (hb : B) : if b = true then A else B := by rw [h, if_neg Bool.false_ne_true]; exact hb
theorem ifIsT {b : Bool} {A B : Prop} (h : b = true) (ha : A) : if b = true then A else B := by rw [h, if_pos rfl]; exact ha
end Nt
namespace Nt
open PySem PySem.Spec PyProof.Rows L2
section
variable {K : PySem.W.Frag} {M : Addr → Prop} {I : Hp → Prop} {H : Hp} {Q : VK} {x : V} {mg : Str → Option Value} {n : Str} {st : Stmt} {ps : List Str} {dfl : List V}
theorem tup_endF {xs : List V} {ds : List D} (_ : At K mg n st ps dfl) (hw : Wf M I) (hI : I H) (r : Reps K M H xs ds) (hz : ds.length ≤ sizeLine) (q : ∀ v H', Ex M H H' → I H' → Rep K M H' v (.tup ds) → Q v H') : TupK Q xs H := tup_end hw hI r hz q
theorem lst_endF {xs : List V} {ds : List D} (_ : At K mg n st ps dfl) (hw : Wf M I) (hI : I H) (r : Reps K M H (x :: xs) ds) (hz : ds.length ≤ sizeLine) (q : ∀ v H', Ex M H H' → I H' → Rep K M H' v (.lst ds) → Q v H') : LstK Q (x :: xs) H := lst_end hw hI r hz q
end
end Nt

namespace Nt
open PySem PySem.Spec PyProof.Rows L2
section
variable {K : PySem.W.Frag} {M : Addr → Prop} {I : Hp → Prop} {α β : Type} {as : List α} {bs : List β} {tt : TT} {te : TE} {vs : List Nat} {σ : L2.St} {H1 H : Hp} {Q : VK} {enc : α → D} {enc2 : β → D} {x : V}
theorem filter_tt (as : List α) : as.filter (fun _ => true) = as := by simp
/-! no test; the element by a function -/
theorem lc_srcM {i : Nat} {d : D} (f : α → D) (hw : Wf M I) (hI : I H1) (hx : Rep K M H1 x d) (hd : d.elems = some (as.map enc)) (hlen : as.length ≤ sizeLine) (hwp : ∀ v, wipe ((wipe σ vs).set i (some v)) vs = wipe σ vs)
    (he : ∀ (L : Addr) (acc : List V) (k : Nat) (a : α) (v : V) (H : Hp), H1 L = none → as[k]? = some a → Rep K (Mq M L) H v (enc a) → Wf (Mq M L) (Iq I L (.lst acc)) → Iq I L (.lst acc) H → Ex (Mq M L) H1 H →
      ∀ Qe : VK, (∀ y H4, Rep K (Mq M L) H4 y (f a) → Iq I L (.lst acc) H4 → Ex (Mq M L) H H4 → Qe y H4) → te ((wipe σ vs).set i (some v)) H Qe)
    (hq : ∀ y H', Rep K M H' y (.lst (as.map f)) → Ex M H1 H' → I H' → Q y H') : srcR K (LcR (gName i) tYes te vs σ Q) x H1 := by
  refine lc_src hw hI hx hd hlen hwp (fun _ => true) (fun a d => d = f a) (fun L acc k a v H _ _ _ _ _ hi _ Qt q => q H hi (Ex.refl _)) (fun L acc k a v H hL nL ha _ rv wf hi ex Qe q => ?_) fun y ds H' a2 rp ex hi => ?_
  · exact he L acc k a v H hL ha rv wf hi ex Qe fun y H4 r i e => q y _ H4 rfl r i e
  · rw [a2.eq, filter_tt] at rp
    exact hq y H' rp ex hi
theorem lc_zipM {i j : Nat} {x1 x2 : V} {d1 d2 : D} (f : α × β → D) (hw : Wf M I) (hI : I H1) (hx : Rep K M H1 x1 d1) (hd : d1.elems = some (as.map enc)) (hx2 : Rep K M H1 x2 d2) (hd2 : d2.elems = some (bs.map enc2)) (hlen : as.length ≤ sizeLine)
    (hwp : ∀ v w, wipe (((wipe σ vs).set i (some v)).set j (some w)) vs = wipe σ vs)
    (he : ∀ (L : Addr) (acc : List V) (k : Nat) (a : α) (b : β) (v w : V) (H : Hp), H1 L = none → as[k]? = some a → bs[k]? = some b → Rep K (Mq M L) H v (enc a) → Rep K (Mq M L) H w (enc2 b) → Wf (Mq M L) (Iq I L (.lst acc)) → Iq I L (.lst acc) H → Ex (Mq M L) H1 H →
      ∀ Qe : VK, (∀ y H4, Rep K (Mq M L) H4 y (f (a, b)) → Iq I L (.lst acc) H4 → Ex (Mq M L) H H4 → Qe y H4) → te (((wipe σ vs).set i (some v)).set j (some w)) H Qe)
    (hq : ∀ y H', Rep K M H' y (.lst ((as.zip bs).map f)) → Ex M H1 H' → I H' → Q y H') : zipR K (LcR (gTup K 2 (gCons (gName i) (gCons (gName j) gNil))) tYes te vs σ Q) [x1, x2] H1 := by
  refine lc_zip hw hI hx hd hx2 hd2 hlen hwp (fun _ => true) (fun a d => d = f a) (fun L acc k a b v w H _ _ _ _ _ _ _ hi _ Qt q => q H hi (Ex.refl _)) (fun L acc k a b v w H hL nL ha hb _ rv rw wf hi ex Qe q => ?_) fun y ds H' a2 rp ex hi => ?_
  · exact he L acc k a b v w H hL ha hb rv rw wf hi ex Qe fun y H4 r i e => q y _ H4 rfl r i e
  · rw [a2.eq, filter_tt] at rp
    exact hq y H' rp ex hi
/-! a test; the element by a function -/
theorem lc_srcF {i : Nat} {d : D} (p : α → Bool) (f : α → D) (hw : Wf M I) (hI : I H1) (hx : Rep K M H1 x d) (hd : d.elems = some (as.map enc)) (hlen : as.length ≤ sizeLine) (hwp : ∀ v, wipe ((wipe σ vs).set i (some v)) vs = wipe σ vs)
    (ht : ∀ (L : Addr) (acc : List V) (k : Nat) (a : α) (v : V) (H : Hp), H1 L = none → as[k]? = some a → Rep K (Mq M L) H v (enc a) → Wf (Mq M L) (Iq I L (.lst acc)) → Iq I L (.lst acc) H → Ex (Mq M L) H1 H →
      ∀ Qt : Bool → Hp → Prop, (∀ H3, Iq I L (.lst acc) H3 → Ex (Mq M L) H H3 → Qt (p a) H3) → tt ((wipe σ vs).set i (some v)) H Qt)
    (he : ∀ (L : Addr) (acc : List V) (k : Nat) (a : α) (v : V) (H : Hp), H1 L = none → as[k]? = some a → p a = true → Rep K (Mq M L) H v (enc a) → Wf (Mq M L) (Iq I L (.lst acc)) → Iq I L (.lst acc) H → Ex (Mq M L) H1 H →
      ∀ Qe : VK, (∀ y H4, Rep K (Mq M L) H4 y (f a) → Iq I L (.lst acc) H4 → Ex (Mq M L) H H4 → Qe y H4) → te ((wipe σ vs).set i (some v)) H Qe)
    (hq : ∀ y H', Rep K M H' y (.lst ((as.filter p).map f)) → Ex M H1 H' → I H' → Q y H') : srcR K (LcR (gName i) tt te vs σ Q) x H1 := by
  refine lc_src hw hI hx hd hlen hwp p (fun a d => d = f a) (fun L acc k a v H hL _ ha rv wf hi ex Qt q => ht L acc k a v H hL ha rv wf hi ex Qt q) (fun L acc k a v H hL nL ha hp rv wf hi ex Qe q => ?_) fun y ds H' a2 rp ex hi => ?_
  · exact he L acc k a v H hL ha hp rv wf hi ex Qe fun y H4 r i e => q y _ H4 rfl r i e
  · rw [a2.eq] at rp
    exact hq y H' rp ex hi
theorem lc_enumF {i j : Nat} {x1 : V} {d1 : D} (p : α × Nat → Bool) (f : α × Nat → D) (hw : Wf M I) (hI : I H1) (hx : Rep K M H1 x1 d1) (hd : d1.elems = some (as.map enc)) (hlen : as.length ≤ sizeLine)
    (hwp : ∀ v w, wipe (((wipe σ vs).set i (some v)).set j (some w)) vs = wipe σ vs)
    (ht : ∀ (L : Addr) (acc : List V) (k : Nat) (a : α) (v : V) (H : Hp), H1 L = none → as[k]? = some a → Rep K (Mq M L) H v (enc a) → Wf (Mq M L) (Iq I L (.lst acc)) → Iq I L (.lst acc) H → Ex (Mq M L) H1 H →
      ∀ Qt : Bool → Hp → Prop, (∀ H3, Iq I L (.lst acc) H3 → Ex (Mq M L) H H3 → Qt (p (a, k)) H3) → tt (((wipe σ vs).set i (some (.int (k : Nat)))).set j (some v)) H Qt)
    (he : ∀ (L : Addr) (acc : List V) (k : Nat) (a : α) (v : V) (H : Hp), H1 L = none → as[k]? = some a → p (a, k) = true → Rep K (Mq M L) H v (enc a) → Wf (Mq M L) (Iq I L (.lst acc)) → Iq I L (.lst acc) H → Ex (Mq M L) H1 H →
      ∀ Qe : VK, (∀ y H4, Rep K (Mq M L) H4 y (f (a, k)) → Iq I L (.lst acc) H4 → Ex (Mq M L) H H4 → Qe y H4) → te (((wipe σ vs).set i (some (.int (k : Nat)))).set j (some v)) H Qe)
    (hq : ∀ y H', Rep K M H' y (.lst ((as.zipIdx.filter p).map f)) → Ex M H1 H' → I H' → Q y H') : enumR K (LcR (gTup K 2 (gCons (gName i) (gCons (gName j) gNil))) tt te vs σ Q) [x1] H1 := by
  refine lc_enum hw hI hx hd hlen hwp p (fun a d => d = f a) (fun L acc k a v H hL _ ha rv wf hi ex Qt q => ht L acc k a v H hL ha rv wf hi ex Qt q) (fun L acc k a v H hL nL ha hp rv wf hi ex Qe q => ?_) fun y ds H' a2 rp ex hi => ?_
  · exact he L acc k a v H hL ha hp rv wf hi ex Qe fun y H4 r i e => q y _ H4 rfl r i e
  · rw [a2.eq] at rp
    exact hq y H' rp ex hi
theorem lc_rngF {i : Nat} {lo : Int} {n : Nat} (p : Nat → Bool) (f : Nat → D) (hw : Wf M I) (hI : I H1) (hlen : n ≤ sizeLine) (hwp : ∀ v, wipe ((wipe σ vs).set i (some v)) vs = wipe σ vs)
    (ht : ∀ (L : Addr) (acc : List V) (k : Nat) (H : Hp), H1 L = none → k < n → Wf (Mq M L) (Iq I L (.lst acc)) → Iq I L (.lst acc) H → Ex (Mq M L) H1 H →
      ∀ Qt : Bool → Hp → Prop, (∀ H3, Iq I L (.lst acc) H3 → Ex (Mq M L) H H3 → Qt (p k) H3) → tt ((wipe σ vs).set i (some (.int (lo + (k : Nat))))) H Qt)
    (he : ∀ (L : Addr) (acc : List V) (k : Nat) (H : Hp), H1 L = none → k < n → p k = true → Wf (Mq M L) (Iq I L (.lst acc)) → Iq I L (.lst acc) H → Ex (Mq M L) H1 H →
      ∀ Qe : VK, (∀ y H4, Rep K (Mq M L) H4 y (f k) → Iq I L (.lst acc) H4 → Ex (Mq M L) H H4 → Qe y H4) → te ((wipe σ vs).set i (some (.int (lo + (k : Nat))))) H Qe)
    (hq : ∀ y H', Rep K M H' y (.lst (((List.range n).filter p).map f)) → Ex M H1 H' → I H' → Q y H') : LcR (gName i) tt te vs σ Q (Itr lo n) H1 := by
  refine lc_rng (K := K) hw hI hlen hwp p (fun a d => d = f a) (fun L acc k H hL _ ha wf hi ex Qt q => ht L acc k H hL ha wf hi ex Qt q) (fun L acc k H hL nL ha hp wf hi ex Qe q => ?_) fun y ds H' a2 rp ex hi => ?_
  · exact he L acc k H hL ha hp wf hi ex Qe fun y H4 r i e => q y _ H4 rfl r i e
  · rw [a2.eq] at rp
    exact hq y H' rp ex hi
/-! joins of signs -/
theorem flat_1 (h : α → Nat) (l : List α) : (l.map fun a => [h a]).flatten = l.map h := by
  induction l with
  | nil => rfl
  | cons a l ih => simp [ih]
theorem join_1 (h : α → Nat) (hx : Rep K M H x (.lst (as.map fun a => .str (T [h a])))) (hl : as.length ≤ 1000000) (q : Q (.str (T (as.map h))) H) : rJoin K (.str (T [])) [x] H Q := by
  refine join_R (M := M) (ls := as.map fun a => [h a]) (by rw [List.map_map]; exact hx) ?_ (by rw [flat_1]; exact q)
  have : ((as.map fun a => [h a]).map (·.length)).sum = as.length := by
    rw [List.map_map]
    clear hx hl q
    induction as with
    | nil => rfl
    | cons a as ih => simp only [List.map_cons, List.sum_cons, ih, List.length_cons, Function.comp]; simp; omega
  omega
theorem join_A {ls : List (List Nat)} (hx : A2 (fun (_ : α) (d : D) => ∃ l, d = .str (T l)) as (ls.map fun l => .str (T l))) : True := trivial
theorem all_M (h : α → Bool) (hx : Rep K M H x (.lst (as.map fun a => .bl (h a)))) (q : Q (.bl (as.all h)) H) : rAll K [x] H Q := by
  refine all_R (M := M) (bs := as.map h) (by rw [List.map_map]; exact hx) ?_
  rw [List.all_map]
  exact q
theorem dec1 {a b : Nat} : decide ([a] = [b]) = decide (a = b) := dec_congr ⟨fun e => by injection e, fun e => by rw [e]⟩
theorem eq_11 {a b : Nat} (q : Q (.bl (decide (a = b))) H) : rEqU K (.str (T [a])) (.str (T [b])) H Q := eq_TT (by
  have : decide ([a] = [b]) = decide (a = b) := dec_congr ⟨fun e => by injection e, fun e => by rw [e]⟩
  rw [this]; exact q)
theorem ne_11 {a b : Nat} (q : Q (.bl (!decide (a = b))) H) : rNeU K (.str (T [a])) (.str (T [b])) H Q := ne_TT (by
  have : decide ([a] = [b]) = decide (a = b) := dec_congr ⟨fun e => by injection e, fun e => by rw [e]⟩
  rw [this]; exact q)
/-! == of a list of flat data with the empty list -/
def Flat : D → Prop
  | .non => True
  | .bl _ => True
  | .int _ => True
  | .str z => PyData.strOk z = true
  | _ => False
def pyF : D → PyData
  | .bl b => .bool b
  | .int i => .int i
  | .str z => .str z
  | _ => .none
theorem dp_flat {v : V} {d : D} (h : Rep K M H v d) (f : Flat d) : Dp K H v (pyF d) ∧ (pyF d).canLay0 = true ∧ (pyF d).depth = 0 := by
  cases h with
  | non => exact ⟨.non, by simp [pyF, PyData.canLay0], by simp [pyF, PyData.depth]⟩
  | bl b => exact ⟨.bl b, by simp [pyF, PyData.canLay0], by simp [pyF, PyData.depth]⟩
  | int i => exact ⟨.int i, by simp [pyF, PyData.canLay0], by simp [pyF, PyData.depth]⟩
  | str z => exact ⟨.str z, by simp only [pyF, PyData.canLay0]; exact f, by simp [pyF, PyData.depth]⟩
  | _ => exact f.elim
theorem dp_flats : ∀ {vs : List V} {ds : List D}, Reps K M H vs ds → (∀ d ∈ ds, Flat d) → DpAll K H vs (ds.map pyF) ∧ PyData.canLayAll0 (ds.map pyF) = true ∧ PyData.depthAll (ds.map pyF) = 0
  | _, _, .nil, _ => ⟨.nil, by simp [PyData.canLayAll0], by simp [PyData.depthAll]⟩
  | _, _, .cons r rs, f => by
    obtain ⟨a1, a2, a3⟩ := dp_flat r (f _ List.mem_cons_self)
    obtain ⟨b1, b2, b3⟩ := dp_flats rs fun d hd => f d (List.mem_cons_of_mem _ hd)
    exact ⟨.cons a1 b1, by simp [PyData.canLayAll0, a2, b2], by simp [PyData.depthAll, a3, b3]⟩
theorem dp_lst {ds : List D} (h : Rep K M H x (.lst ds)) (f : ∀ d ∈ ds, Flat d) : Dp K H x (.list (ds.map pyF)) ∧ SeqAt.shaped (.list (ds.map pyF)) = true := by
  cases h with
  | lst h n r =>
    obtain ⟨b1, b2, b3⟩ := dp_flats r f
    exact ⟨.lst (SqL.of h) b1, by simp [SeqAt.shaped, PyData.canLay0, PyData.depth, b2, b3]⟩
theorem eqv_nil (l : List PyData) : PyData.eqv (.list l) (.list []) = l.isEmpty := by
  cases l <;> simp [PyData.eqv, PyData.eqvAll]
variable {y : V}
theorem eq_L0 {ds : List D} (hx : Rep K M H x (.lst ds)) (hy : Rep K M H y (.lst [])) (f : ∀ d ∈ ds, Flat d) (q : Q (.bl ds.isEmpty) H) : rEqU K x y H Q := by
  obtain ⟨a1, a2⟩ := dp_lst hx f
  obtain ⟨b1, b2⟩ := dp_lst hy (by simp)
  refine .inr ⟨_, _, a1, b1, a2, b2, ?_⟩
  rw [List.map_nil, eqv_nil]
  cases ds <;> exact q
theorem ne_L0 {ds : List D} (hx : Rep K M H x (.lst ds)) (hy : Rep K M H y (.lst [])) (f : ∀ d ∈ ds, Flat d) (q : Q (.bl (!ds.isEmpty)) H) : rNeU K x y H Q := by
  obtain ⟨a1, a2⟩ := dp_lst hx f
  obtain ⟨b1, b2⟩ := dp_lst hy (by simp)
  refine .inr ⟨_, _, a1, b1, a2, b2, ?_⟩
  rw [List.map_nil, eqv_nil]
  cases ds <;> exact q
theorem ok_T {l : List Nat} (h : ∀ c ∈ l, c < 128) : PyData.strOk (T l) = true := by
  show (Array.all (List.toArray l) fun a => decide (a < 1114112)) = true
  rw [List.all_toArray, List.all_eq_true]
  intro c hc
  have := h c hc
  simp
  omega
/-! x in a list of texts -/
def flatD : D → Bool
  | .non => true
  | .bl _ => true
  | .int _ => true
  | .str _ => true
  | _ => false
theorem in_R {ls : List (List Nat)} {l : List Nat} {d : D} (hy : Rep K M H y d) (hd : d = .lst (ls.map fun l => .str (T l)) ∨ d = .tup (ls.map fun l => .str (T l))) : ∃ p, y = .ref p ∧ (SqL K H p (ls.map fun l => V.str (T l)) ∨ SqT K H p (ls.map fun l => V.str (T l))) := by
  rcases hd with rfl | rfl
  · cases hy with
    | lst h n r =>
      have e := Reps.scal_inv (f := fun l => V.str (T l)) (fun a v h => rep_str h) r
      subst e
      exact ⟨_, rfl, .inl (SqL.of h)⟩
  · cases hy with
    | tup h n r =>
      have e := Reps.scal_inv (f := fun l => V.str (T l)) (fun a v h => rep_str h) r
      subst e
      exact ⟨_, rfl, .inr (SqT.of h)⟩
theorem inV_T {l : List Nat} {ls : List (List Nat)} : inV (.str (T l)) (ls.map fun l => V.str (T l)) = decide (l ∈ ls) := by
  unfold inV
  rw [Bool.eq_iff_iff]
  simp only [List.any_eq_true, List.mem_map, decide_eq_true_eq]
  constructor
  · rintro ⟨z, ⟨a, ha, rfl⟩, e⟩
    have e2 : T a = T l := by simpa [eqV] using e
    rw [← T_inj e2]; exact ha
  · intro h
    exact ⟨_, ⟨l, h, rfl⟩, by simp [eqV]⟩
theorem in_L {ls : List (List Nat)} {l : List Nat} {d : D} (hy : Rep K M H y d) (hd : d = .lst (ls.map fun l => .str (T l)) ∨ d = .tup (ls.map fun l => .str (T l))) (q : Q (.bl (decide (l ∈ ls))) H) : rInU K (.str (T l)) y H Q := by
  obtain ⟨p, rfl, h⟩ := in_R (l := l) hy hd
  refine .inr (.inl ⟨p, _, rfl, h, rfl, ?_, ?_⟩)
  · simp [List.all_map, flatV]
  · rw [inV_T]; exact q
theorem ni_L {ls : List (List Nat)} {l : List Nat} {d : D} (hy : Rep K M H y d) (hd : d = .lst (ls.map fun l => .str (T l)) ∨ d = .tup (ls.map fun l => .str (T l))) (q : Q (.bl (!decide (l ∈ ls))) H) : rNiU K (.str (T l)) y H Q := by
  obtain ⟨p, rfl, h⟩ := in_R (l := l) hy hd
  refine .inr (.inl ⟨p, _, rfl, h, rfl, ?_, ?_⟩)
  · simp [List.all_map, flatV]
  · rw [inV_T]; exact q
end
end Nt

namespace Nt
open PySem PySem.Spec PyProof.Rows L2
section
variable {K : PySem.W.Frag} {M : Addr → Prop} {I : Hp → Prop} {H H' : Hp} {Q : VK} {x y : V} {i j : Int}
theorem int_i (q : Q (.int i) H) : rInt1 [.int i] H Q := .inl ⟨i, rfl, q⟩
theorem abs_i (q : Q (.int (i.natAbs : Nat)) H) : rAbs [.int i] H Q := ⟨i, rfl, by
  have e : (if i < 0 then -i else i) = (i.natAbs : Int) := by split <;> omega
  rw [e]; exact q⟩
theorem ix_raw {p : Addr} {xs : List V} {v : V} (h : H p = some (.lst xs)) (ha : atI xs i = some v) (q : Q v H) : rIx K (.ref p) (.int i) H Q := .inl ⟨p, xs, i, v, rfl, rfl, SqL.of h, ha, q⟩
theorem set_raw {p : Addr} {xs : List V} {v : V} {n : Nat} {G : Hp → Prop} (h : H p = some (.lst xs)) (ha : ixN xs.length i = some n) (q : G (upd H p (.lst (xs.set n v)))) : rSetL (.ref p) (.int i) v H G := ⟨p, xs, i, n, rfl, rfl, h, ha, q⟩
theorem len_raw {p : Addr} {xs : List V} (h : H p = some (.lst xs)) (q : Q (.int (xs.length : Nat)) H) : rLen K [.ref p] H Q := ⟨_, _, rfl, .inl ⟨_, SqL.of h, rfl⟩, q⟩
theorem ix_E {d e : D} {ds : List D} {n : Nat} (hx : Rep K M H x d) (hd : d.elems = some ds) (hl : ds.length ≤ sizeLine) (h : ds[n]? = some e) (q : ∀ v, Rep K M H v e → Q v H) : rIx K x (.int (n : Nat)) H Q := by
  cases d with
  | lst l => cases hd; exact ix_R hx (.inl rfl) h q
  | tup l => cases hd; exact ix_R hx (.inr rfl) h q
  | str z =>
    cases hd
    cases rep_str hx
    have h2 : (z.cps.toList.map fun c => D.str (T [c]))[n]? = some e := h
    rw [List.getElem?_map] at h2
    cases hc : z.cps.toList[n]? with
    | none => rw [hc] at h2; cases h2
    | some c =>
      rw [hc] at h2
      cases h2
      exact .inr (.inr ⟨z, _, c, rfl, rfl, by simpa [Str.length] using hl, atI_nat' hc, q _ (.str _)⟩)
  | _ => cases hd
theorem len_E {d : D} {ds : List D} (hx : Rep K M H x d) (hd : d.elems = some ds) (hl : ds.length ≤ sizeLine) (q : Q (.int (ds.length : Nat)) H) : rLen K [x] H Q := by
  cases d with
  | lst l => cases hd; exact len_R hx (.inl rfl) q
  | tup l => cases hd; exact len_R hx (.inr rfl) q
  | str z =>
    cases hd
    cases rep_str hx
    have e : (z.cps.toList.map fun c => D.str (T [c])).length = z.length := by simp [Str.length]
    rw [e] at hl q
    exact ⟨_, _, rfl, ⟨hl, rfl⟩, q⟩
  | _ => cases hd
theorem list_E {d : D} {ds : List D} (hw : Wf M I) (hI : I H) (hx : Rep K M H x d) (hd : d = .lst ds ∨ d = .tup ds) (q : ∀ p xs, H p = none → Reps K M H xs ds → Q (.ref p) (upd H p (.lst xs))) : rList1 K [x] H Q := by
  rcases hd with rfl | rfl
  · cases hx with
    | lst h n r => exact .inl ⟨_, _, rfl, .inl (SqL.of h), fun p hp => q p _ hp r⟩
  · cases hx with
    | tup h n r => exact .inl ⟨_, _, rfl, .inr (SqT.of h), fun p hp => q p _ hp r⟩
/-! ### the bag -/
def bagL (l : Addr) (i g m : Nat) (c : Int) : List V := [.ref l, .int (i : Nat), .int (g : Nat), .int (m : Nat), .int c]
structure BagIs (H : Hp) (b l : Addr) (cs : List Int) (i g m : Nat) (c : Int) : Prop where
  hb : H b = some (.lst (bagL l i g m c))
  hl : H l = some (.lst (cs.map V.int))
  hm : m < 4294967296
  hn : cs.length ≤ 1000
def BagOk (H : Hp) (b l : Addr) : Prop := ∃ cs i g m c, BagIs H b l cs i g m c
structure HasBag (M : Addr → Prop) (I : Hp → Prop) (b : Addr) : Prop where
  ex : ∃ l, M b ∧ M l ∧ b ≠ l ∧ (∀ H, I H → BagOk H b l) ∧ ∀ H H', I H → (∀ p, M p → p ≠ b → H' p = H p) → BagOk H' b l → I H'
theorem HasBag.add {b q : Addr} {o : HO} (h : HasBag M I b) (hq : ¬ M q) : HasBag (Mq M q) (Iq I q o) b := by
  obtain ⟨l, h1, h2, h3, h4, h5⟩ := h.ex
  refine ⟨l, .inl h1, .inl h2, h3, fun H i => h4 H i.1, fun H H' i e k => ⟨h5 H H' i.1 (fun p hp => e p (.inl hp)) k, ?_⟩⟩
  rw [e q (.inr rfl) fun z => hq (z ▸ h1)]
  exact i.2
/-- the world of a bag alone -/
def MB (b l : Addr) : Addr → Prop := fun p => p = b ∨ p = l
def IB (b l : Addr) : Hp → Prop := fun H => BagOk H b l
theorem wfB {b l : Addr} : Wf (MB b l) (IB b l) where
  live := fun H ⟨cs, i, g, m, c, h⟩ p hp => by
    rcases hp with rfl | rfl
    · rw [h.hb]; exact nofun
    · rw [h.hl]; exact nofun
  stable := fun H H' ⟨cs, i, g, m, c, h⟩ e => ⟨cs, i, g, m, c, (e b (.inl rfl)).trans h.hb, (e l (.inr rfl)).trans h.hl, h.hm, h.hn⟩
theorem hasB {b l : Addr} (hn : b ≠ l) : HasBag (MB b l) (IB b l) b := ⟨l, .inl rfl, .inr rfl, hn, fun _ h => h, fun _ _ _ _ k => k⟩
/-- the bag is written -/
theorem bag_put {b l : Addr} {cs : List Int} {i g m i' g' m' : Nat} {c c' : Int} (h : BagIs H b l cs i g m c) (hn : b ≠ l) (hm : m' < 4294967296) : BagIs (upd H b (.lst (bagL l i' g' m' c'))) b l cs i' g' m' c' :=
  ⟨upd_same, by rw [upd_ne hn.symm]; exact h.hl, hm, h.hn⟩
end
end Nt
namespace Nt
open PySem PySem.Spec PyProof.Rows L2
section
variable {K : PySem.W.Frag} {M : Addr → Prop} {I : Hp → Prop} {H H' : Hp} {Q : VK} {x y : V} {i j : Int}
theorem mod_any (h : 0 < j) (q : ∀ m : Nat, (m : Int) < j → Q (.int (m : Nat)) H) : rModU (.int i) (.int j) H Q := by
  refine ⟨i, j, rfl, rfl, h, ?_⟩
  have h1 := Int.emod_nonneg i (show j ≠ 0 by omega)
  have h2 := Int.emod_lt_of_pos i h
  obtain ⟨m, e⟩ := Int.eq_ofNat_of_zero_le h1
  show Q (.int (i % j)) H
  rw [e]
  exact q m (by omega)
theorem mul_r (h : -(2 ^ 64) < j ∧ j < 2 ^ 64) (q : Q (.int (i * j)) H) : rMulU (.int i) (.int j) H Q := .inr (.inl ⟨i, j, rfl, rfl, .inr h, q⟩)
theorem mul_l (h : -(2 ^ 64) < i ∧ i < 2 ^ 64) (q : Q (.int (i * j)) H) : rMulU (.int i) (.int j) H Q := .inr (.inl ⟨i, j, rfl, rfl, .inl h, q⟩)
theorem div_any {n : Nat} (h : 0 < j) (hj : j.natAbs.log2 < 9000) (q : ∀ m : Nat, Q (.int (m : Nat)) H) : rDivU (.int (n : Nat)) (.int j) H Q := by
  refine ⟨n, j, rfl, rfl, ⟨h, hj⟩, ?_⟩
  have h1 := Int.ediv_nonneg (show (0 : Int) ≤ (n : Int) by omega) (show (0 : Int) ≤ j by omega)
  obtain ⟨m, e⟩ := Int.eq_ofNat_of_zero_le h1
  show Q (.int ((n : Int) / j)) H
  rw [e]
  exact q m
theorem cut_to {xs : List V} {n : Nat} : cutV xs none (some (n : Nat)) = xs.take n := by
  unfold cutV
  rw [HT.sIx_none, HT.sIx_nat]
  simp only [List.drop_zero, Nat.sub_zero]
  by_cases h : n ≤ xs.length
  · rw [Nat.min_eq_left h]
  · rw [Nat.min_eq_right (by omega), List.take_of_length_le (Nat.le_refl _), List.take_of_length_le (by omega)]
end
end Nt

namespace Nt
open PySem PySem.Spec PyProof.Rows L2
/-- what is told of a law's own def at one world -/
structure LawTold (l : PySem.W.OpenLaw) (n k : Nat) (x : Str) (w : World) (mg : Str → Option Value) (fa : Addr) (h : Heap) : Prop where
  ex : ∃ (K : PySem.W.Frag) (fd : FuncData) (sp : Sp), K.In h ∧ (∀ (s : Shared) (u : Value), BindsTo s fd ⟨[u], []⟩ [(x, u)]) ∧
    (∀ (H : Hp) (a : Addr) (ns : List Int), ns.length ≤ n → SqL K H a (ns.map V.int) → sp [.ref a] H (fun v _ => v = .bl true) fun _ _ _ => False) ∧
    (∀ base : Heap, K.In base → base.Ns mainGlobals mg → FnOk l.prog w K mg base (L2.CX l.prog w) k fa fd [x] sp)
/-- the law's call, whatever its defs let out -/
theorem law_walk {l : PySem.W.OpenLaw} {n k : Nat} {q : Program} {loose : List Str} {XP : (Str → Option Value) → Heap → Prop} {YP : World → Heap → Prop} {d : DefRec} {x : Str} (hn : l.most = some n) (hs : n ≤ sizeLine) (h0 : d.params.defaults = []) (hr : Room k callerA)
    (T : ∀ w mg fa h, YP w h → Heap.Ns h mainGlobals mg → mg d.name = some (.ref fa) → LawTold l n k x w mg fa h) : PySem.W.WalkO q loose XP YP l.row.toRowW d [] (fun f vs => PySem.call f vs) := by
  refine Att.attach_call hn h0 ?_
  intro w s1 s2 mg mb fa o pm cd doc a vs ns G Y ho hd hcd hmg hobj hi hl hg
  obtain ⟨K, fd, sp, KX, hb, hq, hF⟩ := (T w mg fa _ Y G.T.g hmg).ex
  refine law_call KX G.T.g G.T.b G.T.builtins G.T.nolimit hg hobj hi (Nat.le_trans hl hs) hr hF hb (fun H _ hS => hq H a ns hl hS) ?_
  rintro H e s' ⟨_, _, _, _, _, _, _, _, _, _, _, _, z⟩
  exact z
end Nt

namespace Nt
open PySem PySem.Spec PyProof.Rows L2
section
variable {K : PySem.W.Frag} {M : Addr → Prop} {I : Hp → Prop} {H H1 : Hp} {Q : VK} {x y : V} {σ : L2.St}
/-! ### == and in over data of any kind -/
mutual
def pyD : D → PyData
  | .non => .none
  | .bl b => .bool b
  | .int i => .int i
  | .str z => .str z
  | .lst l => .list (pyAll l)
  | .tup l => .tuple (pyAll l)
  | .dct _ => .none
  | .oth _ => .none
def pyAll : List D → List PyData
  | [] => []
  | d :: l => pyD d :: pyAll l
end
mutual
/-- data that may be compared: no dicts, no objects, well-formed texts, at most n deep -/
def eqOk : Nat → D → Bool
  | _, .non => true
  | _, .bl _ => true
  | _, .int _ => true
  | _, .str z => PyData.strOk z
  | 0, .lst _ => false
  | 0, .tup _ => false
  | n + 1, .lst l => eqAll n l
  | n + 1, .tup l => eqAll n l
  | _, .dct _ => false
  | _, .oth _ => false
def eqAll : Nat → List D → Bool
  | _, [] => true
  | n, d :: l => eqOk n d && eqAll n l
end
mutual
theorem dp_D : ∀ {n : Nat} {d : D} {v : V}, Rep K M H v d → eqOk n d = true → Dp K H v (pyD d) ∧ (pyD d).canLay0 = true ∧ (pyD d).depth ≤ n
  | _, .non, _, h, _ => by cases h; exact ⟨.non, by simp [pyD, PyData.canLay0], by simp [pyD, PyData.depth]⟩
  | _, .bl b, _, h, _ => by cases h; exact ⟨.bl b, by simp [pyD, PyData.canLay0], by simp [pyD, PyData.depth]⟩
  | _, .int i, _, h, _ => by cases h; exact ⟨.int i, by simp [pyD, PyData.canLay0], by simp [pyD, PyData.depth]⟩
  | _, .str z, _, h, f => by
    cases h
    refine ⟨.str z, ?_, by simp [pyD, PyData.depth]⟩
    simp only [pyD, PyData.canLay0]
    simpa [eqOk] using f
  | 0, .lst _, _, _, f => by simp [eqOk] at f
  | 0, .tup _, _, _, f => by simp [eqOk] at f
  | n + 1, .lst l, _, h, f => by
    cases h with
    | lst h1 n1 r =>
      obtain ⟨a1, a2, a3⟩ := dp_All (n := n) r (by simpa [eqOk] using f)
      exact ⟨.lst (SqL.of h1) a1, by simp [pyD, PyData.canLay0, a2], by simp [pyD, PyData.depth]; omega⟩
  | n + 1, .tup l, _, h, f => by
    cases h with
    | tup h1 n1 r =>
      obtain ⟨a1, a2, a3⟩ := dp_All (n := n) r (by simpa [eqOk] using f)
      exact ⟨.tup (SqT.of h1) a1, by simp [pyD, PyData.canLay0, a2], by simp [pyD, PyData.depth]; omega⟩
  | _, .dct _, _, _, f => by simp [eqOk] at f
  | _, .oth _, _, _, f => by simp [eqOk] at f
theorem dp_All : ∀ {n : Nat} {l : List D} {vs : List V}, Reps K M H vs l → eqAll n l = true → DpAll K H vs (pyAll l) ∧ PyData.canLayAll0 (pyAll l) = true ∧ PyData.depthAll (pyAll l) ≤ n
  | _, [], _, h, _ => by cases h; exact ⟨.nil, by simp [pyAll, PyData.canLayAll0], by simp [pyAll, PyData.depthAll]⟩
  | n, d :: l, _, h, f => by
    cases h with
    | cons h1 h2 =>
      obtain ⟨f1, f2⟩ := Bool.and_eq_true_iff.mp (show (eqOk n d && eqAll n l) = true by simpa [eqAll] using f)
      obtain ⟨a1, a2, a3⟩ := dp_D h1 f1
      obtain ⟨b1, b2, b3⟩ := dp_All h2 f2
      exact ⟨.cons a1 b1, by simp [pyAll, PyData.canLayAll0, a2, b2], by simp [pyAll, PyData.depthAll]; omega⟩
end
theorem shaped_D {n : Nat} {d : D} (h : Rep K M H x d) (f : eqOk n d = true) (hn : n ≤ 64) : SeqAt.shaped (pyD d) = true := by
  obtain ⟨_, a2, a3⟩ := dp_D h f
  simp only [SeqAt.shaped, a2, Bool.true_and, decide_eq_true_eq]
  omega
theorem eq_D {n m : Nat} {d e : D} (hx : Rep K M H x d) (hy : Rep K M H y e) (fd : eqOk n d = true) (fe : eqOk m e = true) (hn : n ≤ 64) (hm : m ≤ 64) (q : Q (.bl (PyData.eqv (pyD d) (pyD e))) H) : rEqU K x y H Q :=
  .inr ⟨_, _, (dp_D hx fd).1, (dp_D hy fe).1, shaped_D hx fd hn, shaped_D hy fe hm, q⟩
theorem ne_D {n m : Nat} {d e : D} (hx : Rep K M H x d) (hy : Rep K M H y e) (fd : eqOk n d = true) (fe : eqOk m e = true) (hn : n ≤ 64) (hm : m ≤ 64) (q : Q (.bl (!PyData.eqv (pyD d) (pyD e))) H) : rNeU K x y H Q :=
  .inr ⟨_, _, (dp_D hx fd).1, (dp_D hy fe).1, shaped_D hx fd hn, shaped_D hy fe hm, q⟩
theorem in_D {n m : Nat} {d : D} {l : List D} (hx : Rep K M H x d) (hy : Rep K M H y (.lst l)) (fd : eqOk n d = true) (fe : eqOk m (.lst l) = true) (hn : n ≤ 64) (hm : m ≤ 64) (q : Q (.bl ((pyAll l).any fun z => PyData.eqv z (pyD d))) H) : rInU K x y H Q :=
  .inr (.inr ⟨_, _, (dp_D hx fd).1, (by have := (dp_D hy fe).1; simpa [pyD] using this), shaped_D hx fd hn, (by have := shaped_D hy fe hm; simpa [pyD] using this), q⟩)
theorem ni_D {n m : Nat} {d : D} {l : List D} (hx : Rep K M H x d) (hy : Rep K M H y (.lst l)) (fd : eqOk n d = true) (fe : eqOk m (.lst l) = true) (hn : n ≤ 64) (hm : m ≤ 64) (q : Q (.bl (!(pyAll l).any fun z => PyData.eqv z (pyD d))) H) : rNiU K x y H Q :=
  .inr (.inr ⟨_, _, (dp_D hx fd).1, (by have := (dp_D hy fe).1; simpa [pyD] using this), shaped_D hx fd hn, (by have := shaped_D hy fe hm; simpa [pyD] using this), q⟩)
/-! ### tests of lists -/
theorem tru_If {ds : List D} {A B : Prop} (hx : Rep K M H x (.lst ds)) (h : if (!ds.isEmpty) = true then A else B) : ∃ k, TruV K x H k ∧ if k = true then A else B :=
  tru_R (QT := fun k _ => if k = true then A else B) hx h
/-! ### dicts -/
theorem dnew (hw : Wf M I) (hI : I H) (q : ∀ p H', H p = none → Ex M H H' → I H' → Rep K M H' (.ref p) (.dct []) → Q (.ref p) H') : tDNewK σ H Q := fun p hp =>
  q p _ hp (Ex.of (same_upd hp)) (hw.same (same_upd hp) hI) (.dct upd_same (hw.fresh hI hp) rfl .nil)
/-- {k: v}, k and v read off -/
theorem disp1 {tk tv : TE} {k : Key} {v : V} {d : D} (hw : Wf M I) (hI : I H) (hk : ∀ H Q, Q (kV k) H → tk σ H Q) (hv : ∀ H Q, Q v H → tv σ H Q) (r : Rep K M H v d) (q : ∀ y H', Ex M H H' → I H' → Rep K M H' y (.dct [(k, d)]) → Q y H') : tDisp [(tk, tv)] σ H Q := by
  intro p hp
  refine hk _ _ (hv _ _ ?_)
  refine ⟨upd_same, [(k, v)], rfl, by simp, ?_⟩
  have e : upd (upd H p (.dK [])) p (.dK (mergeK [] [(k, v)])) = upd H p (.dK [(k, v)]) := by
    funext a
    by_cases h : a = p
    · rw [h, upd_same, upd_same]; rfl
    · rw [upd_ne h, upd_ne h, upd_ne h]
  rw [e]
  exact q _ _ (Ex.of (same_upd hp)) (hw.same (same_upd hp) hI) (.dct upd_same (hw.fresh hI hp) rfl (.cons (r.same (same_upd hp)) .nil))
def keyD : Key → D
  | .inl i => .int i
  | .inr z => .str z
theorem rep_key (k : Key) : Rep K M H (kV k) (keyD k) := by
  cases k with
  | inl i => exact .int i
  | inr z => exact .str z
theorem reps_keys (H : Hp) : ∀ (kvs : List (Key × V)) (ds : List (Key × D)), kvs.map (·.1) = ds.map (·.1) → Reps K M H (kvs.map fun kv => kV kv.1) (ds.map fun kv => keyD kv.1)
  | [], [], _ => .nil
  | (k, v) :: kvs, (k', d) :: ds, h => by
    simp only [List.map_cons, List.cons.injEq] at h
    obtain ⟨rfl, h⟩ := h
    exact .cons (rep_key k) (reps_keys H kvs ds h)
  | [], _ :: _, h => by simp at h
  | _ :: _, [], h => by simp at h
theorem list_keys {ds : List (Key × D)} (hw : Wf M I) (hI : I H) (hx : Rep K M H x (.dct ds)) (q : ∀ v H', Ex M H H' → I H' → Rep K M H' v (.lst (ds.map fun kv => keyD kv.1)) → Q v H') : rList1 K [x] H Q := by
  cases hx with
  | dct h n k r =>
    refine .inr ⟨_, _, rfl, h, fun p hp => ?_⟩
    exact q _ _ (Ex.of (same_upd hp)) (hw.same (same_upd hp) hI) (.lst upd_same (hw.fresh hI hp) (reps_keys _ _ _ k))
theorem val_at : ∀ {kvs : List (Key × V)} {ds : List (Key × D)} {k : Key} {d : D}, kvs.map (·.1) = ds.map (·.1) → Reps K M H (kvs.map (·.2)) (ds.map (·.2)) → (ds.map (·.1)).Nodup → (k, d) ∈ ds → ∃ v, valV kvs k = some v ∧ Rep K M H v d
  | [], [], _, _, _, _, _, h => by cases h
  | (k1, v) :: kvs, (k2, d2) :: ds, k, d, hk, hr, hn, hm => by
    simp only [List.map_cons, List.cons.injEq] at hk
    obtain ⟨rfl, hk⟩ := hk
    cases hr with
    | cons r1 r2 =>
      simp only [List.map_cons, List.nodup_cons] at hn
      rcases List.mem_cons.mp hm with e | hm
      · cases e
        exact ⟨v, by simp [valV], r1⟩
      · have ne : ¬ k1 = k := fun e => hn.1 (e ▸ List.mem_map_of_mem (f := (·.1)) hm)
        obtain ⟨u, h1, h2⟩ := val_at hk r2 hn.2 hm
        refine ⟨u, ?_, h2⟩
        rw [← h1]
        simp [valV, ne]
  | [], _ :: _, _, _, h, _, _, _ => by simp at h
  | _ :: _, [], _, _, h, _, _, _ => by simp at h
theorem dget_R {ds : List (Key × D)} {k : Key} {d : D} {Z : V → Prop} (r : Rep K M H x (.dct ds)) (hn : (ds.map (·.1)).Nodup) (hm : (k, d) ∈ ds) (q : ∀ v, Rep K M H v d → Z v) : ∃ a v, x = .ref a ∧ DGet H a (kV k) (some v) ∧ Z v := by
  cases r with
  | dct h n hk hr =>
    obtain ⟨v, h1, h2⟩ := val_at hk hr hn hm
    refine ⟨_, v, rfl, ?_, q v h2⟩
    rw [← h1]
    exact DGet.k h
theorem sx_dget {td ty : TE} (h : td σ H fun x H1 => ty σ H1 fun y H2 => ∃ a v, x = .ref a ∧ DGet H2 a y (some v) ∧ Q v H2) : tDGet td ty σ H Q := h
end
end Nt

namespace Nt
open PySem PySem.Spec PyProof.Rows L2
section
variable {K : PySem.W.Frag} {M : Addr → Prop} {I : Hp → Prop} {H H1 : Hp} {Q : VK} {x y : V} {σ : L2.St} {ds : List D}
theorem cut_from {xs : List V} {n : Nat} : cutV xs (some (n : Nat)) none = xs.drop n := by
  unfold cutV
  rw [HT.sIx_none, HT.sIx_nat, List.take_of_length_le (by simp)]
  by_cases h : n ≤ xs.length
  · rw [Nat.min_eq_left h]
  · rw [Nat.min_eq_right (by omega), List.drop_of_length_le (Nat.le_refl _), List.drop_of_length_le (by omega)]
theorem cut_mid {xs : List V} {a b : Nat} : cutV xs (some (a : Nat)) (some (b : Nat)) = (xs.drop a).take (min b xs.length - min a xs.length) := by
  unfold cutV
  rw [HT.sIx_nat, HT.sIx_nat]
  by_cases h : a ≤ xs.length
  · rw [Nat.min_eq_left h]
  · rw [show min a xs.length = xs.length from Nat.min_eq_right (by omega), List.drop_of_length_le (Nat.le_refl _), List.drop_of_length_le (show xs.length ≤ a by omega)]
theorem sl_Lto {n : Nat} (hw : Wf M I) (hI : I H) (hx : Rep K M H x (.lst ds)) (q : ∀ v H', Ex M H H' → I H' → Rep K M H' v (.lst (ds.take n)) → Q v H') : rSlU K x none (some (n : Nat)) H Q := by
  cases hx with
  | lst h n1 r =>
    refine .inl ⟨_, _, rfl, SqL.of h, fun p hp => ?_⟩
    rw [cut_to]
    exact q _ _ (Ex.of (same_upd hp)) (hw.same (same_upd hp) hI) (.lst upd_same (hw.fresh hI hp) ((r.take n).same (same_upd hp)))
theorem sl_Lfrom {n : Nat} (hw : Wf M I) (hI : I H) (hx : Rep K M H x (.lst ds)) (q : ∀ v H', Ex M H H' → I H' → Rep K M H' v (.lst (ds.drop n)) → Q v H') : rSlU K x (some (n : Nat)) none H Q := by
  cases hx with
  | lst h n1 r =>
    refine .inl ⟨_, _, rfl, SqL.of h, fun p hp => ?_⟩
    rw [cut_from]
    exact q _ _ (Ex.of (same_upd hp)) (hw.same (same_upd hp) hI) (.lst upd_same (hw.fresh hI hp) ((r.drop n).same (same_upd hp)))
theorem sl_Lmid {a b : Nat} (hw : Wf M I) (hI : I H) (hx : Rep K M H x (.lst ds)) (q : ∀ v H', Ex M H H' → I H' → Rep K M H' v (.lst ((ds.drop a).take (min b ds.length - min a ds.length))) → Q v H') : rSlU K x (some (a : Nat)) (some (b : Nat)) H Q := by
  cases hx with
  | lst h n1 r =>
    refine .inl ⟨_, _, rfl, SqL.of h, fun p hp => ?_⟩
    rw [cut_mid, r.length]
    exact q _ _ (Ex.of (same_upd hp)) (hw.same (same_upd hp) hI) (.lst upd_same (hw.fresh hI hp) (((r.drop a).take _).same (same_upd hp)))
/-- tuple(a list) -/
theorem tup_L (hw : Wf M I) (hI : I H) (hx : Rep K M H x (.lst ds)) (q : ∀ v H', Ex M H H' → I H' → Rep K M H' v (.tup ds) → Q v H') : rTup1 K [x] H Q := by
  cases hx with
  | lst h n1 r =>
    refine ⟨_, _, rfl, .inl ⟨SqL.of h, fun p hp => ?_⟩⟩
    exact q _ _ (Ex.of (same_upd hp)) (hw.same (same_upd hp) hI) (.tup upd_same (hw.fresh hI hp) (r.same (same_upd hp)))
theorem tup_T (hx : Rep K M H x (.tup ds)) (q : Q x H) : rTup1 K [x] H Q := by
  cases hx with
  | tup h n1 r => exact ⟨_, _, rfl, .inr ⟨SqT.of h, q⟩⟩
end
end Nt
namespace Nt
open PySem PySem.Spec PyProof.Rows L2
theorem Ex.wide {M : Addr → Prop} {p : Addr} {H H' : Hp} (e : Ex M H H') : Ex (Mq M p) H H' := fun a o n h => e a o (fun m => n (.inl m)) h
section
variable {K : PySem.W.Frag} {M : Addr → Prop} {I : Hp → Prop} {tt : TT} {te : TE} {vs : List Nat} {σ : L2.St} {H1 : Hp} {Q : VK}
/-- [e for k in range(..) if ..]: the list is new -/
theorem lc_rngN {i : Nat} {lo : Int} {n : Nat} (hw : Wf M I) (hI : I H1) (hlen : n ≤ sizeLine) (hwp : ∀ v, wipe ((wipe σ vs).set i (some v)) vs = wipe σ vs) (p : Nat → Bool) (P : Nat → D → Prop)
    (ht : ∀ (L : Addr) (acc : List V) (k : Nat) (H : Hp), H1 L = none → ¬ M L → k < n → Wf (Mq M L) (Iq I L (.lst acc)) → Iq I L (.lst acc) H → Ex (Mq M L) H1 H →
      ∀ Qt : Bool → Hp → Prop, (∀ H3, Iq I L (.lst acc) H3 → Ex (Mq M L) H H3 → Qt (p k) H3) → tt ((wipe σ vs).set i (some (.int (lo + (k : Nat))))) H Qt)
    (he : ∀ (L : Addr) (acc : List V) (k : Nat) (H : Hp), H1 L = none → ¬ M L → k < n → p k = true → Wf (Mq M L) (Iq I L (.lst acc)) → Iq I L (.lst acc) H → Ex (Mq M L) H1 H →
      ∀ Qe : VK, (∀ y d H4, P k d → Rep K (Mq M L) H4 y d → Iq I L (.lst acc) H4 → Ex (Mq M L) H H4 → Qe y H4) → te ((wipe σ vs).set i (some (.int (lo + (k : Nat))))) H Qe)
    (hq : ∀ L ds H', H1 L = none → A2 P ((List.range n).filter p) ds → Rep K M H' (.ref L) (.lst ds) → Ex M H1 H' → I H' → Q (.ref L) H') : LcR (gName i) tt te vs σ Q (Itr lo n) H1 := by
  have w := walk_range (lo := lo) (n := n)
  rw [show Walk (Itr lo n) n = Walk (Itr lo n) (List.range n).length by simp] at w
  have at_ : ∀ {k a : Nat}, (List.range n)[k]? = some a → k < n ∧ a = k := fun {k a} h => by
    have hk := (List.getElem?_eq_some_iff.mp h).1
    rw [List.length_range] at hk
    rw [List.getElem?_range hk] at h
    cases h
    exact ⟨hk, rfl⟩
  refine lc_any (K := K) w hw hI p P (fun k _ => (wipe σ vs).set i (some (.int (lo + (k : Nat))))) (fun _ _ => trivial) (by simpa using hlen) (fun k a ha => ?_) (fun k a => hwp _) ?_ ?_ ?_
  · exact bd_name fun H x H' y => y
  · intro L acc k a H hL nL ha wf hi ex Qt q
    obtain ⟨h1, rfl⟩ := at_ ha
    exact ht L acc a H hL nL h1 wf hi ex Qt q
  · intro L acc k a H hL nL ha hp wf hi ex Qt q
    obtain ⟨h1, rfl⟩ := at_ ha
    exact he L acc a H hL nL h1 hp wf hi ex Qt q
  · exact fun L ds H' hL a2 rp ex hi => hq L ds H' hL a2 rp ex hi
end
end Nt

namespace Nt
open PySem PySem.Spec PyProof.Rows L2
section
variable {K : PySem.W.Frag} {M : Addr → Prop} {I : Hp → Prop} {σ : L2.St} {H H1 : Hp} {Q : VK} {i j : Int} {α : Type} {as : List α} {enc : α → D}
theorem and_ii (q : Q (.int (Builtin.bitAnd i j)) H) : rAndU (.int i) (.int j) H Q := ⟨i, j, rfl, rfl, q⟩
theorem or_ii (q : Q (.int (Builtin.bitOr i j)) H) : rOrU (.int i) (.int j) H Q := ⟨i, j, rfl, rfl, q⟩
theorem xor_ii (q : Q (.int (Builtin.bitXor i j)) H) : rXorU (.int i) (.int j) H Q := ⟨i, j, rfl, rfl, q⟩
theorem inv_i (q : Q (.int (Builtin.bitNot i)) H) : rInvU (.int i) H Q := ⟨i, rfl, q⟩
/-- for (any target) in a list, a tuple or a text -/
theorem for_srcG {g : TG} {x : V} {d : D} {tb : TS} {E : Ends} (hx : Rep K M H1 x d) (hd : d.elems = some (as.map enc)) (Pv : Nat → L2.St → Hp → Prop) (h0 : Pv 0 σ H1) (hG : ∀ k σ H, Pv k σ H → Ex M H1 H)
    (hs : ∀ k a v σ H, as[k]? = some a → Pv k σ H → Rep K M H v (enc a) → g v σ H fun σ2 H2 => tb { E with nx := Pv (k + 1), ct := Pv (k + 1), bk := E.nx } σ2 H2) (hq : ∀ σ H, Pv as.length σ H → E.nx σ H) : srcR K (ForR g tb E σ) x H1 := by
  obtain ⟨S, xs, rfl, r, hS⟩ := src_of hx hd
  have hl := reps_len r
  have key : ∀ {J : It} {G : Hp → Prop} {Y : Nat → Hp → V → Hp → Prop}, L2.Walk J as.length G Y → (∀ H', Ex M H1 H' → G H') → (∀ k H x H', Y k H x H' → H' = H ∧ xs[k]? = some x) → ForR g tb E σ J H1 := fun {J G Y} w hG2 hY => by
    refine for_it w Pv h0 (fun k σ H _ h => hG2 _ (hG k σ H h)) (fun k x σ H H' hk h y => ?_) hq
    obtain ⟨rfl, e2⟩ := hY _ _ _ _ y
    have ha : as[k]? = some as[k] := by simp [hk]
    obtain ⟨v, hv, rv⟩ := reps_at r ha
    rw [hv] at e2
    cases e2
    exact hs k _ _ σ _ ha h (rv.ex (hG _ _ _ h))
  cases S with
  | lst a =>
    refine .inl ⟨a, rfl, ⟨xs, hS H1 (Ex.refl _)⟩, ?_⟩
    have w := walk_list (K := K) (a := a) (xs := xs)
    rw [hl] at w
    exact key w hS fun k H x H' y => y
  | tup a =>
    refine .inr (.inl ⟨a, rfl, ⟨xs, hS H1 (Ex.refl _)⟩, ?_⟩)
    have w := walk_tup (K := K) (a := a) (xs := xs)
    rw [hl] at w
    exact key w hS fun k H x H' y => y
  | txt z =>
    refine .inr (.inr ⟨z, rfl, ?_⟩)
    have hxs : xs = signs z := hS H1 (Ex.refl _)
    have w := walk_str (z := z)
    have hz : z.cps.size = as.length := by rw [← hl, hxs]; simp [signs]
    rw [hz] at w
    refine key w (fun _ _ => trivial) fun k H x H' y => ⟨y.1, ?_⟩
    obtain ⟨_, c, e1, e2⟩ := y
    rw [hxs, e2]
    simp [signs, e1]
end
end Nt
namespace Nt
open PySem PySem.Spec PyProof.Rows L2
section
variable {K : PySem.W.Frag} {M : Addr → Prop} {I : Hp → Prop} {H H0 : Hp} {Q : VK} {x y : V} {p : Addr} {o : HO}
theorem add_LLN {ds es : List D} (hx : Rep K M H x (.lst ds)) (hy : Rep K M H y (.lst es)) (h : ds.length + es.length ≤ sizeLine) (q : ∀ p xs, H p = none → Reps K M H xs (ds ++ es) → Q (.ref p) (upd H p (.lst xs))) : rAddU K x y H Q := by
  cases hx with
  | lst h1 n1 r1 => cases hy with
    | lst h2 n2 r2 =>
      exact .inr (.inr (.inl ⟨_, _, _, _, rfl, rfl, h1, h2, by rw [r1.length, r2.length]; exact h, fun p hp => q p _ hp (r1.append r2)⟩))
theorem Ex.non (hw : Wf M I) (i : I H) (e : Ex M H0 H) (hp : H p = none) : H0 p = none := by
  cases h : H0 p with
  | none => rfl
  | some o =>
    have := e p o (hw.fresh i hp) h
    rw [hp] at this
    cases this
theorem Wf.set (hw : Wf M I) (np : ¬ M p) (i : I H) : I (upd H p o) := hw.stable H _ i fun a ha => upd_ne fun e => np (e ▸ ha)
theorem Ex.set (e : Ex M H0 H) (hp : H0 p = none) : Ex M H0 (upd H p o) := fun a u n h => by
  rw [upd_ne fun z => by rw [z, hp] at h; cases h]
  exact e a u n h
theorem ixN_m1 {n s : Nat} (h : 0 < n) (hs : s ≤ n) : ixN n ((s : Int) - 1) = some (if s = 0 then n - 1 else s - 1) := by
  unfold ixN
  by_cases h0 : s = 0
  · subst h0
    rw [if_neg (by omega), if_pos (by omega), if_pos rfl]
    congr 1
    omega
  · rw [if_pos (by omega), if_pos (by omega), if_neg h0]
    congr 1
    omega
end
end Nt

namespace Nt
open PySem PySem.Spec PyProof.Rows L2
/-! ### a set of texts -/
def txOf : Int × Value → Str := fun e => match e.2 with
  | .str z _ => z
  | _ => Str.empty
abbrev kS (P : Program) (w : World) : KeyKind P w Str := PySem.strKind P w
def OkT (P : Program) (w : World) (e : Int × Value) : Prop := ∃ z tk, e.2 = Value.str z tk ∧ e.1 = (kS P w).hash z
/-- the texts at a: those of L -/
structure SetT (P : Program) (w : World) (h : Heap) (a : Addr) (L : List Str) (o : Obj) (es : Array (Int × Value)) (ep : Nat) (t : SetTable) : Prop where
  at_ : h.get? a = some o
  ex : o.ExactSet
  da : o.data = .set es ep t
  ok : ∀ e ∈ es.toList, OkT P w e
  nd : (es.toList.map txOf).Nodup
  me : ∀ z, z ∈ L ↔ z ∈ es.toList.map txOf
  sz : es.size < scanBound
  fi : t.fits es.size = true
  ri : Ris t.place.toList
  le : w.params.followText "set-order" = true ∨ t.led = true
def SetL (P : Program) (w : World) (h : Heap) (a : Addr) (L : List Str) : Prop := ∃ o es ep t, SetT P w h a L o es ep t
section
variable {P : Program} {w : World} {A : Around} {E : Value → Shared → Prop} {s : Shared} {a : Addr} {L : List Str} {z : Str} {tk : Tok}
theorem okT_is {e : Int × Value} (g : OkT P w e) (k : Str) : (kS P w).is k e.2 = true ↔ txOf e = k := by
  obtain ⟨z, tk, h1, _⟩ := g
  unfold txOf
  rw [h1]
  show ((z == k) = true) ↔ z = k
  exact beq_iff_eq
theorem okT_elems {l : List (Int × Value)} (g : ∀ e ∈ l, OkT P w e) : ElemsOf (kS P w) l := fun e he => by
  obtain ⟨z, tk, h1, h2⟩ := g e he
  exact ⟨⟨z, by rw [h1]; exact strKind_is P w z tk, h2⟩, by rw [h1]; rfl⟩
/-- the table is written -/
theorem setT_store {g : Bool → Sem Unit} (hg : ∀ (b : Bool) (s1 : Shared) (Q : Unit → Shared → Prop), Q () s1 → wpAny (model P w) A (g b) Q E s1) {o : Obj} {es es1 : Array (Int × Value)} {ep : Nat} {t t2 : SetTable} (ho : s.heap.get? a = some o) (hex : o.ExactSet) (hd : o.data = .set es ep t)
    (g1 : ∀ e ∈ es1.toList, OkT P w e) (nd1 : (es1.toList.map txOf).Nodup) (m1 : ∀ k, k ∈ L ↔ k ∈ es1.toList.map txOf) (hb1 : es1.size < scanBound) (hf2 : t2.fits es1.size = true) (hr : Ris t2.place.toList) (hl : w.params.followText "set-order" = true ∨ t2.led = true)
    {wasDummy : Bool} {R : Option Bool → Shared → Prop} (hR : ∀ h', Heap.SameBut a s.heap h' → SetL P w h' a L → R (some true) { s with heap := h' }) :
    wpAny (model P w) A (do
        storeSet a es1 t2
        if (!wasDummy && t2.tooFull) = true then do
            g (relayAll t2 es1 (SetTable.grown es1.size)).2.2
            storeSet a (relayAll t2 es1 (SetTable.grown es1.size)).1 (relayAll t2 es1 (SetTable.grown es1.size)).2.1
            pure (some true)
          else pure (some true)) R E s := by
  have w1 := store_at (es' := es1) (t' := t2) ho hd
  have b1 := Heap.SameBut.update s.heap a (Obj.putSet es1 t2)
  refine wpAny_bind (wpAny_storeSet_of ho hd ?_ (fits_of_scanBound hb1))
  by_cases hc : (!wasDummy && t2.tooFull) = true
  · rw [if_pos hc]
    have p1 := relayAll_perm t2 es1 (SetTable.grown es1.size)
    have p2 := relayAll_fits t2 es1 (SetTable.grown es1.size)
    have p3 := relayAll_ris t2 es1 (SetTable.grown es1.size)
    have p4 := relayAll_led t2 es1 (SetTable.grown es1.size)
    rcases hz : relayAll t2 es1 (SetTable.grown es1.size) with ⟨es2, t3, gv⟩
    rw [hz] at p1 p2 p3 p4
    dsimp only at p1 p2 p3 p4 ⊢
    have sz2 : es2.size = es1.size := by rw [← Array.length_toList, p1.length_eq, Array.length_toList]
    refine wpAny_bind (hg _ _ _ (wpAny_bind (wpAny_storeSet_of w1 rfl ?_ (fits_of_scanBound (by rw [sz2]; exact hb1)))))
    have w2 := store_at (es' := es2) (t' := t3) w1 rfl
    refine wpAny_pure (hR _ (b1.trans (Heap.SameBut.update _ a _)) ⟨_, es2, _, t3, w2, hex, rfl, fun e he => g1 e (p1.mem_iff.mp he), (p1.map txOf).nodup_iff.mpr nd1, fun k => (m1 k).trans (p1.map txOf).mem_iff.symm, by rw [sz2]; exact hb1, p2, p3, hl.imp id fun y => by rw [p4]; exact y⟩)
  · rw [if_neg hc]
    exact wpAny_pure (hR _ b1 ⟨_, es1, _, t2, w1, hex, rfl, g1, nd1, m1, hb1, hf2, hr, hl⟩)
/-- one text more -/
theorem setT_add {Q : Bool → Shared → Prop} (R : SetL P w s.heap a L) (room : L.length + 1 < scanBound) (hQ : ∀ b h', Heap.SameBut a s.heap h' → SetL P w h' a (L ++ [z]) → Q b { s with heap := h' }) :
    wpAny (model P w) A (setAddHashed a (.str z tk) ((kS P w).hash z)) Q E s := by
  obtain ⟨o, es, ep, t, r⟩ := R
  have hel := okT_elems r.ok
  have few : es.size ≤ L.length := by
    have key : ∀ {l m : List Str}, l.Nodup → (∀ x ∈ l, x ∈ m) → l.length ≤ m.length := by
      intro l
      induction l with
      | nil => intro m _ _; exact Nat.zero_le _
      | cons x l ih =>
        intro m hn h
        obtain ⟨h1, h2⟩ := List.nodup_cons.mp hn
        have h3 := ih (m := m.erase x) h2 fun y hy => (List.mem_erase_of_ne fun e => h1 (by rw [← e]; exact hy)).mpr (h y (List.mem_cons_of_mem _ hy))
        have h4 := h x List.mem_cons_self
        have h5 := List.length_erase_of_mem h4
        have h6 := List.length_pos_of_mem h4
        simp only [List.length_cons]
        omega
    have := key r.nd fun x hx => (r.me x).mpr hx
    simpa using this
  have scn : (Value.str z tk).scannable = true := rfl
  have isz : (kS P w).is z (.str z tk) = true := strKind_is P w z tk
  have gv : ∀ (b : Bool) {s1 : Shared} {Q' : Unit → Shared → Prop}, Q' () s1 → wpAny (model P w) A (match b with | true => rule "set.scan.the-table-gave-way" | false => pure ()) Q' E s1 := fun b s1 Q' q => by
    cases b
    · exact wpAny_pure q
    · exact wpAny_rule q
  unfold setAddHashed setAddHashedIn
  refine wpAny_holding (wpAny_bind (wpAny_setState_of r.at_ r.da r.fi ?_))
  show wpAny (model P w) A _ _ _ _
  dsimp only
  rw [byScan_of scn r.sz hel]
  simp only [↓reduceIte]
  unfold setAddByScan
  refine wpAny_bind (wpAny_bind (wpAny_rule (wpAny_bind (wpAny_setScan_of isz r.at_ r.da r.fi hel ?_))))
  cases hf : List.findIdx? (fun e => (kS P w).is z e.2) es.toList with
  | none =>
    dsimp only
    have znot : z ∉ es.toList.map txOf := fun hz => by
      obtain ⟨e, he, q⟩ := List.mem_map.mp hz
      have c := List.findIdx?_eq_none_iff.mp hf e he
      rw [(okT_is (r.ok e he) z).mpr q] at c
      cases c
    have p1 := layNew_perm t es ((kS P w).hash z) (.str z tk)
    have p2 := layNew_fits t es ((kS P w).hash z) (.str z tk)
    have p3 := layNew_ris t es ((kS P w).hash z) (.str z tk) r.ri
    have p4 := layNew_led t es ((kS P w).hash z) (.str z tk)
    rcases hz : layNew t es ((kS P w).hash z) (.str z tk) with ⟨es1, t1, wd, gave⟩
    rw [hz] at p1 p2 p3 p4
    dsimp only at p1 p2 p3 p4 ⊢
    rw [Array.toList_push] at p1
    have pc : es1.toList.Perm (((kS P w).hash z, Value.str z tk) :: es.toList) := p1.trans (List.perm_append_singleton _ _)
    have pk : (es1.toList.map txOf).Perm (z :: es.toList.map txOf) := pc.map txOf
    have ok1 : ∀ e ∈ es1.toList, OkT P w e := fun e he => by
      rcases List.mem_cons.mp (pc.mem_iff.mp he) with y | y
      · rw [y]; exact ⟨z, tk, rfl, rfl⟩
      · exact r.ok e y
    have nd1 : (es1.toList.map txOf).Nodup := pk.nodup_iff.mpr (List.nodup_cons.mpr ⟨znot, r.nd⟩)
    have me1 : ∀ k, k ∈ L ++ [z] ↔ k ∈ es1.toList.map txOf := fun k => by
      rw [pk.mem_iff, List.mem_cons, List.mem_append, List.mem_singleton, r.me k]
      exact Or.comm
    have sz1 : es1.size < scanBound := by
      rw [← Array.length_toList, pc.length_eq, List.length_cons, Array.length_toList]
      omega
    have le1 : w.params.followText "set-order" = true ∨ t1.led = true := r.le.imp id fun y => by rw [p4]; exact y
    refine wpAny_bind (gv _ ?_)
    split
    · refine wpAny_bind ?_
      rw [hashByValue_scannable 8 scn]
      refine wpAny_pure (setT_store (L := L ++ [z]) (fun b s1 Q' q => ?_) r.at_ r.ex r.da ok1 nd1 me1 sz1 ?_ ?_ ?_ fun h' sb q => ?_)
      · exact gv b q
      · split
        · exact p2
        · exact SetTable.fits_plain_off p2
      · split <;> exact p3
      · split <;> exact le1
      · dsimp only
        exact wpAny_pure (hQ _ h' sb q)
    · refine wpAny_bind (wpAny_pure ?_)
      simp only [↓reduceIte]
      refine setT_store (L := L ++ [z]) (fun b s1 Q' q => ?_) r.at_ r.ex r.da ok1 nd1 me1 sz1 p2 p3 le1 fun h' sb q => ?_
      · exact gv b q
      · dsimp only
        exact wpAny_pure (hQ _ h' sb q)
  | some j =>
    dsimp only
    obtain ⟨hj, pj, _⟩ := List.findIdx?_eq_some_iff_getElem.mp hf
    have zin : z ∈ es.toList.map txOf := List.mem_map.mpr ⟨_, List.getElem_mem hj, (okT_is (r.ok _ (List.getElem_mem hj)) z).mp pj⟩
    refine wpAny_pure (wpAny_pure (hQ _ s.heap (Heap.SameBut.refl a s.heap) ⟨o, es, ep, t, r.at_, r.ex, r.da, r.ok, r.nd, fun k => ?_, r.sz, r.fi, r.ri, r.le⟩))
    rw [List.mem_append, List.mem_singleton]
    exact ⟨fun h => h.elim (r.me k).mp fun e => e ▸ zin, fun h => .inl ((r.me k).mpr h)⟩
end
end Nt

namespace Nt
open PySem PySem.Spec PyProof.Rows L2
section
variable {P : Program} {w : World} {A : Around} {R : Result → Shared → Prop} {it a : Addr} {fp wr : List Addr} {G : Array GenState → Array GenState → Prop} {n : Nat} {Pv : Nat → Value → Prop} {St : Nat → Shared → Prop} {L : List Str}
theorem SetL.keep {h h' : Heap} (r : SetL P w h a L) (k : ∀ o, h.get? a = some o → h'.get? a = some o) : SetL P w h' a L := by
  obtain ⟨o, es, ep, t, r⟩ := r
  exact ⟨o, es, ep, t, k o r.at_, r.ex, r.da, r.ok, r.nd, r.me, r.sz, r.fi, r.ri, r.le⟩
/-- the texts of an iterable, one after the other -/
theorem setT_loop (W : WalksS P w A.in1 it fp wr G n Pv St) (off : a ∉ fp) {xs : List Str} (hx : xs.length = n) (room : n + 1 < scanBound) (hv : ∀ i v, Pv i v → ∃ t, v = .str (xs.getD i Str.empty) t) (left : Nat) :
    ∀ {i : Nat} {s : Shared}, i + left = n → St i s → SetL P w s.heap a (xs.take i) → (∀ s', Moved (a :: wr) G s s' → SetL P w s'.heap a xs → R (.ok (.ret .none)) s') →
      codeAny (model P w) A (.builtin "set.update.loop" ⟨[.ref a, .ref it], []⟩) R s := by
  have offw : a ∉ wr := fun h => off (W.sub _ h)
  have sub : ∀ b ∈ wr, b ∈ a :: wr := fun b hb => List.mem_cons_of_mem _ hb
  induction left with
  | zero =>
    intro i s hi st r q
    rw [Nat.add_zero] at hi
    subst hi
    have rr : SetL P w s.heap a xs := by rw [← hx, List.take_length] at r; exact r
    refine codeAny_builtin PyProof.Rows.F.entry_set_update_loop ?_
    rw [Around.under_plainId PyProof.Rows.F.plain_set_update_loop _]
    show wpAny _ A.in1 (pyNext (.ref it) >>= _) _ _ s
    exact wpAny_bind (W.done s _ _ st fun s' mv => wpAny_pure (q s' (mv.mono sub) (rr.keep fun o ho => mv.heap a o offw ho)))
  | succ left ih =>
    intro i s hi st r q
    have hin : i < n := by omega
    refine codeAny_builtin PyProof.Rows.F.entry_set_update_loop ?_
    rw [Around.under_plainId PyProof.Rows.F.plain_set_update_loop _]
    show wpAny _ A.in1 (pyNext (.ref it) >>= _) _ _ s
    refine wpAny_bind (W.item i s _ _ hin st fun v s1 hp st1 mv => ?_)
    obtain ⟨tk, rfl⟩ := hv i v hp
    have r1 : SetL P w s1.heap a (xs.take i) := r.keep fun o ho => mv.heap a o offw ho
    have hlen : (xs.take i).length + 1 < scanBound := by rw [List.length_take]; omega
    have hnext : xs.take (i + 1) = xs.take i ++ [xs.getD i Str.empty] := by
      have hl : i < xs.length := by omega
      rw [List.take_succ_eq_append_getElem hl]
      simp [List.getD, hl]
    show wpAny _ A.in1 (holding [Value.str (xs.getD i Str.empty) tk] (setAdd a (.str (xs.getD i Str.empty) tk)) >>= _) _ _ s1
    refine wpAny_bind (wpAny_holding ?_)
    unfold setAdd
    refine wpAny_holding (wpAny_bind ((kS P w).pyHash (k := xs.getD i Str.empty) (strKind_is _ _ _ _) ?_))
    refine setT_add (s := { s1 with toks := s1.toks + 1 }) r1 hlen fun b h' sb r2 => ?_
    rw [← hnext] at r2
    have others : ∀ b, b ≠ a → h'.get? b = s1.heap.get? b := fun b hb => sb.2 b hb
    refine wpAny_pure ⟨plainId_quiet PyProof.Rows.F.plain_set_update_loop _, ih (by omega) (W.frame _ s1 _ _ st1 (Nat.le_succ _) fun b hb o ho => ?_) r2 fun s2 mv2 r3 => q s2 (Moved.trans W.gtrans ((mv.mono sub).then_heap (Nat.le_succ _) fun b o hb ho => ?_) mv2) r3⟩
    · exact (others b fun h => off (by rw [← h]; exact hb)).trans ho
    · exact (others b fun h => hb (by rw [h]; exact List.mem_cons_self)).trans ho
end
end Nt

namespace Nt
open PySem PySem.Spec PyProof.Rows L2
/-- a new set -/
abbrev bare0 (w : World) : Obj := { cls := .type "set", dict := none, data := .set #[] 0 (.fresh 0 0 (!w.params.followText "set-order")) }
section
variable {P : Program} {w : World} {A : Around} {E : Value → Shared → Prop} {s : Shared}
theorem setL_bare {h : Heap} {a : Addr} (ha : h.get? a = some (bare0 w)) : SetL P w h a [] :=
  ⟨_, #[], 0, _, ha, ⟨rfl, rfl, rfl⟩, rfl, fun e he => by simp at he, by simp, fun z => by simp, by decide, rfl, List.Pairwise.nil, by
    show _ ∨ (!w.params.followText "set-order") = true
    cases w.params.followText "set-order"
    · exact .inr rfl
    · exact .inl rfl⟩
theorem str_of {vs : List Value} {xs : List Str} (h : StrsAre vs xs) : ∀ (i : Nat) (v : Value), vs[i]? = some v → ∃ t, v = .str (xs.getD i Str.empty) t := by
  induction h with
  | nil => intro i v h; simp at h
  | cons z t _ ih =>
    intro i v h
    cases i with
    | zero => simp at h; exact ⟨t, h.symm⟩
    | succ i => obtain ⟨t2, e⟩ := ih i v (by simpa using h); exact ⟨t2, by simpa using e⟩
/-- set(xs), xs a list of texts -/
theorem call_setT {l : Addr} {items : Array Value} {xs : List Str} {Q : Value → Shared → Prop} (hh : A.handled = none) (hl : s.heap.IsList l items) (hi : StrsAre items.toList xs) (few : xs.length + 1 < scanBound)
    (h : ∀ (h' : Heap) (tk : Nat), SetL P w h' s.heap.objs.size xs → (∀ b o, s.heap.get? b = some o → h'.get? b = some o) → Q (.ref s.heap.objs.size) { s with heap := h', toks := tk }) :
    wpAny (model P w) A (call (.type "set") [.ref l]) Q E s := by
  have len : xs.length = items.size := by rw [← StrsAre.len_eq hi, Array.length_toList]
  obtain ⟨cc, tl, k1⟩ := PySem.F.called_set.mro
  have k2 := PySem.F.called_set.made
  have k3 := PySem.F.called_set.sub
  refine wpAny_call (codeAny_of_tree ?_)
  show wpAny _ _ (callAny (.type "set") _) _ _ _
  refine wpAny_pure ⟨Code.quiet_builtin _ (by decide +kernel), codeAny_builtin PySem.F.entry_type_call ?_⟩
  rw [Around.under_plain (weight_type_call_type "set" [.ref l] []) rfl]
  have k4 := PySem.F.called_set.notType
  have k5 := PySem.F.called_set.canCreate
  have k6 := PySem.F.typeCall_set_1 (.ref l)
  repeat any_goals first | assumption | wp_step
  have new : (s.heap.push (bare0 w)).get? s.heap.objs.size = some (bare0 w) := Heap.get?_push_size _ rfl
  refine codeAny_mono (code_set_led1 (.ref l) (E := E) (Q₁ := fun obj s1 => obj = .ref s.heap.objs.size ∧ s1 = { s with heap := s.heap.push (bare0 w) }) ⟨rfl, rfl⟩) fun r s1 hr => ?_
  rcases r with er | fl
  · exact hr
  rcases fl with _ | _ | _ | obj
  · exact hr.elim
  · exact hr.elim
  · exact hr.elim
  obtain ⟨rfl, rfl⟩ := hr
  have tyS : Shared.TypeIs { s with heap := s.heap.push (bare0 w) } (.ref s.heap.objs.size) "set" := ⟨_, new, rfl⟩
  have k7 := PySem.F.called_set.init.lookup
  have k8 := PySem.F.called_set.init.bind (.ref s.heap.objs.size)
  repeat any_goals first | assumption | wp_step
  have keep : ∀ (b : Addr) (o : Obj), s.heap.get? b = some o → b ≠ s.heap.objs.size := fun b o e => Nat.ne_of_lt (Heap.lt_size e)
  let Z : Value → Shared → Prop := fun r s2 => r = .none ∧ ∃ h' tk, s2 = { s with heap := h', toks := tk } ∧ SetL P w h' s.heap.objs.size xs ∧ ∀ b o, s.heap.get? b = some o → h'.get? b = some o
  refine codeAny_mono (codeAny_call_builtin (R := wants Z E) PySem.F.called_set.init.plain PySem.F.entry_set_init (check_set_init_1 tyS ?_)) fun r s2 hr => ?_
  · obtain ⟨⟨oc, od, dt, osl⟩, ho, hc, nl, hd⟩ := hl
    simp only at hc hd
    subst hc hd
    have lS := Heap.lt_size ho
    have here : (s.heap.push (bare0 w)).get? l = some { cls := .type "list", dict := od, data := .seq items nl, slots := osl } := Heap.get?_push_of_some _ ho
    have il : (s.heap.push (bare0 w)).IsList l items := ⟨_, here, rfl, nl, rfl⟩
    have k9 := PySem.F.sub_list_set
    have k10 := PySem.F.sub_list_frozenset
    have k11 : (Value.type "list" == Value.type "dict") = false := by decide
    unfold Builtin.«set.__init__» noKeywords Builtin.Frozenset.updateFrom
    generalize hPI : pyIter = PI
    wp_walk
    subst hPI
    refine wpAny_pyIter_list il (wpAny_bind (wpAny_runValue ?_))
    have free3 : A.in1.in1.in1.handled = none := by simp [hh]
    have size1 : (s.heap.push (bare0 w)).objs.size = s.heap.objs.size + 1 := Heap.size_push ..
    have far : l ≠ (s.heap.push (bare0 w)).objs.size := by rw [size1]; exact Nat.ne_of_lt (Nat.lt_succ_of_lt lS)
    have off : s.heap.objs.size ∉ [(s.heap.push (bare0 w)).objs.size, l] := by
      rw [size1]
      intro z
      simp only [List.mem_cons, List.not_mem_nil, or_false] at z
      rcases z with z | z
      · exact absurd z (Nat.ne_of_lt (Nat.lt_succ_self _))
      · exact absurd z (Nat.ne_of_gt lS)
    have its : ∀ (i : Nat) (v : Value), items[i]? = some v → ∃ t, v = .str (xs.getD i Str.empty) t := fun i v hv => str_of hi i v (by rw [Array.getElem?_toList]; exact hv)
    refine setT_loop ((Walks.list free3 _ l far items).toS) off len (by rw [← len]; exact few) its items.size (i := 0) (by omega) ⟨⟨_, Heap.get?_push_size _ rfl, rfl, rfl⟩, il.push _⟩ ?_ ?_
    · rw [List.take_zero]
      exact setL_bare (Heap.get?_push_of_some _ new)
    · intro s3 mv r3
      obtain ⟨h3, g3, d3, t3, o3⟩ := s3
      have eg : g3 = s.gens := mv.gens
      have ed : d3 = s.drawn := mv.drawn
      have eo : o3 = s.os := mv.os
      subst eg ed eo
      show wpAny _ _ _ _ _ _
      refine wpAny_pure ?_
      show wpAny _ _ (ret Value.none) _ _ _
      refine wpAny_pure ⟨rfl, h3, t3, rfl, r3, fun b o e => ?_⟩
      have hb := Heap.lt_size e
      refine mv.heap b o (fun z => ?_) (Heap.get?_push_of_some _ (Heap.get?_push_of_some _ e))
      simp only [List.mem_cons, List.not_mem_nil, or_false] at z
      rcases z with z | z
      · exact keep b o e z
      · rw [size1] at z
        exact absurd z (Nat.ne_of_lt (Nat.lt_succ_of_lt hb))
  · rcases r with er | fl
    · exact hr
    rcases fl with _ | _ | _ | v
    · exact hr.elim
    · exact hr.elim
    · exact hr.elim
    obtain ⟨rfl, h3, t3, rfl, r3, kp⟩ := hr
    repeat any_goals first | assumption | wp_step
    exact h _ _ r3 kp
end
end Nt

namespace Nt
open PySem PySem.Spec PyProof.Rows L2
section
variable {P : Program} {w : World} {A : Around} {E : Value → Shared → Prop} {s : Shared}
/-- sorted(a set of texts) -/
theorem sorted_setT {a : Addr} {L : List Str} {Q : Value → Shared → Prop} (R : SetL P w s.heap a L) (hh : A.handled = none)
    (hQ : ∀ s' p (out : Array Value) (c : Nat) (ys : List Str), (∀ b o, s.heap.get? b = some o → s'.heap.get? b = some o) → s'.gens = s.gens → s'.os = s.os → s.heap.objs.size ≤ p →
      s'.heap.get? p = some (seqObj "list" out c) → StrsAre out.toList ys → sortedS ys = true → ys.Nodup → (∀ z, z ∈ ys ↔ z ∈ L) → Q (.ref p) s') :
    wpAny (model P w) A (call (.builtin "sorted") [.ref a]) Q E s := by
  obtain ⟨o, es, ep, t, r⟩ := R
  refine Calls.call_function_entry kind_sorted plain_sorted entry_sorted (args_sorted1 _) ?_
  unfold Builtin.«sorted»
  refine wpAny_bind (m := checkCount "sorted" 1 1 _) (wpAny_pure (wpAny_bind (collect_set (A := A.in1) hh ⟨o, r.at_, r.ex.1, r.da⟩ r.fi r.sz r.ri r.le fun s1 vs kp le1 g1 o1 pm => ?_)))
  have lens : vs.length = es.size := by rw [pm.length_eq, List.length_map, Array.length_toList]
  have small : vs.length ≤ sizeLine := by rw [lens]; exact fits_of_scanBound r.sz
  have hstr : ∀ (l : List (Int × Value)), (∀ e ∈ l, OkT P w e) → StrsAre (l.map (·.2)) (l.map txOf) := by
    intro l
    induction l with
    | nil => intro _; exact .nil
    | cons e l ih =>
      intro h
      obtain ⟨z, tk, h1, _⟩ := h e List.mem_cons_self
      have e2 : txOf e = z := by unfold txOf; rw [h1]
      rw [List.map_cons, List.map_cons, h1, e2]
      exact .cons z tk (ih fun x hx => h x (List.mem_cons_of_mem _ hx))
  obtain ⟨xs, hxs, px⟩ : ∃ xs, StrsAre vs xs ∧ xs.Perm (es.toList.map txOf) := by
    have key : ∀ {us vs : List Value}, vs.Perm us → ∀ {ys}, StrsAre us ys → ∃ xs, StrsAre vs xs ∧ xs.Perm ys := by
      intro us vs p
      induction p with
      | nil => intro ys h; cases h; exact ⟨[], .nil, .nil⟩
      | cons v _ ih =>
        intro ys h
        cases h with
        | cons z t h =>
          obtain ⟨xs, h1, h2⟩ := ih h
          exact ⟨z :: xs, .cons z t h1, h2.cons z⟩
      | swap v u l =>
        intro ys h
        cases h with
        | cons z t h => cases h with
          | cons z2 t2 h => exact ⟨z2 :: z :: _, .cons z2 t2 (.cons z t h), .swap z z2 _⟩
      | trans _ _ ih1 ih2 =>
        intro ys h
        obtain ⟨xs, h1, h2⟩ := ih2 h
        obtain ⟨xs2, h3, h4⟩ := ih1 h1
        exact ⟨xs2, h3, h4.trans h2⟩
    exact key pm (hstr _ r.ok)
  refine wpAny_bind (wpAny_newList ?_ small)
  have hoL : (s1.heap.push (seqObj "list" vs.toArray 0)).get? s1.heap.objs.size = some (seqObj "list" vs.toArray 0) := Heap.get?_push_size _ rfl
  refine wpAny_bind (wpAny_holding (wpAny_call_entry slot_list_sort ⟨_, hoL, rfl⟩ entry_list_sort (list_sort_treeKAny strKind_oneLt hoL hxs.keysOf (fun v1 v2 rest e => keyKind_strs (by rw [← e]; exact hxs)) small fun st hp hs => ⟨_, rfl, ?_⟩) (args_list_sort _)))
  obtain ⟨ys, y1, y2, y3⟩ := sorted_out_str hxs hp hs
  obtain ⟨c, hc⟩ := sortedHeap_at (vs := vs) (out := (arrOf st).map (·.2)) hoL
  have py := y2.trans px
  refine wpAny_pure ⟨_, rfl, hQ _ s1.heap.objs.size _ c ys (fun b u e => ?_) g1 o1 le1 hc y1 y3 (py.nodup_iff.mpr r.nd) fun z => py.mem_iff.trans (r.me z).symm⟩
  have e1 := kp b u e
  have lt := Heap.lt_size e1
  show (sortedHeap (s1.heap.push (seqObj "list" vs.toArray 0)) s1.heap.objs.size vs _).get? b = some u
  rw [sortedHeap_old (Nat.ne_of_lt lt) (by rw [size_push']; exact Nat.lt_succ_of_lt lt)]
  exact Heap.get?_push_of_some _ e1
end
/-! ### .. in the hand layer -/
def SetTO (P : Program) (w : World) (a : Addr) (L : List Str) : HO := .ext fun h => SetL P w h a L
section
variable {X : Cx}
theorem setTO_ok {P : Program} {w : World} {H : Hp} {h : Heap} {a : Addr} {L : List Str} (R : SetL P w h a L) : ObjOk P w H h a (SetTO P w a L) := by
  have ⟨o, _, _, _, r⟩ := R
  exact ⟨R, ⟨o, r.at_⟩, fun h1 h2 p k => SetL.keep p k⟩
/-- set(a list of texts) -/
def rSetT (K : PySem.W.Frag) (P : Program) (w : World) : List V → Hp → VK → Prop := fun vs H Q => ∃ (a : Addr) (xs : List Str), vs = [V.ref a] ∧ SqL K H a (xs.map V.str) ∧ xs.length + 1 < scanBound ∧ ∀ p, H p = none → Q (.ref p) (upd H p (SetTO P w p xs))
theorem cr_setT (hc : X.calm = true) : CallR X (.type "set") (rSetT X.K X.prog X.w) := by
  intro pins s σ H vs us Q I r h
  obtain ⟨a, xs, rfl, hs, few, q⟩ := h
  obtain ⟨its, rv, hl, _⟩ := I.list hs
  rw [Vals.ref1 r]
  refine call_setT (I.ok.hd hc) hl.isList (by simpa using rv.strs) few fun h' tk R kp => ?_
  exact ⟨.ref _, upd H s.heap.objs.size (SetTO X.prog X.w s.heap.objs.size xs), I.laid (t' := tk) kp (Nat.le_refl _) (setTO_ok R), rfl, q _ (I.hok.fresh (Nat.le_refl _))⟩
def rSortT (P : Program) (w : World) : List V → Hp → VK → Prop := fun vs H Q => ∃ (a : Addr) (L : List Str), vs = [V.ref a] ∧ H a = some (SetTO P w a L) ∧ L.length ≤ 1000 ∧
  ∀ (ys : List Str) (p : Addr), sortedS ys = true → ys.Nodup → (∀ z, z ∈ ys ↔ z ∈ L) → H p = none → Q (.ref p) (upd H p (.lst (ys.map V.str)))
theorem cr_sortT (hc : X.calm = true) : CallR X (.builtin "sorted") (rSortT X.prog X.w) := by
  intro pins s σ H vs us Q I r h
  obtain ⟨a, L, rfl, ha, few, q⟩ := h
  have R : SetL X.prog X.w s.heap a L := (I.hok a _ ha).1
  rw [Vals.ref1 r]
  refine sorted_setT R (I.ok.hd hc) fun s' p out c ys kp hg ho hp hat hst hso hnd hme => ?_
  have hn : H p = none := I.hok.fresh hp
  have few2 : ys.length ≤ L.length := by
    have key : ∀ {l m : List Str}, l.Nodup → (∀ x ∈ l, x ∈ m) → l.length ≤ m.length := by
      intro l
      induction l with
      | nil => intro m _ _; exact Nat.zero_le _
      | cons x l ih =>
        intro m hn h
        obtain ⟨h1, h2⟩ := List.nodup_cons.mp hn
        have h3 := ih (m := m.erase x) h2 fun y hy => (List.mem_erase_of_ne fun e => h1 (by rw [← e]; exact hy)).mpr (h y (List.mem_cons_of_mem _ hy))
        have h5 := List.length_erase_of_mem (h x List.mem_cons_self)
        have h6 := List.length_pos_of_mem (h x List.mem_cons_self)
        simp only [List.length_cons]
        omega
    exact key hnd fun x hx => (hme x).mp hx
  have hl : (ys.map V.str).length ≤ sizeLine := by rw [List.length_map, sizeLine_eq]; omega
  have J : Inv X pins σ (upd H p (.lst (ys.map V.str))) { s with heap := s'.heap, gens := s'.gens, drawn := s'.drawn, toks := s'.toks } :=
    I.call (ch := []) (Un.laid kp hp hn) (I.hok.laid kp hp ⟨hl, out.toList, c, vals_of_strs hst, hat⟩) (by rw [hg]; exact I.bare) fun _ z => nomatch z
  have e : s' = { s with heap := s'.heap, gens := s'.gens, drawn := s'.drawn, toks := s'.toks } := by
    obtain ⟨h1, g1, d1, t1, o1⟩ := s'
    obtain ⟨h2, g2, d2, t2, o2⟩ := s
    simp only at ho
    subst ho
    rfl
  rw [e]
  exact ⟨.ref p, _, J, rfl, q ys p hso hnd hme hn⟩
end
end Nt

namespace Nt
open PySem PySem.Spec PySem.W PyProof.Rows L2
/-! ### a key def: x.count(a text) -/
section
variable {P : Program} {w : World} {K : PySem.W.Frag} {mg : Str → Option Value} {base : Heap} {A : Around} {outer : List Env} {s0 : Shared} {H : Hp} {f : Addr} {fd : FuncData} {nm qual x c z : Str} {params : Arguments} {scope : Scope} {p1 p2 p3 p4 p5 : Pos} {k0 : Nat} {t : Tok}
abbrev cntBody (x c : Str) (k0 : Nat) (p1 p2 p3 p4 p5 : Pos) : List Stmt := [.Return (some (.Call (.Attribute (.Name x p1) "count" p2) [.Constant (.str c) k0 p3] [] p4)) p5]
theorem count_key (F : FunD K nm qual params (cntBody x c k0 p1 p2 p3 p4 p5) scope [] [] f fd) (S : FnScope [x] [x] scope) (hv : scope.names.lookup x = some .local) (hd : (x == ("__debug__" : Str)) = false) (hline : (p2.endLine == p4.line) = true) (hr : Room 1 A) (e0 : Env0 P w K mg base A outer s0 H)
    (hb : BindsTo s0 fd ⟨[.str z t], []⟩ [(x, .str z t)]) : wpAny (model P w) A (call (.ref f) [.str z t]) (PySem.W.KeyPure (.int (Txt.count z c)) s0) (fun _ _ => False) s0 := by
  obtain ⟨oc, od, dV, kV, doc, pm, an, cdv, ct, osl, rfl, lk, hcd, _, _⟩ := F.ex
  have KX : K.In s0.heap := e0.mod.kin.keeps fun b o e => (e0.bs b o e).1
  have lim : s0.heap.NoLimit := e0.mod.nolimit.keeps fun b o e => (e0.bs b o e).1
  refine wpAny_call (codeAny_call_function hr.depth (KX _ _ lk) rfl S.co S.gen rfl (PySem.W.codeRec_of KX hcd) (hb _ _ _ _ ?_))
  refine wpAny_newFunctionEnv_cells S.kind (fun y hy => .inl (by rw [List.mem_singleton.mp hy]; exact hv)) fun env he s1 x1 => ?_
  subst he
  refine ⟨lim.keeps x1.toInCall.keep, codeAny_func ?_⟩
  have I : Inv (cxOf (L2.CX P w) P w K mg base [x] qual scope f cdv A outer s0 H (fun _ _ _ => False)) [] (start [x] [.str z]) H s1 := inv_start S hr.hd e0 rfl (.cons ⟨t, rfl⟩ .nil) x1
  obtain ⟨h1, tk, rfl, hk⟩ := x1.done
  have X0 := cxOf (L2.CX P w) P w K mg base [x] qual scope f cdv A outer s0 H (fun _ _ _ => False)
  refine wpAny_execs_cons (wpAny_Return_some (wpAny_Call_method_late rfl rfl hline rfl ?_))
  obtain ⟨m, hn, hl⟩ := I.loc
  obtain ⟨u, r, l⟩ := hl 0 x (.str z) rfl rfl (.inl hv)
  have here : ∀ {Q : Value → Shared → Prop} {E : Value → Shared → Prop}, Q u { s0 with heap := h1, toks := tk } → wpAny (model P w) (A.deeper (envOfC qual scope s0.heap.objs.size f cdv)) (eval (.Name x p1) (envOfC qual scope s0.heap.objs.size f cdv)) Q E { s0 with heap := h1, toks := tk } := fun {Q E} q => by
    rcases l with ⟨hk, hm⟩ | ⟨hk, c, hc, hcell⟩
    · exact wpAny_Name (wpAny_loadName_local I.ok.kind hk hn hm q) hd
    · have e : (envOfC qual scope s0.heap.objs.size f cdv).kindOf x = some .local := hv
      rcases hk with hk | hk
      · have hk2 : (envOfC qual scope s0.heap.objs.size f cdv).kindOf x = some .cell := hk
        rw [hk2] at e; cases e
      · have hk2 : (envOfC qual scope s0.heap.objs.size f cdv).kindOf x = some .free := hk
        rw [hk2] at e; cases e
  refine here ?_
  obtain ⟨t2, rfl⟩ := r
  refine ⟨"str", "str.count", PySem.F.plainAttrs_str, PySem.F.slot_str_count, PySem.F.type_str_count, typeIs_str _ z t2, (fun _ e => nomatch e), ?_⟩
  refine Calls.callWith_builtin rfl (Calls.evalArgs_plain ?_)
  refine PyProof.Rows.args_cons (wpAny_Constant_str (PyProof.Rows.args_nil (PySem.SC.count ?_))) rfl
  exact ⟨h1, _, rfl, hk, .int _ _⟩
end
/-! ### sorted(texts, key=such a def) -/
theorem pe_gref {X : Cx} {x : Str} {f : Addr} {pos : Pos} (hg : Gl X x) (hm : X.mg x = some (.ref f)) (hdb : (x == ("__debug__" : Str)) = false := by decide) : PE X (.Name x pos) (tC (.ref f)) :=
  ⟨fun pins s σ H Q I h => ld_glob I hg hm ⟨.ref f, H, I, rfl, h⟩ hdb⟩
def leK (g : Str → Int) : Str → Str → Bool := fun a b => decide (g a ≤ g b)
def rSortKey (K : PySem.W.Frag) (f : Addr) (g : Str → Int) : List V → List V → Hp → VK → Prop := fun vs zs H Q => ∃ (a : Addr) (xs : List Str), vs = [V.ref a] ∧ zs = [V.ref f] ∧ SqL K H a (xs.map V.str) ∧ xs.length ≤ 1000 ∧
  ∀ p, H p = none → Q (.ref p) (upd H p (.lst ((xs.mergeSort (leK g)).map V.str)))
section
variable {X : Cx} {nm qual x c : Str} {params : Arguments} {scope : Scope} {p1 p2 p3 p4 p5 : Pos} {k0 : Nat} {f : Addr} {fd : FuncData}
theorem cr_sortKey (F : FunD X.K nm qual params (cntBody x c k0 p1 p2 p3 p4 p5) scope [] [] f fd) (S : FnScope [x] [x] scope) (hv : scope.names.lookup x = some .local) (hd : (x == ("__debug__" : Str)) = false) (hline : (p2.endLine == p4.line) = true) (hr : Room 1 X.A.in1.in1) (hu : X.A.units + 65 < cLine)
    (hb : ∀ (s : Shared) (v : Value), BindsTo s fd ⟨[v], []⟩ [(x, v)]) : CallRK X (.builtin "sorted") ["key"] (rSortKey X.K f fun z => Txt.count z c) := by
  intro pins s σ H vs zs us ws Q I r rz h
  obtain ⟨a, xs, rfl, rfl, hs, few, q⟩ := h
  obtain ⟨its, rv, hl, _⟩ := I.list hs
  rw [Vals.ref1 r, Vals.ref1 rz]
  have hst : StrsAre its xs := by simpa using rv.strs
  have each : PySem.W.EachIs (fun (v : Value) (z : Str) => ∃ t, v = .str z t) its xs := by
    have key : ∀ {its : List Value} {xs : List Str}, StrsAre its xs → PySem.W.EachIs (fun (v : Value) (z : Str) => ∃ t, v = .str z t) its xs := by
      intro its xs h
      induction h with
      | nil => exact .nil
      | cons z t _ ih => exact .cons ⟨t, rfl⟩ ih
    exact key hst
  have hle : (PySem.W.dataLe false fun z : Str => PyData.int (Txt.count z c)) = leK fun z => Txt.count z c := PySem.W.dataLe_int _
  refine PySem.W.sorted_key_data (b := false) (fun z : Str => PyData.int (Txt.count z c)) hl.isList each (PySem.W.AllAlike.of fun _ _ => by simp [PySem.W.alike]) (PySem.W.Sortable.others fun z => ⟨nofun, fun l => nofun⟩) (by rw [sizeLine_eq]; omega) (fun z _ => ?_) (ksk_s1 _ _) (fun _ => ksk_l1 _ _) (fun _ => ksk_t1 _ _) (fun v z hv2 _ h tk kp => ?_) fun out c' h' tk kp _ hD hlen eo => ?_
  · have e : (PyData.int (Txt.count z c)).depth = 0 := by simp [PyData.depth]
    omega
  · obtain ⟨t, rfl⟩ := hv2
    have I2 : Inv X pins σ H { s with heap := h, toks := tk } := I.kept fun b o e => kp b o e
    exact count_key F S hv hd hline hr (I2.env0.in1.in1) (hb _ _)
  · rw [hle] at eo
    have hso : StrsAre out (xs.mergeSort (leK fun z => Txt.count z c)) := by
      generalize xs.mergeSort (leK fun z => Txt.count z c) = ys at eo
      clear hlen hD
      induction eo with
      | nil => exact .nil
      | cons h _ ih =>
        obtain ⟨t, rfl⟩ := h
        exact .cons _ t ih
    have hl2 : ((xs.mergeSort (leK fun z => Txt.count z c)).map V.str).length ≤ sizeLine := by rw [List.length_map, List.length_mergeSort, sizeLine_eq]; omega
    exact ⟨.ref _, upd H (s.heap.objs.size + 1) (.lst ((xs.mergeSort (leK fun z => Txt.count z c)).map V.str)), I.laid (t' := tk) kp (Nat.le_succ _) ⟨hl2, out, c', vals_of_strs hso, hD⟩, rfl, q _ (I.hok.fresh (Nat.le_succ _))⟩
end
/-! ### sorted(pairs of a number and a text) -/
def rCountS : V → List V → Hp → VK → Prop := fun x xs H Q => ∃ a b, x = .str a ∧ xs = [.str b] ∧ Q (.int (Txt.count a b)) H
theorem mt_countS {X : Cx} : MtR X "str.count" rCountS := mt_count
abbrev eG (g : List Nat → Int) (l : List Nat) : D := .tup [.int (g l), .str (T l)]
def leP (g : List Nat → Int) : List Nat → List Nat → Bool := PySem.W.dataLe false fun l => PyData.tuple [.int (g l), .str (T l)]
def rSortPT (K : PySem.W.Frag) : List V → Hp → VK → Prop := fun vs H Q => ∃ (M : Addr → Prop) (I : Hp → Prop) (x : V) (L : List (List Nat)) (g : List Nat → Int), Wf M I ∧ I H ∧ vs = [x] ∧ Rep K M H x (.lst (L.map (eG g))) ∧ L.length ≤ 1000 ∧ (∀ l ∈ L, ∀ c ∈ l, c < 128) ∧
  ∀ y H', Ex M H H' → I H' → Rep K M H' y (.lst ((L.mergeSort (leP g)).map (eG g))) → Q y H'
theorem cr_sortPT {X : Cx} (hu : X.A.units + 65 < cLine) : CallR X (.builtin "sorted") (rSortPT X.K) := by
  intro pins s σ H vs us Q I r h
  obtain ⟨M, J, x, L, g, hw, hJ, rfl, hx, few, hc, q⟩ := h
  cases hx with
  | @lst a xs _ ha na rs =>
    obtain ⟨its, rv, hl, _⟩ := I.list (SqL.of ha)
    rw [Vals.ref1 r]
    let R : Value → List Nat → Prop := fun v l => (∃ x : V, RelV x v ∧ Rep X.K M H x (eG g l)) ∧ l ∈ L
    have each : EachIs R its L ∧ EachIs (fun v l => ∃ as, Reads s.heap v (PyData.tuple [.int (g l), .str (T l)]) as) its L := by
      have key : ∀ {L0 : List (List Nat)} {xs : List V} {its : List Value}, (∀ l ∈ L0, l ∈ L) → Vals xs its → Reps X.K M H xs (L0.map (eG g)) → EachIs R its L0 ∧ EachIs (fun v l => ∃ as, Reads s.heap v (PyData.tuple [.int (g l), .str (T l)]) as) its L0 := by
        intro L0
        induction L0 with
        | nil =>
          intro xs its _ rv rs
          cases rs
          cases rv
          exact ⟨.nil, .nil⟩
        | cons l L0 ih =>
          intro xs its hin rv rs
          cases rs with
          | cons r1 r2 =>
            cases rv with
            | cons v1 v2 =>
              obtain ⟨i1, i2⟩ := ih (fun l hl => hin l (List.mem_cons_of_mem _ hl)) v2 r2
              have hl := hin l List.mem_cons_self
              have ok : eqOk 1 (eG g l) = true := by simp only [eqOk, eqAll, ok_T (hc l hl), Bool.and_self]
              obtain ⟨as, ra⟩ := Dp.reads I _ _ _ (dp_D r1 ok).1 v1
              exact ⟨.cons ⟨⟨_, v1, r1⟩, hl⟩ i1, .cons ⟨as, ra⟩ i2⟩
      exact key (fun _ h => h) rv rs
    refine sorted_data (enc := fun l => PyData.tuple [.int (g l), .str (T l)]) hl.isList each.1 each.2 (AllAlike.of fun _ _ => by simp [alike, alikeAll]) (Sortable.tuples fun _ => ⟨_, _, rfl⟩) (by rw [sizeLine_eq]; omega) (fun l _ => ?_) fun out ho eo => ?_
    · have e : (PyData.tuple [.int (g l), .str (T l)]).depth = 1 := by simp [PyData.depth, PyData.depthAll]
      omega
    · have back : ∃ ys, Vals ys out ∧ Reps X.K M H ys ((L.mergeSort (leP g)).map (eG g)) := by
        have key : ∀ {Z : List (List Nat)} {out : List Value}, EachIs R out Z → ∃ ys, Vals ys out ∧ Reps X.K M H ys (Z.map (eG g)) := by
          intro Z out h
          induction h with
          | nil => exact ⟨[], .nil, .nil⟩
          | cons h _ ih =>
            obtain ⟨ys, h1, h2⟩ := ih
            obtain ⟨⟨y, h3, h4⟩, _⟩ := h
            exact ⟨y :: ys, .cons h3 h1, .cons h4 h2⟩
        exact key eo
      obtain ⟨ys, v1, r1⟩ := back
      have hlen : ys.length ≤ sizeLine := by rw [r1.length, List.length_map, List.length_mergeSort, sizeLine_eq]; omega
      obtain ⟨ep, he'⟩ := PyProof.Rows.sortedAll_at s.heap its (List.toArray out)
      have hp : H (s.heap.objs.size + 1) = none := I.hok.fresh (Nat.le_succ _)
      have sm := same_upd (o := .lst ys) hp
      exact ⟨.ref _, upd H (s.heap.objs.size + 1) (.lst ys), I.laid (t' := s.toks) (fun _ _ => PyProof.Rows.sortedAll_old) (Nat.le_succ _) ⟨hlen, out, ep, v1, he'⟩, rfl, q _ _ (Ex.of sm) (hw.same sm hJ) (.lst upd_same (hw.fresh hJ hp) (r1.same sm))⟩
end Nt

namespace Nt
open PySem PySem.Spec PyProof.Rows L2
section
variable {P : Program} {w : World} {A : Around} {E : Value → Shared → Prop} {s : Shared}
/-- set(xs), xs a tuple of texts -/
theorem call_setTu {l : Addr} {items : Array Value} {xs : List Str} {Q : Value → Shared → Prop} (hh : A.handled = none) (hl : s.heap.IsTuple l items) (hi : StrsAre items.toList xs) (few : xs.length + 1 < scanBound)
    (h : ∀ (h' : Heap) (tk : Nat), SetL P w h' s.heap.objs.size xs → (∀ b o, s.heap.get? b = some o → h'.get? b = some o) → Q (.ref s.heap.objs.size) { s with heap := h', toks := tk }) :
    wpAny (model P w) A (call (.type "set") [.ref l]) Q E s := by
  have len : xs.length = items.size := by rw [← StrsAre.len_eq hi, Array.length_toList]
  obtain ⟨cc, tl, k1⟩ := PySem.F.called_set.mro
  have k2 := PySem.F.called_set.made
  have k3 := PySem.F.called_set.sub
  refine wpAny_call (codeAny_of_tree ?_)
  show wpAny _ _ (callAny (.type "set") _) _ _ _
  refine wpAny_pure ⟨Code.quiet_builtin _ (by decide +kernel), codeAny_builtin PySem.F.entry_type_call ?_⟩
  rw [Around.under_plain (weight_type_call_type "set" [.ref l] []) rfl]
  have k4 := PySem.F.called_set.notType
  have k5 := PySem.F.called_set.canCreate
  have k6 := PySem.F.typeCall_set_1 (.ref l)
  repeat any_goals first | assumption | wp_step
  have new : (s.heap.push (bare0 w)).get? s.heap.objs.size = some (bare0 w) := Heap.get?_push_size _ rfl
  refine codeAny_mono (code_set_led1 (.ref l) (E := E) (Q₁ := fun obj s1 => obj = .ref s.heap.objs.size ∧ s1 = { s with heap := s.heap.push (bare0 w) }) ⟨rfl, rfl⟩) fun r s1 hr => ?_
  rcases r with er | fl
  · exact hr
  rcases fl with _ | _ | _ | obj
  · exact hr.elim
  · exact hr.elim
  · exact hr.elim
  obtain ⟨rfl, rfl⟩ := hr
  have tyS : Shared.TypeIs { s with heap := s.heap.push (bare0 w) } (.ref s.heap.objs.size) "set" := ⟨_, new, rfl⟩
  have k7 := PySem.F.called_set.init.lookup
  have k8 := PySem.F.called_set.init.bind (.ref s.heap.objs.size)
  repeat any_goals first | assumption | wp_step
  have keep : ∀ (b : Addr) (o : Obj), s.heap.get? b = some o → b ≠ s.heap.objs.size := fun b o e => Nat.ne_of_lt (Heap.lt_size e)
  let Z : Value → Shared → Prop := fun r s2 => r = .none ∧ ∃ h' tk, s2 = { s with heap := h', toks := tk } ∧ SetL P w h' s.heap.objs.size xs ∧ ∀ b o, s.heap.get? b = some o → h'.get? b = some o
  refine codeAny_mono (codeAny_call_builtin (R := wants Z E) PySem.F.called_set.init.plain PySem.F.entry_set_init (check_set_init_1 tyS ?_)) fun r s2 hr => ?_
  · obtain ⟨⟨oc, od, dt, osl⟩, ho, hc, nl, hd⟩ := hl
    simp only at hc hd
    subst hc hd
    have lS := Heap.lt_size ho
    have here : (s.heap.push (bare0 w)).get? l = some { cls := .type "tuple", dict := od, data := .seq items nl, slots := osl } := Heap.get?_push_of_some _ ho
    have il : (s.heap.push (bare0 w)).IsTuple l items := ⟨_, here, rfl, nl, rfl⟩
    have k9 := PySem.F.sub_tuple_set
    have k10 := PySem.F.sub_tuple_frozenset
    have k11 : (Value.type "tuple" == Value.type "dict") = false := by decide
    unfold Builtin.«set.__init__» noKeywords Builtin.Frozenset.updateFrom
    generalize hPI : pyIter = PI
    wp_walk
    subst hPI
    refine wpAny_pyIter_tuple il (wpAny_bind (wpAny_runValue ?_))
    have free3 : A.in1.in1.in1.handled = none := by simp [hh]
    have size1 : (s.heap.push (bare0 w)).objs.size = s.heap.objs.size + 1 := Heap.size_push ..
    have far : l ≠ (s.heap.push (bare0 w)).objs.size := by rw [size1]; exact Nat.ne_of_lt (Nat.lt_succ_of_lt lS)
    have off : s.heap.objs.size ∉ [(s.heap.push (bare0 w)).objs.size, l] := by
      rw [size1]
      intro z
      simp only [List.mem_cons, List.not_mem_nil, or_false] at z
      rcases z with z | z
      · exact absurd z (Nat.ne_of_lt (Nat.lt_succ_self _))
      · exact absurd z (Nat.ne_of_gt lS)
    have its : ∀ (i : Nat) (v : Value), items[i]? = some v → ∃ t, v = .str (xs.getD i Str.empty) t := fun i v hv => str_of hi i v (by rw [Array.getElem?_toList]; exact hv)
    refine setT_loop ((Walks.tuple free3 _ l far items).toS) off len (by rw [← len]; exact few) its items.size (i := 0) (by omega) ⟨⟨_, Heap.get?_push_size _ rfl, rfl, rfl⟩, il.push _⟩ ?_ ?_
    · rw [List.take_zero]
      exact setL_bare (Heap.get?_push_of_some _ new)
    · intro s3 mv r3
      obtain ⟨h3, g3, d3, t3, o3⟩ := s3
      have eg : g3 = s.gens := mv.gens
      have ed : d3 = s.drawn := mv.drawn
      have eo : o3 = s.os := mv.os
      subst eg ed eo
      show wpAny _ _ _ _ _ _
      refine wpAny_pure ?_
      show wpAny _ _ (ret Value.none) _ _ _
      refine wpAny_pure ⟨rfl, h3, t3, rfl, r3, fun b o e => ?_⟩
      have hb := Heap.lt_size e
      refine mv.heap b o (fun z => ?_) (Heap.get?_push_of_some _ (Heap.get?_push_of_some _ e))
      simp only [List.mem_cons, List.not_mem_nil, or_false] at z
      rcases z with z | z
      · exact keep b o e z
      · rw [size1] at z
        exact absurd z (Nat.ne_of_lt (Nat.lt_succ_of_lt hb))
  · rcases r with er | fl
    · exact hr
    rcases fl with _ | _ | _ | v
    · exact hr.elim
    · exact hr.elim
    · exact hr.elim
    obtain ⟨rfl, h3, t3, rfl, r3, kp⟩ := hr
    repeat any_goals first | assumption | wp_step
    exact h _ _ r3 kp
end
section
variable {X : Cx}
/-- set(a list or a tuple of texts) -/
def rSetU (K : PySem.W.Frag) (P : Program) (w : World) : List V → Hp → VK → Prop := fun vs H Q => ∃ (a : Addr) (xs : List Str), vs = [V.ref a] ∧ (SqL K H a (xs.map V.str) ∨ SqT K H a (xs.map V.str)) ∧ xs.length + 1 < scanBound ∧ ∀ p, H p = none → Q (.ref p) (upd H p (SetTO P w p xs))
theorem cr_setU (hc : X.calm = true) : CallR X (.type "set") (rSetU X.K X.prog X.w) := by
  intro pins s σ H vs us Q I r h
  obtain ⟨a, xs, rfl, hs | hs, few, q⟩ := h
  · exact cr_setT hc pins s σ H _ us Q I r ⟨a, xs, rfl, hs, few, q⟩
  · obtain ⟨its, rv, hl, _⟩ := I.tuple hs
    rw [Vals.ref1 r]
    refine call_setTu (I.ok.hd hc) (show s.heap.IsTuple a its.toArray from hl) (by simpa using rv.strs) few fun h' tk R kp => ?_
    exact ⟨.ref _, upd H s.heap.objs.size (SetTO X.prog X.w s.heap.objs.size xs), I.laid (t' := tk) kp (Nat.le_refl _) (setTO_ok R), rfl, q _ (I.hok.fresh (Nat.le_refl _))⟩
end
end Nt

namespace Nt
open PySem PySem.Spec PyProof.Rows L2
section
variable {K : PySem.W.Frag} {M : Addr → Prop} {I : Hp → Prop} {J : It} {G : Hp → Prop} {Y : Nat → Hp → V → Hp → Prop} {α : Type} {as : List α} {g : TG} {tt : TT} {te : TE} {vs : List Nat} {σ : L2.St} {H1 : Hp}
theorem lc_any2 {Q : VK} (w : L2.Walk J as.length G Y) (hw : Wf M I) (hI : I H1) (p : α → Bool) (P : α → D → Prop) (asg : Nat → α → L2.St) (hG : ∀ H', Ex M H1 H' → G H') (hlen : as.length ≤ sizeLine)
    (hb : ∀ k a, as[k]? = some a → ∀ H x H' (Qc : L2.St → Hp → Prop), Ex M H1 H → Y k H x H' → (∀ H2, L2.Same H H2 → Qc (asg k a) H2) → g x (wipe σ vs) H' Qc) (hwp : ∀ k a, wipe (asg k a) vs = wipe σ vs)
    (ht : ∀ L acc k a H, H1 L = none → ¬ M L → as[k]? = some a → Wf (Mq M L) (Iq I L (.lst acc)) → Iq I L (.lst acc) H → Ex (Mq M L) H1 H →
      ∀ Qt : Bool → Hp → Prop, (∀ H3, Iq I L (.lst acc) H3 → Ex (Mq M L) H H3 → Qt (p a) H3) → tt (asg k a) H Qt)
    (he : ∀ L acc k a H, H1 L = none → ¬ M L → as[k]? = some a → p a = true → Wf (Mq M L) (Iq I L (.lst acc)) → Iq I L (.lst acc) H → Ex (Mq M L) H1 H →
      ∀ Qe : VK, (∀ y d H4, P a d → Rep K (Mq M L) H4 y d → Iq I L (.lst acc) H4 → Ex (Mq M L) H H4 → Qe y H4) → te (asg k a) H Qe)
    (hd : ∀ L ds H', H1 L = none → A2 P (as.filter p) ds → Rep K M H' (.ref L) (.lst ds) → Ex M H1 H' → I H' → Q (.ref L) H') :
    ∀ L, H1 L = none → ∃ W : Nat → Nat → Hp → Prop, (∃ m, W 0 m (upd H1 L (.lst []))) ∧ ∀ i m H, W i m H →
      (J.stop i H ∧ Q (.ref L) H) ∨ (J.go i H ∧ ∃ Nx : Hp → Prop, (∀ H', Nx H' → ∃ m', m' < m ∧ W (i + 1) m' H') ∧ ∀ x H', J.yld i H x H' → g x (wipe σ vs) H' fun σ2 H2 => wipe σ2 vs = wipe σ vs ∧ tt σ2 H2 fun b H3 =>
        if b = true then te σ2 H3 fun y H4 => ∃ acc, H4 L = some (.lst acc) ∧ acc.length < sizeLine ∧ Nx (upd H4 L (.lst (acc ++ [y]))) else Nx H3) := by
  intro L hL
  have nM : ¬ M L := hw.fresh hI hL
  have exL : ∀ {H' : Hp}, Ex (Mq M L) H1 H' → Ex M H1 H' := fun e p o n h => e p o (fun m => m.elim n fun z => by rw [z, hL] at h; cases h) h
  refine lc_it w (fun k H => ∃ acc ds, Iq I L (.lst acc) H ∧ A2 P ((as.take k).filter p) ds ∧ Reps K (Mq M L) H acc ds ∧ Ex (Mq M L) H1 H) ?_ (fun k H _ h => ?_) ?_ ?_
  · refine ⟨[], [], ⟨hw.same (same_upd hL) hI, upd_same⟩, .nil, .nil, Ex.of (same_upd hL)⟩
  · obtain ⟨acc, ds, _, _, _, e⟩ := h
    exact hG H (exL e)
  · rintro k x H H' hk ⟨acc, ds, i1, a2, rs, e⟩ y
    have ha : as[k]? = some as[k] := by simp [hk]
    have wf' := hw.add L (.lst acc)
    have hlen2 : acc.length < sizeLine := by
      have l1 := rs.length
      have l2 := a2.length
      have l3 : ((as.take k).filter p).length ≤ (as.take k).length := List.length_filter_le _ _
      have l4 : (as.take k).length ≤ k := by simp; omega
      omega
    refine hb k _ ha H x H' _ (exL e) y fun H2 sm => ⟨hwp k _, ?_⟩
    have i2 := wf'.same sm i1
    have e2 : Ex (Mq M L) H1 H2 := e.trans (Ex.of sm)
    have rs2 := rs.same sm
    refine ht L acc k _ H2 hL nM ha wf' i2 e2 _ fun H3 i3 e3 => ?_
    cases hp : p as[k] with
    | false =>
      simp only [Bool.false_eq_true, if_false]
      refine ⟨acc, ds, i3, ?_, rs2.ex e3, e2.trans e3⟩
      rw [take_snoc ha, List.filter_append]
      simpa [hp] using a2
    | true =>
      simp only [if_true]
      refine he L acc k _ H3 hL nM ha hp wf' i3 (e2.trans e3) _ fun y d H4 py ry i4 e4 => ⟨acc, i4.2, hlen2, ?_⟩
      obtain ⟨i5, e5⟩ := hw.put (o' := .lst (acc ++ [y])) nM i4
      refine ⟨acc ++ [y], ds ++ [d], i5, ?_, ?_, ((e2.trans e3).trans e4).trans e5⟩
      · rw [take_snoc ha, List.filter_append]
        refine a2.append ?_
        simp [hp]
        exact .cons py .nil
      · exact (((rs2.ex e3).ex e4).append (.cons ry .nil)).ex e5
  · rintro H ⟨acc, ds, i1, a2, rs, e⟩
    refine hd L ds H hL ?_ (.lst i1.2 nM (rs.le fun p m => .inl m)) (exL e) i1.1
    simpa using a2
end
def prOf (H : Hp) (x : V) : V × V := match x with
  | .ref p => (match H p with
    | some (.tup [v, w]) => (v, w)
    | _ => (.non, .non))
  | _ => (.non, .non)
section
variable {K : PySem.W.Frag} {M : Addr → Prop} {I : Hp → Prop} {α : Type} {as : List α} {tt : TT} {te : TE} {vs : List Nat} {σ : L2.St} {H1 : Hp} {Q : VK} {enc enc2 : α → D}
/-- [e for x, y in a list of pairs if t] -/
theorem lc_srcP {i j : Nat} {x : V} {d : D} (hw : Wf M I) (hI : I H1) (hx : Rep K M H1 x d) (hd : d.elems = some (as.map fun a => .tup [enc a, enc2 a])) (hlen : as.length ≤ sizeLine) (hwp : ∀ v w, wipe (((wipe σ vs).set i (some v)).set j (some w)) vs = wipe σ vs) (p : α → Bool) (P : α → D → Prop)
    (ht : ∀ (L : Addr) (acc : List V) (k : Nat) (a : α) (v w : V) (H : Hp), H1 L = none → ¬ M L → as[k]? = some a → Rep K (Mq M L) H v (enc a) → Rep K (Mq M L) H w (enc2 a) → Wf (Mq M L) (Iq I L (.lst acc)) → Iq I L (.lst acc) H → Ex (Mq M L) H1 H →
      ∀ Qt : Bool → Hp → Prop, (∀ H3, Iq I L (.lst acc) H3 → Ex (Mq M L) H H3 → Qt (p a) H3) → tt (((wipe σ vs).set i (some v)).set j (some w)) H Qt)
    (he : ∀ (L : Addr) (acc : List V) (k : Nat) (a : α) (v w : V) (H : Hp), H1 L = none → ¬ M L → as[k]? = some a → p a = true → Rep K (Mq M L) H v (enc a) → Rep K (Mq M L) H w (enc2 a) → Wf (Mq M L) (Iq I L (.lst acc)) → Iq I L (.lst acc) H → Ex (Mq M L) H1 H →
      ∀ Qe : VK, (∀ y d H4, P a d → Rep K (Mq M L) H4 y d → Iq I L (.lst acc) H4 → Ex (Mq M L) H H4 → Qe y H4) → te (((wipe σ vs).set i (some v)).set j (some w)) H Qe)
    (hq : ∀ y ds H', A2 P (as.filter p) ds → Rep K M H' y (.lst ds) → Ex M H1 H' → I H' → Q y H') : srcR K (LcR (gTup K 2 (gCons (gName i) (gCons (gName j) gNil))) tt te vs σ Q) x H1 := by
  obtain ⟨S, xs, rfl, r, hS⟩ := src_of hx hd
  have hl : xs.length = as.length := by simpa using r.length
  have key : ∀ {J : It} {G : Hp → Prop} {Y : Nat → Hp → V → Hp → Prop}, L2.Walk J as.length G Y → (∀ H', Ex M H1 H' → G H') → (∀ k H x H', Y k H x H' → H' = H ∧ xs[k]? = some x) → LcR (gTup K 2 (gCons (gName i) (gCons (gName j) gNil))) tt te vs σ Q J H1 := fun {J G Y} w hG hY => by
    have pair : ∀ {k : Nat} {a : α}, as[k]? = some a → ∃ p v w, xs[k]? = some (.ref p) ∧ ¬ M p ∧ H1 p = some (.tup [v, w]) ∧ Rep K M H1 v (enc a) ∧ Rep K M H1 w (enc2 a) ∧ prOf H1 (xs.getD k .non) = (v, w) := fun {k a} ha => by
      obtain ⟨x, hx, rx⟩ := r.get (k := k) (d := .tup [enc a, enc2 a]) (by simp [ha])
      cases rx with
      | @tup p _ _ h n r =>
        cases r with
        | cons r1 r2 => cases r2 with
          | cons r2 r3 =>
            cases r3
            refine ⟨p, _, _, hx, n, h, r1, r2, ?_⟩
            rw [show xs.getD k .non = .ref p by simp [List.getD, hx]]
            simp only [prOf, h]
    refine lc_any2 (K := K) w hw hI p P (fun k _ => ((wipe σ vs).set i (some (prOf H1 (xs.getD k .non)).1)).set j (some (prOf H1 (xs.getD k .non)).2)) hG hlen (fun k a ha => ?_) (fun k a => hwp _ _) ?_ ?_ ?_
    · intro H x H' Qc eH y q
      obtain ⟨rfl, e2⟩ := hY k H x H' y
      obtain ⟨p, v, w, hx, n, h, _, _, ep⟩ := pair ha
      rw [hx] at e2
      cases e2
      rw [ep] at q
      exact ⟨p, [v, w], rfl, SqT.of (eH p _ n h), rfl, v, [w], rfl, w, [], rfl, rfl, q _ (L2.Same.refl _)⟩
    · intro L acc k a H hL nL ha wf hi ex Qt q
      obtain ⟨p, v, w, _, _, _, r1, r2, ep⟩ := pair ha
      rw [ep]
      exact ht L acc k a v w H hL nL ha ((r1.off hL).ex ex) ((r2.off hL).ex ex) wf hi ex Qt q
    · intro L acc k a H hL nL ha hp wf hi ex Qt q
      obtain ⟨p, v, w, _, _, _, r1, r2, ep⟩ := pair ha
      rw [ep]
      exact he L acc k a v w H hL nL ha hp ((r1.off hL).ex ex) ((r2.off hL).ex ex) wf hi ex Qt q
    · exact fun L ds H' hL a2 rp ex hi => hq _ ds H' a2 rp ex hi
  cases S with
  | lst a =>
    refine .inl ⟨a, rfl, ⟨xs, hS H1 (Ex.refl _)⟩, ?_⟩
    have w := walk_list (K := K) (a := a) (xs := xs)
    rw [hl] at w
    exact key w hS fun k H x H' y => y
  | tup a =>
    refine .inr (.inl ⟨a, rfl, ⟨xs, hS H1 (Ex.refl _)⟩, ?_⟩)
    have w := walk_tup (K := K) (a := a) (xs := xs)
    rw [hl] at w
    exact key w hS fun k H x H' y => y
  | txt z =>
    refine .inr (.inr ⟨z, rfl, ?_⟩)
    have hxs : xs = signs z := hS H1 (Ex.refl _)
    have w := walk_str (z := z)
    have hz : z.cps.size = as.length := by rw [← hl, hxs]; simp [signs]
    rw [hz] at w
    refine key w (fun _ _ => trivial) fun k H x H' y => ⟨y.1, ?_⟩
    obtain ⟨_, c, e1, e2⟩ := y
    rw [hxs, e2]
    simp [signs, e1]
end
end Nt

namespace Nt
open PySem PySem.Spec PyProof.Rows L2
section
variable {K : PySem.W.Frag} {M : Addr → Prop} {I : Hp → Prop} {J : It} {G : Hp → Prop} {Y : Nat → Hp → V → Hp → Prop} {α : Type} {as : List α} {g : TG} {tt : TT} {te : TE} {vs : List Nat} {σ : L2.St} {H1 : Hp}
/-- .. where the test may answer either way -/
theorem lc_any3 {Q : VK} (w : L2.Walk J as.length G Y) (hw : Wf M I) (hI : I H1) (P : α → D → Prop) (asg : Nat → α → L2.St) (hG : ∀ H', Ex M H1 H' → G H') (hlen : as.length ≤ sizeLine)
    (hb : ∀ k a, as[k]? = some a → Bd g (Y k) (wipe σ vs) (asg k a)) (hwp : ∀ k a, wipe (asg k a) vs = wipe σ vs)
    (ht : ∀ L acc k a H, H1 L = none → ¬ M L → as[k]? = some a → Wf (Mq M L) (Iq I L (.lst acc)) → Iq I L (.lst acc) H → Ex (Mq M L) H1 H →
      ∀ Qt : Bool → Hp → Prop, (∀ b H3, Iq I L (.lst acc) H3 → Ex (Mq M L) H H3 → Qt b H3) → tt (asg k a) H Qt)
    (he : ∀ L acc k a H, H1 L = none → ¬ M L → as[k]? = some a → Wf (Mq M L) (Iq I L (.lst acc)) → Iq I L (.lst acc) H → Ex (Mq M L) H1 H →
      ∀ Qe : VK, (∀ y d H4, P a d → Rep K (Mq M L) H4 y d → Iq I L (.lst acc) H4 → Ex (Mq M L) H H4 → Qe y H4) → te (asg k a) H Qe)
    (hd : ∀ L bs ds H', H1 L = none → bs.Sublist as → A2 P bs ds → Rep K M H' (.ref L) (.lst ds) → Ex M H1 H' → I H' → Q (.ref L) H') :
    ∀ L, H1 L = none → ∃ W : Nat → Nat → Hp → Prop, (∃ m, W 0 m (upd H1 L (.lst []))) ∧ ∀ i m H, W i m H →
      (J.stop i H ∧ Q (.ref L) H) ∨ (J.go i H ∧ ∃ Nx : Hp → Prop, (∀ H', Nx H' → ∃ m', m' < m ∧ W (i + 1) m' H') ∧ ∀ x H', J.yld i H x H' → g x (wipe σ vs) H' fun σ2 H2 => wipe σ2 vs = wipe σ vs ∧ tt σ2 H2 fun b H3 =>
        if b = true then te σ2 H3 fun y H4 => ∃ acc, H4 L = some (.lst acc) ∧ acc.length < sizeLine ∧ Nx (upd H4 L (.lst (acc ++ [y]))) else Nx H3) := by
  intro L hL
  have nM : ¬ M L := hw.fresh hI hL
  have exL : ∀ {H' : Hp}, Ex (Mq M L) H1 H' → Ex M H1 H' := fun e p o n h => e p o (fun m => m.elim n fun z => by rw [z, hL] at h; cases h) h
  refine lc_it w (fun k H => ∃ acc bs ds, Iq I L (.lst acc) H ∧ bs.Sublist (as.take k) ∧ A2 P bs ds ∧ Reps K (Mq M L) H acc ds ∧ Ex (Mq M L) H1 H) ?_ (fun k H _ h => ?_) ?_ ?_
  · exact ⟨[], [], [], ⟨hw.same (same_upd hL) hI, upd_same⟩, by simp, .nil, .nil, Ex.of (same_upd hL)⟩
  · obtain ⟨acc, bs, ds, _, _, _, _, e⟩ := h
    exact hG H (exL e)
  · rintro k x H H' hk ⟨acc, bs, ds, i1, sb, a2, rs, e⟩ y
    have ha : as[k]? = some as[k] := by simp [hk]
    have wf' := hw.add L (.lst acc)
    have hlen2 : acc.length < sizeLine := by
      have l1 := rs.length
      have l2 := a2.length
      have l3 := sb.length_le
      have l4 : (as.take k).length ≤ k := by simp; omega
      omega
    refine hb k _ ha H x H' _ y fun H2 sm => ⟨hwp k _, ?_⟩
    have i2 := wf'.same sm i1
    have e2 : Ex (Mq M L) H1 H2 := e.trans (Ex.of sm)
    have rs2 := rs.same sm
    refine ht L acc k _ H2 hL nM ha wf' i2 e2 _ fun b H3 i3 e3 => ?_
    cases b with
    | false =>
      simp only [Bool.false_eq_true, if_false]
      refine ⟨acc, bs, ds, i3, ?_, a2, rs2.ex e3, e2.trans e3⟩
      rw [take_snoc ha]
      exact sb.trans (List.sublist_append_left _ _)
    | true =>
      simp only [if_true]
      refine he L acc k _ H3 hL nM ha wf' i3 (e2.trans e3) _ fun y d H4 py ry i4 e4 => ⟨acc, i4.2, hlen2, ?_⟩
      obtain ⟨i5, e5⟩ := hw.put (o' := .lst (acc ++ [y])) nM i4
      refine ⟨acc ++ [y], bs ++ [as[k]], ds ++ [d], i5, ?_, a2.append (.cons py .nil), (((rs2.ex e3).ex e4).append (.cons ry .nil)).ex e5, ((e2.trans e3).trans e4).trans e5⟩
      rw [take_snoc ha]
      exact sb.append (List.Sublist.refl _)
  · rintro H ⟨acc, bs, ds, i1, sb, a2, rs, e⟩
    exact hd L bs ds H hL (by simpa using sb) a2 (.lst i1.2 nM (rs.le fun p m => .inl m)) (exL e) i1.1
end
section
variable {K : PySem.W.Frag} {M : Addr → Prop} {I : Hp → Prop} {tt : TT} {te : TE} {vs : List Nat} {σ : L2.St} {H1 : Hp} {Q : VK}
/-- [e for k in range(..) if ..]: the test may answer either way -/
theorem lc_rngS {i : Nat} {lo : Int} {n : Nat} (hw : Wf M I) (hI : I H1) (hlen : n ≤ sizeLine) (hwp : ∀ v, wipe ((wipe σ vs).set i (some v)) vs = wipe σ vs) (P : Nat → D → Prop)
    (ht : ∀ (L : Addr) (acc : List V) (k : Nat) (H : Hp), H1 L = none → ¬ M L → k < n → Wf (Mq M L) (Iq I L (.lst acc)) → Iq I L (.lst acc) H → Ex (Mq M L) H1 H →
      ∀ Qt : Bool → Hp → Prop, (∀ b H3, Iq I L (.lst acc) H3 → Ex (Mq M L) H H3 → Qt b H3) → tt ((wipe σ vs).set i (some (.int (lo + (k : Nat))))) H Qt)
    (he : ∀ (L : Addr) (acc : List V) (k : Nat) (H : Hp), H1 L = none → ¬ M L → k < n → Wf (Mq M L) (Iq I L (.lst acc)) → Iq I L (.lst acc) H → Ex (Mq M L) H1 H →
      ∀ Qe : VK, (∀ y d H4, P k d → Rep K (Mq M L) H4 y d → Iq I L (.lst acc) H4 → Ex (Mq M L) H H4 → Qe y H4) → te ((wipe σ vs).set i (some (.int (lo + (k : Nat))))) H Qe)
    (hq : ∀ L bs ds H', H1 L = none → bs.Sublist (List.range n) → A2 P bs ds → Rep K M H' (.ref L) (.lst ds) → Ex M H1 H' → I H' → Q (.ref L) H') : LcR (gName i) tt te vs σ Q (Itr lo n) H1 := by
  have w := walk_range (lo := lo) (n := n)
  rw [show Walk (Itr lo n) n = Walk (Itr lo n) (List.range n).length by simp] at w
  have at_ : ∀ {k a : Nat}, (List.range n)[k]? = some a → k < n ∧ a = k := fun {k a} h => by
    have hk := (List.getElem?_eq_some_iff.mp h).1
    rw [List.length_range] at hk
    rw [List.getElem?_range hk] at h
    cases h
    exact ⟨hk, rfl⟩
  refine lc_any3 (K := K) w hw hI P (fun k _ => (wipe σ vs).set i (some (.int (lo + (k : Nat))))) (fun _ _ => trivial) (by simpa using hlen) (fun k a ha => ?_) (fun k a => hwp _) ?_ ?_ ?_
  · exact bd_name fun H x H' y => y
  · intro L acc k a H hL nL ha wf hi ex Qt q
    obtain ⟨h1, rfl⟩ := at_ ha
    exact ht L acc a H hL nL h1 wf hi ex Qt q
  · intro L acc k a H hL nL ha wf hi ex Qt q
    obtain ⟨h1, rfl⟩ := at_ ha
    exact he L acc a H hL nL h1 wf hi ex Qt q
  · exact fun L bs ds H' hL sb a2 rp ex hi => hq L bs ds H' hL sb a2 rp ex hi
end
/-- list(range(n)) -/
theorem sx_lstRg {te : L2.St → Hp → (Int → Int → Hp → Prop) → Prop} {σ : L2.St} {H : Hp} {Q : VK} (h : te σ H fun a b H1 => RgOk a b ∧ ∀ q, H1 q = none → Q (.ref q) (upd H1 q (.lst (rgV a b)))) : tLstRg te σ H Q := h
theorem sx_rg1 {ta : TE} {σ : L2.St} {H : Hp} {Q : Int → Int → Hp → Prop} (h : ta σ H fun x H1 => ∃ n, x = .int n ∧ Q 0 n H1) : tRg1 ta σ H Q := h
end Nt

namespace Nt
open PySem PySem.Spec PyProof.Rows L2
/-! ### own special methods -/
section
variable {P : Program} {w : World} {M : Model} {A : Around} {E : Value → Shared → Prop} {s : Shared} {f : Addr} {self : Value} {name : Str} {args : List Value}
theorem cspecO {Q : Option Value → Shared → Prop} (sp : PySem.W.Looks M s.heap (specialOf self name) (some (.ref f))) (hb : PySem.W.Looks M s.heap (bindSpecial (.ref f) self) (.ref f, [self]))
    (hc : wpAny M A (call (.ref f) (self :: args)) (fun v => Q (some v)) E s) : wpAny M A (callSpecial? self name args) Q E s := by
  simp only [callSpecial?]
  refine wpAny_bind (sp.here ?_)
  refine wpAny_holding (wpAny_bind (hb.here ?_))
  exact wpAny_bind (wpAny_mono hc (fun v s' h' => wpAny_pure h') fun _ _ h' => h')
theorem cspecU {Q : Option Value → Shared → Prop} {refuse : Sem Value} (sp : PySem.W.Looks M s.heap (specialOf self name) (some (.ref f))) (hb : PySem.W.Looks M s.heap (bindSpecial (.ref f) self) (.ref f, [self]))
    (hc : wpAny M A (call (.ref f) (self :: args)) (fun v => Q (some v)) E s) : wpAny M A (callSpecialUnlessNone? self name args refuse) Q E s := by
  simp only [callSpecialUnlessNone?]
  refine wpAny_bind (sp.here ?_)
  refine wpAny_holding (wpAny_bind (hb.here ?_))
  show wpAny _ _ (if (Value.ref f == Value.none) = true then _ else _) _ _ _
  rw [if_neg (by simp)]
  exact wpAny_bind (wpAny_mono hc (fun v s' h' => wpAny_pure h') fun _ _ h' => h')
end
section
variable {X : Cx} {k : Nat} {C f : Addr} {fd : FuncData} {ps : List Str} {sp : Sp} {m : Str}
theorem special_at {pins : List (Addr × Obj)} {σ : L2.St} {H : Hp} {s : Shared} {a dx : Addr} {fs : List (Str × V)} {M : Model} (I : Inv X pins σ H s) (e : H a = some (.ins C dx fs)) (hm : Meth X.K C m f) :
    PySem.W.Looks M s.heap (specialOf (.ref a) m) (some (.ref f)) ∧ PySem.W.Looks M s.heap (bindSpecial (.ref f) (.ref a)) (.ref f, [.ref a]) := by
  obtain ⟨mA, O, r, _, _, _⟩ := ins_get I.hok e
  exact ⟨(NwA.type_at O.obj rfl).andThen (PySem.W.looks_findIn I.kIn hm.at_), PySem.W.bind_fn I.kIn (.ref a) (beq_iff_eq.mp hm.fn)⟩
/-- the own method runs, in any place -/
theorem run_own {A' : Around} {pins : List (Addr × Obj)} {σ : L2.St} {H : Hp} {s : Shared} {Q : Value → Shared → Prop} {Er : Value → Shared → Prop} {us : List Value} {vs : List V} (F : FnOk X.prog X.w X.K X.mg X.base (L2.CX X.prog X.w) k f fd ps sp) (hr : Room k A') (e0 : Env0 X.prog X.w X.K X.mg X.base A' X.stack s H) (hb : Binds X.K fd ps [])
    (I : Inv X pins σ H s) (r : Vals vs us) {Z : VK} (h : sp vs H Z E0) (q : ∀ v u H' s', Inv X pins σ H' s' → RelV v u → Z v H' → Q u s') : wpAny (model X.prog X.w) A' (call (.ref f) us) Q Er s := by
  have hl : us.length = ps.length := by rw [← r.length]; exact F.len _ _ _ _ h
  have b := hb s us I.kIn (by rw [List.append_nil]; exact hl)
  rw [List.append_nil] at b
  refine wpAny_call (codeAny_mono (F.run A' X.stack s H ⟨us, []⟩ us vs Z E0 hr e0 b r h) fun r s' hq => ?_)
  cases r with
  | error e =>
    obtain ⟨_, _, _, _, _, _, _, _, _, _, _, _, z⟩ := hq
    exact z.elim
  | ok fl =>
    cases fl with
    | ret u =>
      obtain ⟨v, H', I3, rv, q3⟩ := I.after hq
      exact q v u H' s' I3 rv q3
    | next => exact False.elim hq
    | brk => exact False.elim hq
    | cont => exact False.elim hq
/-- len(an object with an own __len__) -/
def rLenO (C : Addr) (sp : Sp) : List V → Hp → VK → Prop := fun xs H Q => ∃ (a dx : Addr) (fs : List (Str × V)), xs = [.ref a] ∧ H a = some (.ins C dx fs) ∧ sp [.ref a] H (fun v H' => ∃ n : Nat, v = .int (n : Nat) ∧ n < 2 ^ 62 ∧ Q (.int (n : Nat)) H') E0
theorem call_lenO (hm : Meth X.K C "__len__" f) (F : FnOk X.prog X.w X.K X.mg X.base (L2.CX X.prog X.w) k f fd ps sp) (hr : Room (k + 1) X.A) (hb : Binds X.K fd ps []) : CallR X (.builtin "len") (rLenO C sp) := by
  intro pins s σ H xs us Q I r h
  obtain ⟨a, dx, fs, rfl, e, h⟩ := h
  obtain ⟨u, rfl, ru⟩ := vals1 r
  obtain rfl : u = Value.ref a := ru
  obtain ⟨L1, L2⟩ := special_at (M := model X.prog X.w) I e hm
  refine Calls.call_function_entry kind_len plain_len entry_len (args_len1 _) ?_
  unfold Builtin.«len»
  refine wpAny_bind (m := oneArg "len" _) (wpAny_pure ?_)
  refine wpAny_bind (m := callSpecial? (.ref a) (PySem.Str.ofString "__len__")) (cspecO L1 L2 (run_own F hr.in1 I.env0.in1 hb I (.cons (show RelV (.ref a) (.ref a) from rfl) .nil) h fun v u H' s' I' rv q => ?_))
  obtain ⟨n, rfl, hn, q⟩ := q
  obtain ⟨t, rfl⟩ := rv
  refine wpAny_bind (wpAny_holding (wpAny_pure ?_))
  refine wpAny_bind (wpAny_letGo ?_)
  show wpAny _ _ (if ((n : Nat) : Int) < 0 then _ else _) _ _ _
  rw [if_neg (by omega)]
  show wpAny _ _ (if ((n : Nat) : Int) ≥ 2 ^ 63 then _ else _) _ _ _
  rw [if_neg (by omega)]
  exact wpAny_bind (wpAny_mkInt (wpAny_pure ⟨_, rfl, .int (n : Nat), H', I'.tok _, ⟨_, rfl⟩, q⟩))
/-- x in an object with an own __contains__ -/
def rInO (C : Addr) (sp : Sp) (neg : Bool) : V → V → Hp → VK → Prop := fun x y H Q => ∃ (a dx : Addr) (fs : List (Str × V)), y = .ref a ∧ H a = some (.ins C dx fs) ∧ sp [.ref a, x] H (fun v H' => ∃ b, v = .bl b ∧ Q (.bl (b != neg)) H') E0
theorem contains_own {pins : List (Addr × Obj)} {σ : L2.St} {H : Hp} {s : Shared} {a dx : Addr} {fs : List (Str × V)} {x : V} {u : Value} {Z : VK} {Er : Value → Shared → Prop} {Q : Bool → Shared → Prop} (hm : Meth X.K C "__contains__" f) (F : FnOk X.prog X.w X.K X.mg X.base (L2.CX X.prog X.w) k f fd ps sp) (hr : Room k X.A) (hb : Binds X.K fd ps [])
    (I : Inv X pins σ H s) (e : H a = some (.ins C dx fs)) (rx : RelV x u) (h : sp [.ref a, x] H Z E0) (q : ∀ v H' s', Inv X pins σ H' s' → Z v H' → ∃ b, v = .bl b ∧ Q b s') : wpAny (model X.prog X.w) X.A (contains (.ref a) u) Q Er s := by
  obtain ⟨L1, L2⟩ := special_at (M := model X.prog X.w) I e hm
  unfold contains
  refine wpAny_holding ?_
  rw [stdlibNamesSay?_ref]
  refine wpAny_bind (L1.here ?_)
  show wpAny _ _ (if (some (Value.ref f) == some Value.none) = true then _ else _) _ _ _
  rw [if_neg (by simp)]
  refine wpAny_bind (cspecU L1 L2 (run_own F hr I.env0 hb I (.cons (show RelV (.ref a) (.ref a) from rfl) (.cons rx .nil)) h fun v u' H' s' I' rv z => ?_))
  obtain ⟨b, rfl, q⟩ := q v H' s' I' z
  obtain rfl : u' = Value.bool b := rv
  exact wpAny_truthy_bool q
theorem op_inO (hm : Meth X.K C "__contains__" f) (F : FnOk X.prog X.w X.K X.mg X.base (L2.CX X.prog X.w) k f fd ps sp) (hr : Room k X.A) (hb : Binds X.K fd ps []) : OpR X (compareOp .In) (rInO C sp false) := by
  intro pins s σ H x y v u Q I rx ry h
  obtain ⟨a, dx, fs, rfl, e, h⟩ := h
  obtain rfl : u = Value.ref a := ry
  show wpAny _ _ (do return Value.bool (← contains (.ref a) v)) _ _ _
  refine wpAny_bind (contains_own hm F hr hb I e rx h fun v' H' s' I' z => ?_)
  obtain ⟨b, rfl, q⟩ := z
  refine ⟨b, rfl, wpAny_pure ⟨.bl (b != false), H', I', ?_, q⟩⟩
  cases b <;> exact (rfl : Value.bool _ = _)
theorem op_niO (hm : Meth X.K C "__contains__" f) (F : FnOk X.prog X.w X.K X.mg X.base (L2.CX X.prog X.w) k f fd ps sp) (hr : Room k X.A) (hb : Binds X.K fd ps []) : OpR X (compareOp .NotIn) (rInO C sp true) := by
  intro pins s σ H x y v u Q I rx ry h
  obtain ⟨a, dx, fs, rfl, e, h⟩ := h
  obtain rfl : u = Value.ref a := ry
  show wpAny _ _ (do return Value.bool (!(← contains (.ref a) v))) _ _ _
  refine wpAny_bind (contains_own hm F hr hb I e rx h fun v' H' s' I' z => ?_)
  obtain ⟨b, rfl, q⟩ := z
  refine ⟨b, rfl, wpAny_pure ⟨.bl (b != true), H', I', ?_, q⟩⟩
  cases b <;> exact (rfl : Value.bool _ = _)
end
end Nt

namespace Nt
open PySem PySem.Spec PyProof.Rows L2
/-- the j-th statement of a class body -/
def mem (s : Stmt) (j : Nat) : Stmt := match s with
  | .ClassDef _ _ _ body .. => body.getD j (.Pass ⟨0, 0, 0, 0⟩)
  | _ => .Pass ⟨0, 0, 0, 0⟩
/-! ### methods, classes, aliases -/
structure AtM (K : PySem.W.Frag) (c m q : Str) (st : Stmt) (ps : List Str) (dvs : List V) : Prop where
  meth : Meth K (He.ga K c) m (He.ma K (He.ga K c) m)
  ex : ∃ fd dfl kws, FunD K m q (defArgs st) (defBody st) (defScope st) dfl kws (He.ma K (He.ga K c) m) fd ∧ ∃ ds, Vals dvs ds ∧ Binds K fd ps ds
structure DfM (P : Program) (w : World) (K : PySem.W.Frag) (mg : Str → Option Value) (base : Heap) (k : Nat) (c m : Str) (ps : List Str) (dvs : List V) (sp : Sp) : Prop where
  meth : Meth K (He.ga K c) m (He.ma K (He.ga K c) m)
  ok : ∃ fd, FnOk P w K mg base (L2.CX P w) k (He.ma K (He.ga K c) m) fd ps sp ∧ ∃ ds, Vals dvs ds ∧ Binds K fd ps ds
structure AtI (K : PySem.W.Frag) (mg : Str → Option Value) (c q : Str) (st : Stmt) (ps : List Str) (dvs : List V) : Prop where
  mgx : mg c = some (.ref (He.ga K c))
  mkr : Mk K (He.ga K c) (He.ma K (He.ga K c) "__init__")
  ex : ∃ fd dfl kws, FunD K "__init__" q (defArgs st) (defBody st) (defScope st) dfl kws (He.ma K (He.ga K c) "__init__") fd ∧ ∃ ds, Vals dvs ds ∧ Binds K fd ps ds
structure DfI (P : Program) (w : World) (K : PySem.W.Frag) (mg : Str → Option Value) (base : Heap) (k : Nat) (c : Str) (ps : List Str) (dvs : List V) (sp : Sp) : Prop where
  mgx : mg c = some (.ref (He.ga K c))
  mkr : Mk K (He.ga K c) (He.ma K (He.ga K c) "__init__")
  ok : ∃ fd, FnOk P w K mg base (L2.CX P w) k (He.ma K (He.ga K c) "__init__") fd ps sp ∧ ∃ ds, Vals dvs ds ∧ Binds K fd ps ds
/-- a name that stands for a def of another name -/
structure AtA (K : PySem.W.Frag) (mg : Str → Option Value) (x y : Str) (st : Stmt) (ps : List Str) (dfl : List V) : Prop where
  mgx : mg x = some (.ref (He.ga K x))
  ex : ∃ fd, FunD K y y (defArgs st) (defBody st) (defScope st) dfl [] (He.ga K x) fd ∧ ∀ j, j ≤ dfl.length → ∃ ds, Vals (dfl.drop j) ds ∧ Binds K fd ps ds
/-- a class whose instances have these fields -/
structure ClsF (K : PySem.W.Frag) (c : Str) (fields : List Str) : Prop where
  cls : Cls K (He.ga K c)
  na : ∀ f ∈ fields, NoAttr K (He.ga K c) f
section
variable {P : Program} {w : World} {K : PySem.W.Frag} {mg : Str → Option Value} {base : Heap} {k : Nat} {x y c m q : Str} {ps : List Str} {dfl dvs : List V} {sp : Sp} {st : Stmt} {N : List Str}
theorem AtM.df (F : AtM K c m q st ps dvs) (S : FnScope N ps (defScope st)) (len : ∀ vs H Q E, sp vs H Q E → vs.length = ps.length)
    (hbody : ∀ (f : Addr) (cdv : Value) (A : Around) (outer : List Env) (s : Shared) (H : Hp) (vs : List V) (Q : VK) (E : XK), Room k (A.deeper (envOfC q (defScope st) s.heap.objs.size f cdv)) → sp vs H Q E →
      ∃ t, PSs (cxOf (L2.CX P w) P w K mg base N q (defScope st) f cdv A outer s H E).nox (defBody st) t ∧ t { nx := fun _ H' => Q .non H', rt := Q } (start N vs) H) : DfM P w K mg base (k + 1) c m ps dvs sp := by
  obtain ⟨fd, dfl, kws, F1, F2⟩ := F.ex
  refine ⟨F.meth, fd, F1.ok S len fun cdv A outer s H vs Q E hr h => ?_, F2⟩
  obtain ⟨t, h1, h2⟩ := hbody _ cdv A outer s H vs Q E hr h
  exact ⟨t, h1.nox, h2⟩
theorem AtI.df (F : AtI K mg c q st ps dvs) (S : FnScope N ps (defScope st)) (len : ∀ vs H Q E, sp vs H Q E → vs.length = ps.length)
    (hbody : ∀ (f : Addr) (cdv : Value) (A : Around) (outer : List Env) (s : Shared) (H : Hp) (vs : List V) (Q : VK) (E : XK), Room k (A.deeper (envOfC q (defScope st) s.heap.objs.size f cdv)) → sp vs H Q E →
      ∃ t, PSs (cxOf (L2.CX P w) P w K mg base N q (defScope st) f cdv A outer s H E).nox (defBody st) t ∧ t { nx := fun _ H' => Q .non H', rt := Q } (start N vs) H) : DfI P w K mg base (k + 1) c ps dvs sp := by
  obtain ⟨fd, dfl, kws, F1, F2⟩ := F.ex
  refine ⟨F.mgx, F.mkr, fd, F1.ok S len fun cdv A outer s H vs Q E hr h => ?_, F2⟩
  obtain ⟨t, h1, h2⟩ := hbody _ cdv A outer s H vs Q E hr h
  exact ⟨t, h1.nox, h2⟩
theorem AtA.df (F : AtA K mg x y st ps dfl) (S : FnScope N ps (defScope st)) (len : ∀ vs H Q E, sp vs H Q E → vs.length = ps.length)
    (hbody : ∀ (f : Addr) (cdv : Value) (A : Around) (outer : List Env) (s : Shared) (H : Hp) (vs : List V) (Q : VK) (E : XK), Room k (A.deeper (envOfC y (defScope st) s.heap.objs.size f cdv)) → sp vs H Q E →
      ∃ t, PSs (cxOf (L2.CX P w) P w K mg base N y (defScope st) f cdv A outer s H E).nox (defBody st) t ∧ t { nx := fun _ H' => Q .non H', rt := Q } (start N vs) H) : Df P w K mg base (k + 1) x ps dfl sp := by
  obtain ⟨fd, F1, F2⟩ := F.ex
  refine ⟨F.mgx, ⟨fd, F1.ok S len fun cdv A outer s H vs Q E hr h => ?_, F2⟩, F1.kp⟩
  obtain ⟨t, h1, h2⟩ := hbody _ cdv A outer s H vs Q E hr h
  exact ⟨t, h1.nox, h2⟩
end
section
variable {X : Cx} {k : Nat} {x c m : Str} {ps : List Str} {dvs : List V} {sp : Sp} {o e : Expr} {es : List Expr} {ta : TE} {t : TA} {p pos apos : Pos}
/-- o.m(e, ..) -/
theorem pe_dm {fl : List Str} (G : DfM X.prog X.w X.K X.mg X.base k c m ps dvs sp) (C : ClsF X.K c fl) (hr : Room k X.A) (he : PE X o ta) (ha : PA X (e :: es) t) {pl : Sem Bool}
    (hst : starEach (e :: es) X.env = (false, eval e X.env) :: starEach es X.env := by rfl) (hpl : (backTo pos (starEach es X.env)).any (·.1) = false := by rfl)
    (ht : eval (.Call (.Attribute o m apos) (e :: es) [] pos) X.env = (do
      let ov ← eval o X.env
      standAt apos.atName
      let (f, first) ← holding [ov] (getMethod ov m pl)
      callWith pos f first (backTo pos (starEach (e :: es) X.env)) (backToKw pos (keywordEach [] X.env))) := by rfl) :
    PE X (.Call (.Attribute o m apos) (e :: es) [] pos) (tMeth (He.ga X.K c) m sp dvs E0 ta t) := by
  obtain ⟨fd, F, ds, hd, b⟩ := G.ok
  exact pe_meth he C.cls G.meth F hr b hd passL ha hst hpl ht
theorem pe_dm0 {fl : List Str} (G : DfM X.prog X.w X.K X.mg X.base k c m ps dvs sp) (C : ClsF X.K c fl) (hr : Room k X.A) (he : PE X o ta) {pl : Sem Bool}
    (ht : eval (.Call (.Attribute o m apos) [] [] pos) X.env = (do
      let ov ← eval o X.env
      standAt apos.atName
      let (f, first) ← holding [ov] (getMethod ov m pl)
      callWith pos f first (backTo pos (starEach [] X.env)) (backToKw pos (keywordEach [] X.env))) := by rfl) :
    PE X (.Call (.Attribute o m apos) [] [] pos) (tMeth (He.ga X.K c) m sp dvs E0 ta tNil) := by
  obtain ⟨fd, F, ds, hd, b⟩ := G.ok
  exact pe_meth0 he C.cls G.meth F hr b hd passL ht
/-- C(e, ..) -/
theorem pe_di (G : DfI X.prog X.w X.K X.mg X.base k c ps dvs sp) (hr : Room (k + 1) X.A) (hg : Gl X c) (ha : PA X (e :: es) t) (hdb : (c == ("__debug__" : Str)) = false := by decide) (he : starEach (e :: es) X.env = (false, eval e X.env) :: starEach es X.env := by rfl) (hpl : (backTo pos (starEach es X.env)).any (·.1) = false := by rfl) :
    PE X (.Call (.Name c p) (e :: es) [] pos) (tMake (He.ga X.K c) sp dvs E0 t) := by
  obtain ⟨fd, F, ds, hd, b⟩ := G.ok
  exact pe_make G.mkr F hr hg G.mgx b hd passL ha hdb he hpl
theorem call_lenD (G : DfM X.prog X.w X.K X.mg X.base k c "__len__" ps [] sp) (hr : Room (k + 1) X.A) : CallR X (.builtin "len") (rLenO (He.ga X.K c) sp) := by
  obtain ⟨fd, F, ds, hd, b⟩ := G.ok
  cases hd
  exact call_lenO G.meth F hr b
theorem op_inD2 (G : DfM X.prog X.w X.K X.mg X.base k c "__contains__" ps [] sp) (hr : Room k X.A) : OpR X (compareOp .In) (rInO (He.ga X.K c) sp false) := by
  obtain ⟨fd, F, ds, hd, b⟩ := G.ok
  cases hd
  exact op_inO G.meth F hr b
theorem op_niD2 (G : DfM X.prog X.w X.K X.mg X.base k c "__contains__" ps [] sp) (hr : Room k X.A) : OpR X (compareOp .NotIn) (rInO (He.ga X.K c) sp true) := by
  obtain ⟨fd, F, ds, hd, b⟩ := G.ok
  cases hd
  exact op_niO G.meth F hr b
end
/-! ### objects, as data -/
section
variable {K : PySem.W.Frag} {M : Addr → Prop} {I : Hp → Prop} {H H' : Hp} {v : V} {c f : Str} {ds : List (Str × D)} {fl : List Str} {Q : VK}
/-- an object whose fields stay -/
def Ob (K : PySem.W.Frag) (M : Addr → Prop) (H : Hp) (v : V) (c : Str) (ds : List (Str × D)) : Prop := ∃ (a dx : Addr) (fs : List (Str × V)), v = .ref a ∧ ¬ M a ∧ H a = some (.ins (He.ga K c) dx fs) ∧ (∀ f d, ds.lookup f = some d → ∃ u, fs.lookup f = some u ∧ Rep K M H u d) ∧ ∀ f, ds.lookup f = none → fs.lookup f = none
theorem Ob.ex (e : Ex M H H') (h : Ob K M H v c ds) : Ob K M H' v c ds := by
  obtain ⟨a, dx, fs, e1, n, e2, h1, h2⟩ := h
  exact ⟨a, dx, fs, e1, n, e a _ n e2, fun f d hf => by obtain ⟨u, l, r⟩ := h1 f d hf; exact ⟨u, l, r.ex e⟩, h2⟩
theorem Ob.off {q : Addr} (e : H q = none) (h : Ob K M H v c ds) : Ob K (Mq M q) H v c ds := by
  obtain ⟨a, dx, fs, e1, n, e2, h1, h2⟩ := h
  have nq : ¬ Mq M q a := fun m => m.elim n fun z => by rw [z, e] at e2; cases e2
  exact ⟨a, dx, fs, e1, nq, e2, fun f d hf => by obtain ⟨u, l, r⟩ := h1 f d hf; exact ⟨u, l, r.off e⟩, h2⟩
/-- o.f -/
theorem Ob.fld {d : D} {Z : V → Prop} (h : Ob K M H v c ds) (C : ClsF K c fl) (hf : f ∈ fl) (hd : ds.lookup f = some d) (q : ∀ u, Rep K M H u d → Z u) : ∃ a C dx fs u, v = V.ref a ∧ H a = some (.ins C dx fs) ∧ Cls K C ∧ NoAttr K C f ∧ fs.lookup f = some u ∧ Z u := by
  obtain ⟨a, dx, fs, e1, n, e2, h1, h2⟩ := h
  obtain ⟨u, l, r⟩ := h1 f d hd
  exact ⟨a, _, dx, fs, u, e1, e2, C.cls, C.na f hf, l, q u r⟩
theorem Ob.meth (h : Ob K M H v c ds) (hm : ds.lookup f = none) {Z : Prop} (q : Z) : ∃ a dx fs, v = V.ref a ∧ H a = some (.ins (He.ga K c) dx fs) ∧ fs.lookup f = none ∧ Z := by
  obtain ⟨a, dx, fs, e1, n, e2, h1, h2⟩ := h
  exact ⟨a, dx, fs, e1, e2, h2 f hm, q⟩
theorem sx_fld {ta : TE} {σ : L2.St} (h : ta σ H fun x H1 => ∃ a C dx fs v, x = .ref a ∧ H1 a = some (.ins C dx fs) ∧ Cls K C ∧ NoAttr K C f ∧ fs.lookup f = some v ∧ Q v H1) : tFld K ta f σ H Q := h
theorem sx_meth {C : Addr} {m : Str} {sp : Sp} {dvs : List V} {E : XK} {ta : TE} {t : TA} {σ : L2.St} (h : ta σ H fun x H1 => ∃ a dx fs, x = .ref a ∧ H1 a = some (.ins C dx fs) ∧ fs.lookup m = none ∧ t σ H1 fun vs H2 => sp (x :: (vs ++ dvs)) H2 Q E) : tMeth C m sp dvs E ta t σ H Q := h
theorem sx_make {C : Addr} {sp : Sp} {dvs : List V} {E : XK} {t : TA} {σ : L2.St} (h : t σ H fun vs H1 => ∀ x dx, H1 x = none → H1 dx = none → dx ≠ x → sp (.ref x :: (vs ++ dvs)) (upd (upd H1 dx (.own x)) x (.ins C dx [])) (fun v H2 => v = .non ∧ Q (.ref x) H2) E) : tMake C sp dvs E t σ H Q := h
theorem sx_sfld {ta tv : TE} {σ : L2.St} {D : Ends} (h : tv σ H fun y H1 => ta σ H1 fun x H2 => ∃ a C dx fs, x = .ref a ∧ H2 a = some (.ins C dx fs) ∧ Cls K C ∧ NoAttr K C f ∧ fs.length < 1000 ∧ D.nx σ (upd H2 a (.ins C dx (putF f y fs)))) : sFld K ta tv f D σ H := h
/-- self.f = y, self new -/
theorem set_fld {a dx : Addr} {fs : List (Str × V)} {y : V} {Z : Hp → Prop} (hw : Wf M I) (np : ¬ M a) (i : Iq I a (.ins (He.ga K c) dx fs) H) (C : ClsF K c fl) (hf : f ∈ fl) (hl : fs.length < 1000) (q : ∀ H', Ex (Mq M a) H H' → Iq I a (.ins (He.ga K c) dx (putF f y fs)) H' → Z H') :
    ∃ a' C dx fs, V.ref a = .ref a' ∧ H a' = some (.ins C dx fs) ∧ Cls K C ∧ NoAttr K C f ∧ fs.length < 1000 ∧ Z (upd H a' (.ins C dx (putF f y fs))) := by
  refine ⟨a, _, dx, fs, rfl, i.2, C.cls, C.na f hf, hl, ?_⟩
  obtain ⟨u1, u2⟩ := hw.put (o' := .ins (He.ga K c) dx (putF f y fs)) np i
  exact q _ u2 u1
/-- a new object comes to be -/
theorem made (hw : Wf M I) (hI : I H) {x dx : Addr} (C : Addr) (hx : H x = none) (hdx : H dx = none) (ne : dx ≠ x) : ¬ M x ∧ Ex M H (upd (upd H dx (.own x)) x (.ins C dx [])) ∧ Iq I x (.ins C dx []) (upd (upd H dx (.own x)) x (.ins C dx [])) := by
  have s1 := same_upd (o := .own x) hdx
  have hx1 : upd H dx (.own x) x = none := by rw [upd_ne (Ne.symm ne)]; exact hx
  have s2 := same_upd (o := .ins C dx []) hx1
  exact ⟨hw.fresh hI hx, (Ex.of s1).trans (Ex.of s2), hw.same s2 (hw.same s1 hI), upd_same⟩
end
end Nt

namespace Nt
open PySem PySem.Spec PyProof.Rows L2
/-- list(a text) -/
def rListStr : List V → Hp → VK → Prop := fun xs H Q => ∃ z : Str, xs = [.str z] ∧ z.cps.size ≤ 100000 ∧ ∀ l, H l = none → Q (.ref l) (upd H l (.lst (signs z)))
theorem call_listStr {X : Cx} (hc : X.calm = true) : CallR X (.type "list") rListStr := by
  intro pins s σ H xs us Q I r h
  obtain ⟨z, rfl, hz, q⟩ := h
  obtain ⟨u, rfl, t, rfl⟩ := vals1 r
  refine call_list_str (I.ok.hd hc) z t (hn := by rw [sizeLine_eq]; omega) fun h' tk acc' c' kp hS hacc => ?_
  refine ⟨.ref s.heap.objs.size, upd H s.heap.objs.size (.lst (signs z)), I.laid kp (Nat.le_refl _) (show ObjOk X.prog X.w _ _ _ (.lst (signs z)) from ⟨?_, acc'.toList, c', ?_, ?_⟩), rfl, q _ (I.hok.fresh (Nat.le_refl _))⟩
  · unfold signs; simp; rw [sizeLine_eq]; omega
  · have el : acc'.toList.length = acc'.size := by simp
    refine vals_of_at (by rw [el, hacc.1]; simp [signs]) fun j x w h1 h2 => ?_
    have h3 := hacc.2 j w (by rw [← Array.getElem?_toList]; exact h2)
    obtain ⟨c, u, e1, rfl⟩ := h3
    unfold signs at h1
    rw [List.getElem?_map, Array.getElem?_toList, e1] at h1
    cases h1
    exact ⟨u, rfl⟩
  · rw [Array.toArray_toList]; exact hS
/-- .. as data -/
theorem list_T {M : Addr → Prop} {K : PySem.W.Frag} {I : Hp → Prop} {H : Hp} {l : List Nat} {Q : VK} (hw : Wf M I) (hI : I H) (hl : l.length ≤ 100000) (q : ∀ v H', Ex M H H' → I H' → Rep K M H' v (.lst (l.map fun c => .str (T [c]))) → Q v H') : rListStr [.str (T l)] H Q := by
  refine ⟨T l, rfl, by show l.toArray.size ≤ _; simpa using hl, fun p hp => ?_⟩
  have sm := same_upd (o := .lst (signs (T l))) hp
  refine q _ _ (Ex.of sm) (hw.same sm hI) (.lst upd_same (hw.fresh hI hp) ?_)
  have e : signs (T l) = l.map fun c => V.str (T [c]) := by unfold signs; rw [T_cps]; rfl
  rw [e]
  exact Reps.scal (f := fun c => V.str (T [c])) (g := fun c => D.str (T [c])) (fun a => .str _) l
section
variable {K : PySem.W.Frag} {M : Addr → Prop} {I : Hp → Prop} {α : Type} {as : List α} {σ : L2.St} {H1 : Hp} {enc : α → D}
/-- for i, x in enumerate(s) -/
theorem for_enum {i j : Nat} {x : V} {d : D} {tb : TS} {E : Ends} (hx : Rep K M H1 x d) (hd : d.elems = some (as.map enc)) (Pv : Nat → L2.St → Hp → Prop) (h0 : Pv 0 σ H1) (hG : ∀ k σ H, Pv k σ H → Ex M H1 H)
    (hs : ∀ k a v σ H H', as[k]? = some a → Pv k σ H → L2.Same H H' → Rep K M H' v (enc a) → tb { E with nx := Pv (k + 1), ct := Pv (k + 1), bk := E.nx } ((σ.set i (some (.int (k : Nat)))).set j (some v)) H') (hq : ∀ σ H, Pv as.length σ H → E.nx σ H) : enumR K (ForR (gTup K 2 (gCons (gName i) (gCons (gName j) gNil))) tb E σ) [x] H1 := by
  obtain ⟨S1, xs, rfl, r, hS⟩ := src_of hx hd
  have hl := reps_len r
  refine ⟨S1, xs, rfl, hS _ (Ex.refl _), ?_⟩
  have w := walk_enumS (K := K) (S := S1) (xs := xs)
  rw [hl] at w
  refine for_it w Pv h0 (fun k σ H _ h => hS H (hG k σ H h)) (fun k x σ H H' hk h y => ?_) hq
  have ha : as[k]? = some as[k] := by simp [hk]
  obtain ⟨T, u, v, e1, e2, e3, e4, e5⟩ := y
  subst e1 e3
  cases e4
  obtain ⟨v2, hv, rv⟩ := reps_at r ha
  have e5 : xs[k]? = some v := e5
  rw [hv] at e5
  cases e5
  have sm := same_upd (o := .tup [.int (k : Nat), v]) e2
  exact ⟨T, [.int (k : Nat), v], rfl, SqT.of upd_same, rfl, _, [v], rfl, v, [], rfl, rfl, hs k _ v σ H _ ha h sm ((rv.ex (hG _ _ _ h)).same sm)⟩
end
end Nt

namespace Nt
open PySem PySem.Spec PyProof.Rows L2
/-! ### a dict comprehension -/
def DcR (g : TG) (tt : TT) (tk tv : TE) (vs : List Nat) (σ : L2.St) (Q : VK) : It → Hp → Prop := fun J H1 => ∀ D, H1 D = none → ∃ W : Nat → Nat → Hp → Prop, (∃ m, W 0 m (upd H1 D (.dK []))) ∧ ∀ i m H, W i m H →
  (J.stop i H ∧ Q (.ref D) H) ∨ (J.go i H ∧ ∃ Nx : Hp → Prop, (∀ H', Nx H' → ∃ m', m' < m ∧ W (i + 1) m' H') ∧ ∀ x H', J.yld i H x H' → g x (wipe σ vs) H' fun σ2 H2 => wipe σ2 vs = wipe σ vs ∧ tt σ2 H2 fun b H3 =>
    if b = true then tk σ2 H3 fun y H4 => tv σ2 H4 fun z H5 => ∃ kvs k, y = kV k ∧ H5 D = some (.dK kvs) ∧ kvs.length < sizeLine ∧ Nx (upd H5 D (.dK (putK kvs k z))) else Nx H3)
theorem sx_dc {wi : TI} {g : TG} {tt : TT} {tk tv : TE} {vs : List Nat} {σ : L2.St} {H : Hp} {Q : VK} (h : wi σ H (DcR g tt tk tv vs σ Q)) : tDc wi g tt tk tv vs σ H Q := h
section
variable {K : PySem.W.Frag} {M : Addr → Prop} {I : Hp → Prop} {H1 : Hp} {Q : VK} {σ : L2.St} {vs : List Nat} {i : Nat}
/-- {x: True for x in texts}, the texts distinct -/
theorem dc_true {x : V} {d : D} {F : List (List Nat)} (hw : Wf M I) (hI : I H1) (hx : Rep K M H1 x d) (hd : d.elems = some (F.map fun l => .str (T l))) (hn : F.Nodup) (hlen : F.length ≤ 100000) (hwp : ∀ v, wipe ((wipe σ vs).set i (some v)) vs = wipe σ vs) (hi : ∀ v, ((wipe σ vs).set i (some v))[i]? = some (some v))
    (hq : ∀ D H', H1 D = none → ¬ M D → H' D = some (.dK (F.map fun l => ((.inr (T l) : Key), V.bl true))) → Ex M H1 H' → I H' → Q (.ref D) H') : srcR K (DcR (gName i) tYes (tVar i) (tC (.bl true)) vs σ Q) x H1 := by
  obtain ⟨S, xs, rfl, r, hS⟩ := src_of hx hd
  have hxs : xs = F.map fun l => V.str (T l) := Reps.scal_inv (f := fun l => V.str (T l)) (g := fun l => D.str (T l)) (fun a v h => rep_str h) r
  have key : ∀ {J : It} {G : Hp → Prop} {Y : Nat → Hp → V → Hp → Prop}, L2.Walk J F.length G Y → (∀ H', Ex M H1 H' → G H') → (∀ k H x H', Y k H x H' → H' = H ∧ xs[k]? = some x) → DcR (gName i) tYes (tVar i) (tC (.bl true)) vs σ Q J H1 := fun {J G Y} w hG hY => by
    intro D hD
    have nM : ¬ M D := hw.fresh hI hD
    let St : Nat → Hp → Prop := fun k H => H D = some (.dK ((F.take k).map fun l => ((.inr (T l) : Key), V.bl true))) ∧ Ex (Mq M D) H1 H ∧ I H
    have hG2 : ∀ {k : Nat} {H : Hp}, St k H → G H := fun {k H} h => hG _ (h.2.1.shut hD)
    refine ⟨fun k m H => m = F.length - k ∧ k ≤ F.length ∧ St k H, ⟨F.length, by simp, Nat.zero_le _, upd_same, Ex.of (same_upd hD), hw.same (same_upd hD) hI⟩, ?_⟩
    rintro k m H ⟨rfl, hk, h⟩
    by_cases hlt : k < F.length
    · refine .inr ⟨w.goes k H hlt (hG2 h), St (k + 1), fun H' h' => ⟨F.length - (k + 1), by omega, rfl, hlt, h'⟩, fun y H' hy => ?_⟩
      obtain ⟨e, ey⟩ := hY k H y H' (w.yields k H y H' hlt (hG2 h) hy)
      subst e
      have ha : F[k]? = some F[k] := by simp [hlt]
      have ey2 : y = V.str (T F[k]) := by
        rw [hxs, List.getElem?_map, ha] at ey
        cases ey
        rfl
      subst ey2
      refine ⟨hwp _, sx_yes ?_⟩
      refine ifT ?_
      refine sx_var (hi _) ?_
      refine sx_c ?_
      have hni : T F[k] ∉ (F.take k).map T := fun hm => by
        obtain ⟨l, hl, e⟩ := List.mem_map.mp hm
        have e := T_inj e
        subst e
        have e2 : F = F.take k ++ F[k] :: F.drop (k + 1) := by rw [List.getElem_cons_drop, List.take_append_drop]
        rw [e2] at hn
        exact (List.nodup_append.mp hn).2.2 _ hl _ List.mem_cons_self rfl
      have hp : putK ((F.take k).map fun l => ((.inr (T l) : Key), V.bl true)) (.inr (T F[k])) (.bl true) = (F.take (k + 1)).map fun l => ((.inr (T l) : Key), V.bl true) := by
        have h2 : (((F.take k).map fun l => ((.inr (T l) : Key), V.bl true)).any fun kv => decide (kv.1 = (Sum.inr (T F[k]) : Key))) = false := by
          rw [List.any_eq_false]
          intro kv hkv
          obtain ⟨a, ha, rfl⟩ := List.mem_map.mp hkv
          simp only [decide_eq_true_eq, Sum.inr.injEq]
          intro e
          exact hni (List.mem_map.mpr ⟨a, ha, e⟩)
        unfold putK
        rw [if_neg (by rw [h2]; exact Bool.false_ne_true), take_snoc ha, List.map_append]
        rfl
      refine ⟨_, .inr (T F[k]), rfl, h.1, Nat.lt_of_lt_of_le (show _ < 100001 by rw [List.length_map, List.length_take]; omega) (by decide), ?_⟩
      rw [hp]
      refine ⟨upd_same, h.2.1.trans (fun a o n z => by rw [upd_ne fun e => n (.inr e)]; exact z), ?_⟩
      exact (hw.put (o := .dK ((F.take k).map fun l => ((.inr (T l) : Key), V.bl true))) nM ⟨h.2.2, h.1⟩).1.1
    · have e : k = F.length := by omega
      subst e
      refine .inl ⟨w.stops H (hG2 h), ?_⟩
      obtain ⟨h1, h2, h3⟩ := h
      rw [List.take_length] at h1
      exact hq D H hD nM h1 (h2.shut hD) h3
  have hl : xs.length = F.length := by rw [hxs]; simp
  cases S with
  | lst a =>
    refine .inl ⟨a, rfl, ⟨xs, hS H1 (Ex.refl _)⟩, ?_⟩
    have w := walk_list (K := K) (a := a) (xs := xs)
    rw [hl] at w
    exact key w hS fun k H x H' y => y
  | tup a =>
    refine .inr (.inl ⟨a, rfl, ⟨xs, hS H1 (Ex.refl _)⟩, ?_⟩)
    have w := walk_tup (K := K) (a := a) (xs := xs)
    rw [hl] at w
    exact key w hS fun k H x H' y => y
  | txt z =>
    refine .inr (.inr ⟨z, rfl, ?_⟩)
    have hxs2 : xs = signs z := hS H1 (Ex.refl _)
    have w := walk_str (z := z)
    have hz : z.cps.size = F.length := by rw [← hl, hxs2]; simp [signs]
    rw [hz] at w
    refine key w (fun _ _ => trivial) fun k H x H' y => ⟨y.1, ?_⟩
    obtain ⟨_, c, e1, e2⟩ := y
    rw [hxs2, e2]
    simp [signs, e1]
end
end Nt

namespace Nt
open PySem PySem.Spec PyProof.Rows L2
/-! ### quicker steps: the slots are kept as a written list -/
theorem gs_nameN {n : Nat} {σ σ' : L2.St} {H : Hp} {v : V} {G : L2.St → Hp → Prop} (e : σ.set n (some v) = σ') (h : G σ' H) : gName n v σ H G := by subst e; exact h
theorem st_eq {t : TS} {E : Ends} {σ σ' : L2.St} {H : Hp} (e : σ = σ') (h : t E σ' H) : t E σ H := by subst e; exact h
theorem tupK_id {Q : VK} {xs : List V} {H : Hp} (h : TupK Q xs H) : TupK Q xs H := h
theorem lstK_id {Q : VK} {xs : List V} {H : Hp} (h : LstK Q xs H) : LstK Q xs H := h
theorem two {M : Addr → Prop} {I : Hp → Prop} {H : Hp} {P : Hp → Prop} {G : Prop} (h1 : (∀ H', Ex M H H' → I H' → P H') → G) (h2 : ∀ H', Ex M H H' → I H' → P H') : G := h1 h2
end Nt

namespace Nt
open PySem PySem.Spec PyProof.Rows
/-! ### the head's facts, read off few objects -/
def propP (K : PySem.W.Frag) (C : Addr) (f : Str) : Addr := match PySem.W.findIn K (.ref C) f with
  | some (some (.ref p)) => p
  | _ => 0
def propG (K : PySem.W.Frag) (p : Addr) : Addr := match PySem.W.recIn K p "property" with
  | some (.ref g :: _) => g
  | _ => 0
/-- a def, its address by a rule -/
structure DefX where
  adr : PySem.W.Frag → Addr
  name : Str
  qual : Str
  params : Arguments
  body : List Stmt
  scope : Scope
  dfl : List He.Dv := []
  kwd : List (Str × He.Dv) := []
def DefX.val (d : DefX) : He.FnW := some (d.name, d.qual, d.params, .stmts d.body, d.scope, mainGlobals, [], builtinsNs)
def DefX.dvs (K : PySem.W.Frag) (d : DefX) : List L2.V := d.dfl.map (He.Dv.v K)
def DefX.kws (K : PySem.W.Frag) (d : DefX) : List (Str × L2.V) := d.kwd.map fun q => (q.1, q.2.v K)
def fnX (K : PySem.W.Frag) (a : Addr) : He.FnW := match K.lookup a with
  | some ⟨_, _, .func fd, _⟩ => some (fd.name, fd.qualname, fd.params, fd.body, fd.scope, fd.globals, fd.closure, fd.builtins)
  | _ => none
def DefX.ok (K : PySem.W.Frag) (d : DefX) : Bool := PySem.W.keepIn K (.ref (d.adr K)) && (match K.lookup (d.adr K) with
  | some ⟨_, _, .func fd, _⟩ => PySem.W.codeIn K fd.code d.qual && (He.dflB K fd.defaults (d.dvs K) && He.kwdB K fd.kwdefaults (d.kws K))
  | _ => false)
theorem DefX.funD {K : PySem.W.Frag} {d : DefX} (e : fnX K (d.adr K) = d.val) (c : d.ok K = true) : ∃ fd, L2.FunD K d.name d.qual d.params d.body d.scope (d.dvs K) (d.kws K) (d.adr K) fd := by
  obtain ⟨kp, c2⟩ := He.ba c
  unfold fnX at e
  cases q : K.lookup (d.adr K) with
  | none =>
    rw [q] at c2
    cases c2
  | some o =>
    obtain ⟨oc, od, dt, osl⟩ := o
    rw [q] at c2 e
    cases dt with
    | func fd =>
      obtain ⟨n1, n2, n3, n4, n5, n6, n7, n8, n9, n10, n11, n12, n13, n14, n15⟩ := fd
      have e2 : (some (n1, n2, n3, n4, n5, n6, n7, n15) : He.FnW) = some (d.name, d.qual, d.params, .stmts d.body, d.scope, mainGlobals, [], builtinsNs) := e
      simp only [Option.some.injEq, Prod.mk.injEq] at e2
      obtain ⟨h1, h2, h3, h4, h5, h6, h7, h8⟩ := e2
      subst h1 h2 h3 h4 h5 h6 h7 h8
      have c3 : (PySem.W.codeIn K n13 d.qual && (He.dflB K n8 (d.dvs K) && He.kwdB K n9 (d.kws K))) = true := c2
      obtain ⟨k1, k2⟩ := He.ba c3
      obtain ⟨k3, k4⟩ := He.ba k2
      exact ⟨_, ⟨oc, od, n8, n9, n10, n11, n12, n13, n14, osl, rfl, q, k1, He.dflB_ok k3, He.kwdB_ok k4⟩, kp⟩
    | _ => cases c2
/-- the built-in errors that own exceptions lean on -/
def baseL : List (String × List Value) := [("ValueError.__new__", [.type "ValueError", .type "Exception", .type "BaseException", .type "object"]), ("LookupError.__new__", [.type "LookupError", .type "Exception", .type "BaseException", .type "object"]), ("IndexError.__new__", [.type "IndexError", .type "LookupError", .type "Exception", .type "BaseException", .type "object"])]
def BaseF (n : String) (bmB : List Value) : Prop := ∃ B initId, ExcBaseFacts B n initId bmB ∧ StoreFacts B bmB "object.__setattr__" "object"
theorem base_of {p : String × List Value} (h : p ∈ baseL) : BaseF p.1 p.2 := by
  simp only [baseL, List.mem_cons, List.not_mem_nil, or_false] at h
  rcases h with rfl | rfl | rfl
  · exact ⟨_, _, F.excBase_ValueError, F.store_ValueError⟩
  · exact ⟨_, _, F.excBase_LookupError, F.store_LookupError⟩
  · exact ⟨_, _, F.excBase_IndexError, F.store_IndexError⟩
/-- an own exception class, whatever built-in it leans on -/
structure OexG (K : PySem.W.Frag) (C : Addr) : Prop where
  cls : ∃ newId bmB, BaseF newId bmB ∧ ∃ nm q N bs bm sn sub ab col dd k0 k1 k2 k3 k5, K.lookup C = some (excClassObj nm q C N bs bm true sn sub ab col dd k0 k1 k2 k3 k5 newId) ∧ PySem.W.excTail bmB bm = true
  sa : PySem.W.findIn K (.ref C) "__setattr__" = some (some (.builtin "object.__setattr__"))
  exC : PySem.W.subIn K (.ref C) (.type "BaseException") = some true
  tyC : PySem.W.typeIn K (.ref C) = some (.type "type")
  kC : PySem.W.keepIn K (.ref C) = true
/-- .. as its object stands -/
def oexB (K : PySem.W.Frag) (C : Addr) : Bool := match K.lookup C with
  | some ⟨.type "type", _, .cls cd, sl⟩ => (match cd.mro, sl.toList with
    | .ref C' :: bm, [_, _, _, _, some (.builtin n), _] => decide (C' = C) && (cd.hasDict && (!cd.hasDel && baseL.any fun p => decide (n = p.1) && PySem.W.excTail p.2 bm))
    | _, _ => false)
  | _ => false
theorem oexB_ok {K : PySem.W.Frag} {C : Addr} (q : oexB K C = true) : ∃ newId bmB, BaseF newId bmB ∧ ∃ nm q N bs bm sn sub ab col dd k0 k1 k2 k3 k5, K.lookup C = some (excClassObj nm q C N bs bm true sn sub ab col dd k0 k1 k2 k3 k5 newId) ∧ PySem.W.excTail bmB bm = true := by
  unfold oexB at q
  split at q
  · rename_i dd cd sl ho
    split at q
    · rename_i C' bm k0 k1 k2 k3 n k5 hm hs
      obtain ⟨q1, q⟩ := He.ba q
      obtain ⟨q3, q⟩ := He.ba q
      obtain ⟨q4, q5⟩ := He.ba q
      obtain ⟨p, hp, q6⟩ := List.any_eq_true.mp q5
      obtain ⟨q7, q8⟩ := He.ba q6
      have e1 := of_decide_eq_true q1
      have e2 := of_decide_eq_true q7
      obtain ⟨nm, bs, mro, ns, qn, hd, sn, sub, ab, col, del⟩ := cd
      dsimp only at hm q3 q4
      have e4 : del = false := by simpa using q4
      subst hm e1 e2 q3 e4
      have hsl : sl = #[k0, k1, k2, k3, some (.builtin p.1), k5] := by
        obtain ⟨l⟩ := sl
        simp only at hs
        rw [hs]
      subst hsl
      exact ⟨p.1, p.2, base_of hp, nm, qn, ns, bs, bm, sn, sub, ab, col, dd, k0, k1, k2, k3, k5, ho, q8⟩
    · cases q
  · cases q
inductive FaX where
  | he (f : He.Fa)
  | prop (c f : Str)
  | isc (c : Str)
  | oex (c : Str)
  | any (f : PySem.W.Frag → Bool)
def FaX.ok (K : PySem.W.Frag) : FaX → Bool
  | .any f => f K
  | .he f => f.ok K
  | .prop c f => He.eqO (PySem.W.findIn K (.ref (He.ga K c)) f) (some (some (.ref (propP K (He.ga K c) f)))) && (He.eqO (PySem.W.specialIn K (.ref (propP K (He.ga K c) f)) "__get__") (some (some (.builtin "property.__get__"))) &&
      (decide (PySem.W.takesIn K (.ref (propP K (He.ga K c) f)) = some true) && (match PySem.W.recIn K (propP K (He.ga K c) f) "property" with
        | some (.ref g :: _) => decide (g = propG K (propP K (He.ga K c) f))
        | _ => false)))
  | .isc c => He.eqO (PySem.W.findIn K (.ref (He.ga K c)) "__class__") (some (some (.builtin "object.__class__"))) && (He.eqO (PySem.W.specialIn K (.builtin "object.__class__") "__get__") (some (some (.builtin "getset_descriptor.__get__"))) &&
      (decide (PySem.W.takesIn K (.builtin "object.__class__") = some true) && decide (PySem.W.mroIn K (He.ga K c) (.type "object") = some true)))
  | .oex c => oexB K (He.ga K c) && (He.eqO (PySem.W.findIn K (.ref (He.ga K c)) "__setattr__") (some (some (.builtin "object.__setattr__"))) && (decide (PySem.W.subIn K (.ref (He.ga K c)) (.type "BaseException") = some true) &&
      (decide (PySem.W.typeIn K (.ref (He.ga K c)) = some (.type "type")) && (PySem.W.keepIn K (.ref (He.ga K c)) && (L2.xfB K (He.ga K c) && (decide (PySem.W.exmOne K (.ref (He.ga K c)) (.ref (He.ga K c)) = some true) &&
      (He.eqO (PySem.W.findIn K (.ref (He.ga K c)) "__init__") (some (some (.ref (He.ma K (He.ga K c) "__init__")))) && decide (PySem.W.typeIn K (.ref (He.ma K (He.ga K c) "__init__")) = some (.type "function")))))))))
theorem oex_ok {K : PySem.W.Frag} {c : Str} (h : (FaX.oex c).ok K = true) : OexG K (He.ga K c) ∧ L2.XfC K (He.ga K c) ∧ PySem.W.exmOne K (.ref (He.ga K c)) (.ref (He.ga K c)) = some true ∧
    PySem.W.findIn K (.ref (He.ga K c)) "__init__" = some (some (.ref (He.ma K (He.ga K c) "__init__"))) ∧ PySem.W.typeIn K (.ref (He.ma K (He.ga K c) "__init__")) = some (.type "function") := by
  obtain ⟨h1, h⟩ := He.ba h
  obtain ⟨h2, h⟩ := He.ba h
  obtain ⟨h3, h⟩ := He.ba h
  obtain ⟨h4, h⟩ := He.ba h
  obtain ⟨h5, h⟩ := He.ba h
  obtain ⟨h6, h⟩ := He.ba h
  obtain ⟨h7, h⟩ := He.ba h
  obtain ⟨h8, h9⟩ := He.ba h
  exact ⟨⟨oexB_ok h1, He.eqO_ok h2, of_decide_eq_true h3, of_decide_eq_true h4, h5⟩, L2.xfB_ok h6, of_decide_eq_true h7, He.eqO_ok h8, of_decide_eq_true h9⟩
/-- an own class, as a value -/
structure ClsG (K : PySem.W.Frag) (mg : Str → Option Value) (c : Str) : Prop where
  mgx : mg c = some (.ref (He.ga K c))
  ha : PySem.W.findIn K (.ref (He.ga K c)) "__class__" = some (some (.builtin "object.__class__"))
  hn : PySem.W.specialIn K (.builtin "object.__class__") "__get__" = some (some (.builtin "getset_descriptor.__get__"))
  htk : PySem.W.takesIn K (.builtin "object.__class__") = some true
  hm : PySem.W.mroIn K (He.ga K c) (.type "object") = some true
theorem isc_ok {K : PySem.W.Frag} {mg : Str → Option Value} {c : Str} (g : mg c = some (.ref (He.ga K c))) (h : (FaX.isc c).ok K = true) : ClsG K mg c := by
  obtain ⟨h1, h⟩ := He.ba h
  obtain ⟨h2, h⟩ := He.ba h
  obtain ⟨h3, h4⟩ := He.ba h
  exact ⟨g, He.eqO_ok h1, He.eqO_ok h2, of_decide_eq_true h3, of_decide_eq_true h4⟩
theorem prop_ok {K : PySem.W.Frag} {c f : Str} (h : (FaX.prop c f).ok K = true) : L2.PropOf K (He.ga K c) f (propP K (He.ga K c) f) (propG K (propP K (He.ga K c) f)) := by
  obtain ⟨h1, h⟩ := He.ba h
  obtain ⟨h2, h⟩ := He.ba h
  obtain ⟨h3, h4⟩ := He.ba h
  refine ⟨He.eqO_ok h1, He.eqO_ok h2, of_decide_eq_true h3, ?_⟩
  cases e : PySem.W.recIn K (propP K (He.ga K c) f) "property" with
  | none => rw [e] at h4; cases h4
  | some l =>
    rw [e] at h4
    cases l with
    | nil => cases h4
    | cons v l =>
      cases v with
      | ref g => exact ⟨l, by rw [of_decide_eq_true h4]⟩
      | _ => cases h4
/-- lists of addresses, told out -/
def forceL {α : Type} : List Nat → (List Nat → α) → α
  | [], k => k []
  | a :: as, k => Nat.casesOn (motive := fun _ => α) a (forceL as fun l => k (0 :: l)) fun m => forceL as fun l => k (Nat.succ m :: l)
theorem forceL_eq {α : Type} : ∀ (as : List Nat) (k : List Nat → α), forceL as k = k as
  | [], _ => rfl
  | 0 :: as, k => forceL_eq as _
  | (m + 1) :: as, k => forceL_eq as _
def refsA (g : Addr → Option Obj) (a : Addr) : List Addr := match g a with
  | some o => He.refsD o
  | none => []
/-- the functions' code and defaults -/
def refsF (g : Addr → Option Obj) (a : Addr) : List Addr := match g a with
  | some o => (match o.data with
    | .func fd => He.refV fd.code ++ (He.refV fd.defaults ++ He.refV fd.kwdefaults)
    | _ => [])
  | none => []
/-- the items of the tuples of defaults -/
def refsT (g : Addr → Option Obj) (a : Addr) : List Addr := match g a with
  | some ⟨_, _, .seq its _, _⟩ => its.toList.flatMap He.refV
  | _ => []
def refsC (g : Addr → Option Obj) (a : Addr) : List Addr := match g a with
  | some o => (match o.data with
    | .cls cd => cd.ns :: cd.mro.flatMap He.refV
    | _ => [])
  | none => []
abbrev CM : Type := Str × List Str × List Str
/-- what is read: the names' objects, the classes' parts, the methods, what functions lean on -/
def withA {α : Type} (g : Addr → Option Obj) (glo : List Str) (cls : List CM) (xcl : List Str) (k : List Addr → α) : α :=
  forceL (glo.map (He.ga (He.frG g [mainGlobals]))) fun A1 =>
  forceL ((cls.flatMap fun c => let a := He.ga (He.frG g [mainGlobals]) c.1; a :: refsC g a) ++ (xcl.flatMap fun c => (refsC g (He.ga (He.frG g [mainGlobals]) c)).flatMap (refsC g))) fun A2 =>
  forceL (cls.flatMap fun c => let K1 := He.frG g (mainGlobals :: A2); let a := He.ga K1 c.1; c.2.1.map (He.ma K1 a) ++ c.2.2.map (propP K1 a)) fun A3 =>
  forceL (A3.map (propG (He.frG g A3))) fun A4 =>
  forceL ((A1 ++ (A3 ++ A4)).flatMap (refsF g)) fun A5 =>
  forceL (A5.flatMap (refsT g)) fun A6 =>
  k (mainGlobals :: (A2 ++ (A3 ++ (A4 ++ (A1 ++ (A5 ++ A6))))))
theorem withA_eq {α : Type} (g : Addr → Option Obj) (glo : List Str) (cls : List CM) (xcl : List Str) : ∃ as, ∀ k : List Addr → α, withA g glo cls xcl k = k as := by
  unfold withA
  simp only [forceL_eq]
  exact ⟨_, fun k => rfl⟩
def obsX (fa : List FaX) (fn : List DefX) (K : PySem.W.Frag) : He.AlD := ((fa.all fun f => f.ok K) && fn.all fun d => d.ok K, fn.map fun d => fnX K (d.adr K))
def valX (fn : List DefX) : He.AlD := (true, fn.map DefX.val)
def SaysX (fa : List FaX) (fn : List DefX) (K : PySem.W.Frag) : Prop := obsX fa fn K = valX fn
def obsXG (glo : List Str) (cls : List CM) (xcl : List Str) (fa : List FaX) (fn : List DefX) (g : Addr → Option Obj) : He.AlD := withA g glo cls xcl fun as => obsX fa fn (He.frG g as)
def hookX (glo : List Str) (cls : List CM) (xcl : List Str) (fa : List FaX) (fn : List DefX) : PySem.W.Hook where
  α := He.AlD
  obs := fun s => obsXG glo cls xcl fa fn s.heap.get?
  val := fun _ => valX fn
  says := fun _ h => ∃ K : PySem.W.Frag, K.In h ∧ SaysX fa fn K
  of := fun _ s e => by
    obtain ⟨as, h⟩ := withA_eq (α := He.AlD) s.heap.get? glo cls xcl
    exact ⟨_, He.frG_in, (h _).symm.trans e⟩
  keeps := fun _ _ _ ⟨K, hK, c⟩ k => ⟨K, PySem.W.Frag.In.keeps hK k, c⟩
theorem obsXG_eq {glo : List Str} {cls : List CM} {xcl : List Str} {fa : List FaX} {fn : List DefX} {g : Addr → Option Obj} {s : Shared} (h : ∀ a, g a = s.heap.get? a) : obsXG glo cls xcl fa fn g = (hookX glo cls xcl fa fn).obs s := by
  have e : g = s.heap.get? := funext h
  rw [e] <;> rfl
section
variable {fa : List FaX} {fn : List DefX} {K : PySem.W.Frag}
theorem SaysX.factX (c : SaysX fa fn K) (i : Nat) {f : FaX} (h : fa[i]? = some f := by rfl) : f.ok K = true := by
  have c1 := (He.ba (show ((fa.all fun f => f.ok K) && fn.all fun d => d.ok K) = true from congrArg (fun z : He.AlD => z.1) c)).1
  exact List.all_eq_true.mp c1 f (List.mem_of_getElem? h)
theorem SaysX.fact (c : SaysX fa fn K) (i : Nat) {f : He.Fa} (h : fa[i]? = some (.he f) := by rfl) : f.ok K = true := c.factX i (f := .he f) h
theorem SaysX.def_ (c : SaysX fa fn K) (i : Nat) {d : DefX} (h : fn[i]? = some d := by rfl) : ∃ fd, L2.FunD K d.name d.qual d.params d.body d.scope (d.dvs K) (d.kws K) (d.adr K) fd := by
  have c2 := (He.ba (show ((fa.all fun f => f.ok K) && fn.all fun d => d.ok K) = true from congrArg (fun z : He.AlD => z.1) c)).2
  have e : fn.map (fun d => fnX K (d.adr K)) = fn.map DefX.val := congrArg (fun z : He.AlD => z.2) c
  have e2 : (fn.map fun d => fnX K (d.adr K))[i]? = (fn.map DefX.val)[i]? := by rw [e]
  rw [List.getElem?_map, List.getElem?_map, h] at e2
  exact DefX.funD (Option.some.inj e2) (List.all_eq_true.mp c2 d (List.mem_of_getElem? h))
end
end Nt

namespace Nt
open PySem PySem.Spec PyProof.Rows L2
/-! ### a def walked, wherever it stands -/
def Bok (P : Program) (w : World) (K : PySem.W.Frag) (mg : Str → Option Value) (base : Heap) (k : Nat) (q : Str) (st : Stmt) (ps : List Str) (sp : Sp) : Prop :=
  ∀ {m : Str} {dfl : List V} {kws : List (Str × V)} {f : Addr} {fd : FuncData}, FunD K m q (defArgs st) (defBody st) (defScope st) dfl kws f fd → FnOk P w K mg base (L2.CX P w) k f fd ps sp
/-- how a keyword call fills the parameters: a keyword's value by its place, or a default -/
def pickL {α : Type} (d : α) (idx : List (Nat ⊕ Nat)) (zs ms : List α) : List α := idx.map fun
  | .inl i => zs.getD i d
  | .inr j => ms.getD j d
def kwV (idx : List (Nat ⊕ Nat)) (ms : List V) (vs zs : List V) : List V := vs ++ pickL .non idx zs ms
structure AtK (K : PySem.W.Frag) (c m q : Str) (st : Stmt) (ps : List Str) (n : Nat) (ks : List Str) (gV : List V → List V → List V) : Prop where
  meth : Meth K (He.ga K c) m (He.ma K (He.ga K c) m)
  ex : ∃ fd dfl kws, FunD K m q (defArgs st) (defBody st) (defScope st) dfl kws (He.ma K (He.ga K c) m) fd ∧ ∃ g, KBn K fd ps n ks g gV
structure DfK (P : Program) (w : World) (K : PySem.W.Frag) (mg : Str → Option Value) (base : Heap) (k : Nat) (c m : Str) (ps : List Str) (n : Nat) (ks : List Str) (gV : List V → List V → List V) (sp : Sp) : Prop where
  meth : Meth K (He.ga K c) m (He.ma K (He.ga K c) m)
  ok : ∃ fd, FnOk P w K mg base (L2.CX P w) k (He.ma K (He.ga K c) m) fd ps sp ∧ ∃ g, KBn K fd ps n ks g gV
/-- a property -/
structure AtP (K : PySem.W.Frag) (c f q : Str) (st : Stmt) : Prop where
  prop : PropOf K (He.ga K c) f (propP K (He.ga K c) f) (propG K (propP K (He.ga K c) f))
  ex : ∃ fd dfl kws, FunD K f q (defArgs st) (defBody st) (defScope st) dfl kws (propG K (propP K (He.ga K c) f)) fd ∧ Binds K fd ["self"] []
structure DfP (P : Program) (w : World) (K : PySem.W.Frag) (mg : Str → Option Value) (base : Heap) (k : Nat) (c f : Str) (sp : Sp) : Prop where
  prop : PropOf K (He.ga K c) f (propP K (He.ga K c) f) (propG K (propP K (He.ga K c) f))
  ok : ∃ fd, FnOk P w K mg base (L2.CX P w) k (propG K (propP K (He.ga K c) f)) fd ["self"] sp ∧ Binds K fd ["self"] []
/-- a method with *rows -/
structure AtS (K : PySem.W.Frag) (c m q : Str) (st : Stmt) (ps : List Str) (pv : Str) : Prop where
  meth : Meth K (He.ga K c) m (He.ma K (He.ga K c) m)
  ex : ∃ fd dfl kws, FunD K m q (defArgs st) (defBody st) (defScope st) dfl kws (He.ma K (He.ga K c) m) fd ∧
    ∀ us rest : List Value, us.length = ps.length → bindArgs fd ⟨us ++ rest, []⟩ = (newTuple rest >>= fun t => pure (ps.zip us ++ [(pv, t)]))
def spS (n : Nat) (sp : Sp) : Sp := fun vs H Q E => ∃ ws rest, vs = ws ++ rest ∧ ws.length = n ∧ rest.length ≤ sizeLine ∧ ∀ p, H p = Option.none → sp (ws ++ [V.ref p]) (upd H p (.tup rest)) Q E
structure DfS (P : Program) (w : World) (K : PySem.W.Frag) (mg : Str → Option Value) (base : Heap) (k : Nat) (c m : Str) (sp : Sp) : Prop where
  meth : Meth K (He.ga K c) m (He.ma K (He.ga K c) m)
  ok : FnR P w K mg base (L2.CX P w) k (He.ma K (He.ga K c) m) sp
section
variable {P : Program} {w : World} {K : PySem.W.Frag} {mg : Str → Option Value} {base : Heap} {k n : Nat} {x y c m q pv : Str} {ps ks : List Str} {dfl dvs : List V} {sp : Sp} {st : Stmt} {N : List Str} {gV : List V → List V → List V}
theorem Bok.mk (S : FnScope N ps (defScope st)) (len : ∀ vs H Q E, sp vs H Q E → vs.length = ps.length)
    (hbody : ∀ (f : Addr) (cdv : Value) (A : Around) (outer : List Env) (s : Shared) (H : Hp) (vs : List V) (Q : VK) (E : XK), Room k (A.deeper (envOfC q (defScope st) s.heap.objs.size f cdv)) → sp vs H Q E →
      ∃ t, PSs (cxOf (L2.CX P w) P w K mg base N q (defScope st) f cdv A outer s H E).nox (defBody st) t ∧ t { nx := fun _ H' => Q .non H', rt := Q } (start N vs) H) : Bok P w K mg base (k + 1) q st ps sp := by
  intro m dfl kws f fd F
  refine F.ok S len fun cdv A outer s H vs Q E hr h => ?_
  obtain ⟨t, h1, h2⟩ := hbody _ cdv A outer s H vs Q E hr h
  exact ⟨t, h1.nox, h2⟩
/-- a def that may raise -/
theorem Bok.mkX (S : FnScope N ps (defScope st)) (len : ∀ vs H Q E, sp vs H Q E → vs.length = ps.length)
    (hbody : ∀ (f : Addr) (cdv : Value) (A : Around) (outer : List Env) (s : Shared) (H : Hp) (vs : List V) (Q : VK) (E : XK), Room k (A.deeper (envOfC q (defScope st) s.heap.objs.size f cdv)) → sp vs H Q E →
      ∃ t, PSs (cxOf (L2.CX P w) P w K mg base N q (defScope st) f cdv A outer s H E) (defBody st) t ∧ t { nx := fun _ H' => Q .non H', rt := Q } (start N vs) H) : Bok P w K mg base (k + 1) q st ps sp := by
  intro m dfl kws f fd F
  exact F.ok S len fun cdv A outer s H vs Q E hr h => hbody _ cdv A outer s H vs Q E hr h
theorem Bok.df (b : Bok P w K mg base k x st ps sp) (F : At K mg x st ps dfl) : Df P w K mg base k x ps dfl sp := by
  obtain ⟨fd, F1, F2⟩ := F.ex
  exact ⟨F.mgx, ⟨fd, b F1, F2⟩, F1.kp⟩
theorem Bok.da (b : Bok P w K mg base k y st ps sp) (F : AtA K mg x y st ps dfl) : Df P w K mg base k x ps dfl sp := by
  obtain ⟨fd, F1, F2⟩ := F.ex
  exact ⟨F.mgx, ⟨fd, b F1, F2⟩, F1.kp⟩
theorem Bok.dm (b : Bok P w K mg base k q st ps sp) (F : AtM K c m q st ps dvs) : DfM P w K mg base k c m ps dvs sp := by
  obtain ⟨fd, dfl, kws, F1, F2⟩ := F.ex
  exact ⟨F.meth, fd, b F1, F2⟩
theorem Bok.di (b : Bok P w K mg base k q st ps sp) (F : AtI K mg c q st ps dvs) : DfI P w K mg base k c ps dvs sp := by
  obtain ⟨fd, dfl, kws, F1, F2⟩ := F.ex
  exact ⟨F.mgx, F.mkr, fd, b F1, F2⟩
theorem Bok.dk (b : Bok P w K mg base k q st ps sp) (F : AtK K c m q st ps n ks gV) : DfK P w K mg base k c m ps n ks gV sp := by
  obtain ⟨fd, dfl, kws, F1, F2⟩ := F.ex
  exact ⟨F.meth, fd, b F1, F2⟩
theorem Bok.dp (b : Bok P w K mg base k q st ["self"] sp) (F : AtP K c m q st) : DfP P w K mg base k c m sp := by
  obtain ⟨fd, dfl, kws, F1, F2⟩ := F.ex
  exact ⟨F.prop, fd, b F1, F2⟩
/-- a method with *rows, walked -/
theorem AtS.ds (F : AtS K c m q st ps pv) (S : FnScope N (ps ++ [pv]) (defScope st))
    (hbody : ∀ (f : Addr) (cdv : Value) (A : Around) (outer : List Env) (s : Shared) (H : Hp) (vs : List V) (Q : VK) (E : XK), Room k (A.deeper (envOfC q (defScope st) s.heap.objs.size f cdv)) → sp vs H Q E →
      ∃ t, PSs (cxOf (L2.CX P w) P w K mg base N q (defScope st) f cdv A outer s H E).nox (defBody st) t ∧ t { nx := fun _ H' => Q .non H', rt := Q } (start N vs) H) : DfS P w K mg base (k + 1) c m (spS ps.length sp) := by
  obtain ⟨fd, dfl, kws, F1, F2⟩ := F.ex
  obtain ⟨oc, od, dV, kV, doc, pm, an, cdv, ct, osl, rfl, lk, hcd, _, _⟩ := F1.ex
  refine ⟨F.meth, StX.fn_star lk hcd S StX.cxUp F2 fun A outer s H vs Q E hr h => ?_⟩
  obtain ⟨t, h1, h2⟩ := hbody _ cdv A outer s H vs Q E hr h
  exact ⟨t, h1.nox, h2⟩
theorem vals_getD : ∀ {zs : List V} {ws : List Value} (i : Nat), Vals zs ws → RelV (zs.getD i .non) (ws.getD i .none)
  | _, _, _, .nil => rfl
  | _, _, 0, .cons r _ => r
  | _, _, i + 1, .cons _ rs => by simpa using vals_getD i rs
theorem vals_pick {idx : List (Nat ⊕ Nat)} {zs ms : List V} {ws us : List Value} (r : Vals zs ws) (r2 : Vals ms us) : Vals (pickL .non idx zs ms) (pickL .none idx ws us) := by
  induction idx with
  | nil => exact .nil
  | cons i idx ih =>
    cases i with
    | inl i => exact .cons (vals_getD i r) ih
    | inr j => exact .cons (vals_getD j r2) ih
theorem vals_app : ∀ {vs zs : List V} {us ws : List Value}, Vals vs us → Vals zs ws → Vals (vs ++ zs) (us ++ ws)
  | _, _, _, _, .nil, h => h
  | _, _, _, _, .cons r rs, h => .cons r (vals_app rs h)
/-- o.m(e, .., k = v, ..): keyword-only parameters, some of them by their defaults -/
theorem kb_some {params : Arguments} {body : List Stmt} {scope : Scope} {kws : List (Str × V)} {f : Addr} {fd : FuncData} (F : FunD K x q params body scope [] kws f fd) (n : Nat) (ks : List Str) (ms : List (Str × V)) (idx : List (Nat ⊕ Nat)) (hk : kws ≠ []) (hms : ∀ z ∈ ms, z ∈ kws)
    (h : ∀ (D : Addr) (doc pm : Value) (an : Option Addr) (cdv ct : Value) (us mv ws : List Value), us.length = n → mv.length = ms.length → ws.length = ks.length →
      KwChain D ((ms.map (·.1)).zip mv) (bindArgs (PySem.W.fnOf x q params body scope .none (.ref D) doc pm an cdv ct) ⟨us, ks.zip ws⟩) (ps.zip (us ++ pickL .none idx ws mv))) : ∃ g, KBn K fd ps n ks g (kwV idx (ms.map (·.2))) := by
  obtain ⟨oc, od, dV, kV, doc, pm, an, cdv, ct, osl, rfl, lk, hcd, hD, hK⟩ := F.ex
  rcases hD with ⟨_, rfl⟩ | ⟨e, _⟩
  · rcases hK with e | ⟨D, rfl, hq⟩
    · exact absurd e hk
    · obtain ⟨mv, hl, rk, hks⟩ := kwd_vals (ms := ms) fun z hz => hq z (hms z hz)
      refine ⟨fun us ws => us ++ pickL .none idx ws mv, fun s us ws X l1 l2 => ?_, fun r1 r2 => vals_app r1 (vals_pick r2 rk)⟩
      exact BindsTo.of_looks fun M => KwChain.looks X hks (h D doc pm an cdv ct us mv ws l1 hl l2)
  · exact absurd rfl e
/-- .. all of them written -/
theorem kb_all {params : Arguments} {body : List Stmt} {scope : Scope} {kws : List (Str × V)} {f : Addr} {fd : FuncData} (F : FunD K x q params body scope [] kws f fd) (n : Nat) (ks : List Str) (idx : List (Nat ⊕ Nat))
    (h : ∀ (kV doc pm : Value) (an : Option Addr) (cdv ct : Value) (us ws : List Value), us.length = n → ws.length = ks.length →
      bindArgs (PySem.W.fnOf x q params body scope .none kV doc pm an cdv ct) ⟨us, ks.zip ws⟩ = pure (ps.zip (us ++ pickL .none idx ws []))) : ∃ g, KBn K fd ps n ks g (kwV idx []) := by
  obtain ⟨oc, od, dV, kV, doc, pm, an, cdv, ct, osl, rfl, lk, hcd, hD, hK⟩ := F.ex
  rcases hD with ⟨_, rfl⟩ | ⟨e, _⟩
  · refine ⟨fun us ws => us ++ pickL .none idx ws [], fun s us ws X l1 l2 => ?_, fun r1 r2 => vals_app r1 (vals_pick r2 .nil)⟩
    exact BindsTo.of_looks fun M => .of_pure (h kV doc pm an cdv ct us ws l1 l2)
  · exact absurd rfl e
end
/-! ### the calls -/
def tMethK (C : Addr) (m : Str) (n nk : Nat) (sp : Sp) (gV : List V → List V → List V) (E : XK) (ta : TE) (t tk : TA) : TE := fun σ H Q => ta σ H fun x H1 => ∃ a dx fs, x = .ref a ∧ H1 a = some (.ins C dx fs) ∧ fs.lookup m = none ∧ t σ H1 fun vs H2 => tk σ H2 fun zs H3 => vs.length + 1 = n ∧ zs.length = nk ∧ sp (gV (x :: vs) zs) H3 Q E
section
variable {X : Cx} {k n : Nat} {c m : Str} {ps ks : List Str} {sp : Sp} {o e : Expr} {es : List Expr} {kws : List Keyword} {ta : TE} {t tk : TA} {pos apos : Pos} {gV : List V → List V → List V}
theorem pe_dk0 {fl : List Str} {nk : Nat} (G : DfK X.prog X.w X.K X.mg X.base k c m ps n ks gV sp) (C : ClsF X.K c fl) (hr : Room k X.A) (he : PE X o ta) (hkw : PK X kws tk) {pl : Sem Bool}
    (ht : eval (.Call (.Attribute o m apos) [] kws pos) X.env = (do
      let ov ← eval o X.env
      standAt apos.atName
      let (f, first) ← holding [ov] (getMethod ov m pl)
      callWith pos f first (backTo pos (starEach [] X.env)) (backToKw pos (keywordEach kws X.env))) := by rfl)
    (hall : (backToKw pos (keywordEach kws X.env)).all (·.1.isSome) = true := by rfl) (hks : (backToKw pos (keywordEach kws X.env)).filterMap (·.1) = ks := by rfl)
    (hpl : ((backTo pos (starEach [] X.env)).any (·.1) || (backToKw pos (keywordEach kws X.env)).any (·.1.isNone)) = false := by rfl) (hnk : ks.length = nk := by rfl) :
    PE X (.Call (.Attribute o m apos) [] kws pos) (tMethK (He.ga X.K c) m n nk sp gV E0 ta tNil tk) := by
  subst hnk
  obtain ⟨fd, F, g, b⟩ := G.ok
  refine ⟨fun pins s σ H Q I h => ?_⟩
  refine PySem.W.methodCall_KW (pl := pl) (thn (he.run pins s σ H _ I h) fun u s1 ⟨x, H1, I1, rx, a, dx, fs, ex, ea, l, q⟩ => ?_) ht
  subst ex
  obtain rfl : u = Value.ref a := rx
  refine getmeth_ok I1 ea C.cls G.meth l ?_
  refine PySem.W.callWith_KW0 (first := [.ref a]) (h₀ := X.base) I.ok.mod.kin G.meth.kp hall (thn (hkw.run pos pins s1 σ H1 _ I1 q) fun ws s2 ⟨zs, H2, I2, rz, l1, l2, q2⟩ => ⟨I2.kIn, ?_⟩) hpl
  rw [hks]
  exact run_fnN (us := [.ref a]) (vs := [.ref a]) F hr b passL I2 (.cons rfl .nil) rz l1 l2 q2
theorem pe_dk {fl : List Str} {nk : Nat} (G : DfK X.prog X.w X.K X.mg X.base k c m ps n ks gV sp) (C : ClsF X.K c fl) (hr : Room k X.A) (he : PE X o ta) (ha : PA X (e :: es) t) (hkw : PK X kws tk) {pl : Sem Bool}
    (ht : eval (.Call (.Attribute o m apos) (e :: es) kws pos) X.env = (do
      let ov ← eval o X.env
      standAt apos.atName
      let (f, first) ← holding [ov] (getMethod ov m pl)
      callWith pos f first (backTo pos (starEach (e :: es) X.env)) (backToKw pos (keywordEach kws X.env))) := by rfl)
    (hall : (backToKw pos (keywordEach kws X.env)).all (·.1.isSome) = true := by rfl) (hks : (backToKw pos (keywordEach kws X.env)).filterMap (·.1) = ks := by rfl)
    (hst : starEach (e :: es) X.env = (false, eval e X.env) :: starEach es X.env := by rfl)
    (hpl : ((backTo pos (starEach (e :: es) X.env)).any (·.1) || (backToKw pos (keywordEach kws X.env)).any (·.1.isNone)) = false := by rfl) (hnk : ks.length = nk := by rfl) :
    PE X (.Call (.Attribute o m apos) (e :: es) kws pos) (tMethK (He.ga X.K c) m n nk sp gV E0 ta t tk) := by
  subst hnk
  obtain ⟨fd, F, g, b⟩ := G.ok
  refine ⟨fun pins s σ H Q I h => ?_⟩
  refine PySem.W.methodCall_KW (pl := pl) (thn (he.run pins s σ H _ I h) fun u s1 ⟨x, H1, I1, rx, a, dx, fs, ex, ea, l, q⟩ => ?_) ht
  subst ex
  obtain rfl : u = Value.ref a := rx
  refine getmeth_ok I1 ea C.cls G.meth l ?_
  refine PySem.W.callWith_KW (first := [.ref a]) (h₀ := X.base) I.ok.mod.kin G.meth.kp hall (thn (ha.run pos pins s1 σ H1 _ I1 q) fun us s2 ⟨vs, H2, I2, r, q2⟩ => ?_) hpl hst
  refine thn (hkw.run pos pins s2 σ H2 _ I2 q2) fun ws s3 ⟨zs, H3, I3, rz, l1, l2, q3⟩ => ⟨I3.kIn, ?_⟩
  rw [hks]
  exact run_fnN (us := .ref a :: us) (vs := .ref a :: vs) F hr b passL I3 (.cons rfl r) rz l1 l2 q3
/-- o.m(e, ..), m with *rows -/
theorem pe_ds {fl : List Str} (G : DfS X.prog X.w X.K X.mg X.base k c m sp) (C : ClsF X.K c fl) (hr : Room k X.A) (he : PE X o ta) (ha : PA X (e :: es) t) {pl : Sem Bool}
    (hst : starEach (e :: es) X.env = (false, eval e X.env) :: starEach es X.env := by rfl) (hpl : (backTo pos (starEach es X.env)).any (·.1) = false := by rfl)
    (ht : eval (.Call (.Attribute o m apos) (e :: es) [] pos) X.env = (do
      let ov ← eval o X.env
      standAt apos.atName
      let (f, first) ← holding [ov] (getMethod ov m pl)
      callWith pos f first (backTo pos (starEach (e :: es) X.env)) (backToKw pos (keywordEach [] X.env))) := by rfl) :
    PE X (.Call (.Attribute o m apos) (e :: es) [] pos) (tMethR (He.ga X.K c) m sp E0 ta t) := pe_methR he C.cls G.meth G.ok hr passL ha hst hpl ht
theorem pe_ds0 {fl : List Str} (G : DfS X.prog X.w X.K X.mg X.base k c m sp) (C : ClsF X.K c fl) (hr : Room k X.A) (he : PE X o ta) {pl : Sem Bool}
    (ht : eval (.Call (.Attribute o m apos) [] [] pos) X.env = (do
      let ov ← eval o X.env
      standAt apos.atName
      let (f, first) ← holding [ov] (getMethod ov m pl)
      callWith pos f first (backTo pos (starEach [] X.env)) (backToKw pos (keywordEach [] X.env))) := by rfl) :
    PE X (.Call (.Attribute o m apos) [] [] pos) (tMethR (He.ga X.K c) m sp E0 ta tNil) := by
  refine ⟨fun pins s σ H Q I h => ?_⟩
  refine PySem.W.methodCall_KW (pl := pl) (thn (he.run pins s σ H _ I h) fun u s1 ⟨x, H1, I1, rx, a, dx, fs, ex, ea, l, q⟩ => ?_) ht
  subst ex
  obtain rfl : u = Value.ref a := rx
  refine getmeth_ok I1 ea C.cls G.meth l ?_
  refine PySem.W.callWith_K0 (first := [.ref a]) I1.kIn G.meth.kp ?_
  exact wpAny_call (run_fnR (us := [.ref a]) (vs := [.ref a]) G.ok hr passL I1 (.cons rfl .nil) q)
/-- o.f, a property -/
theorem pe_dp {fl : List Str} {f : Str} (G : DfP X.prog X.w X.K X.mg X.base k c f sp) (C : ClsF X.K c fl) (hr : Room (k + 1) X.A) (he : PE X o ta) (hab : attributeBase o f X.env (eval o X.env) = eval o X.env := by rfl) : PE X (.Attribute o f pos) (tProp (He.ga X.K c) sp [] E0 ta) := by
  obtain ⟨fd, F, b⟩ := G.ok
  exact pe_prop he C.cls G.prop F hr b .nil passL hab
end
/-! ### readings -/
section
variable {K : PySem.W.Frag} {M : Addr → Prop} {I : Hp → Prop} {σ : L2.St} {H : Hp} {Q : VK} {C : Addr} {m : Str} {sp : Sp} {E : XK} {ta : TE} {t tk : TA}
theorem sx_methK {n nk : Nat} {gV : List V → List V → List V} (h : ta σ H fun x H1 => ∃ a dx fs, x = .ref a ∧ H1 a = some (.ins C dx fs) ∧ fs.lookup m = none ∧ t σ H1 fun vs H2 => tk σ H2 fun zs H3 => vs.length + 1 = n ∧ zs.length = nk ∧ sp (gV (x :: vs) zs) H3 Q E) : tMethK C m n nk sp gV E ta t tk σ H Q := h
theorem sx_methR (h : ta σ H fun x H1 => ∃ a dx fs, x = .ref a ∧ H1 a = some (.ins C dx fs) ∧ fs.lookup m = none ∧ t σ H1 fun vs H2 => sp (x :: vs) H2 Q E) : tMethR C m sp E ta t σ H Q := h
theorem sx_prop {dvs : List V} (h : ta σ H fun x H1 => ∃ a dx fs, x = .ref a ∧ H1 a = some (.ins C dx fs) ∧ sp (.ref a :: dvs) H1 Q E) : tProp C sp dvs E ta σ H Q := h
theorem sx_rng3 {R : It → Hp → Prop} {a : TA} (h : a σ H fun vs H1 => ∃ (i j c : Int) (n : Nat), vs = [.int i, .int j, .int c] ∧ RgC i j c n ∧ R (Itc i c n) H1) : iRng3 a σ H R := h
theorem sx_ckw {r : List V → List V → Hp → VK → Prop} (h : t σ H fun vs H1 => tk σ H1 fun zs H2 => r vs zs H2 Q) : tCKw r t tk σ H Q := h
/-- sorted(ints, reverse=True) -/
theorem sort_rev {x : V} {ns : List Int} (hw : Wf M I) (hI : I H) (hx : Rep K M H x (.lst (ns.map .int))) (q : ∀ v (ns' : List Int) H', ns'.Perm ns → ns'.Pairwise (· ≥ ·) → Ex M H H' → I H' → Rep K M H' v (.lst (ns'.map .int)) → Q v H') : rSortedKw K true [.bl true] [x] [.bl true] H Q := by
  cases hx with
  | lst h n r =>
    have e := Reps.scal_inv (f := V.int) (g := D.int) (fun a v h => rep_int h) r
    subst e
    refine ⟨_, ns, rfl, rfl, SqL.of h, fun ns' p hp ho hn => q _ ns' _ hp ho (Ex.of (same_upd hn)) (hw.same (same_upd hn) hI) (.lst upd_same (hw.fresh hI hn) (Reps.scal (fun a => .int a) _))⟩
end
end Nt

namespace Nt
open PySem PySem.Spec PyProof.Rows L2
/-! ### ways that meet again -/
section
variable {σ : L2.St} {H : Hp} {E : Ends} {s1 s2 : TS} {t : TT} {ta tb : TE} {Q : VK}
/-- what follows a statement is shown once, for whatever it leaves -/
theorem sx_seqJ (J : L2.St → Hp → Prop) (h1 : ∀ N : L2.St → Hp → Prop, (∀ σ H, J σ H → N σ H) → s1 { E with nx := N } σ H) (h2 : ∀ σ H, J σ H → s2 E σ H) : tSeq s1 s2 E σ H := h1 _ h2
/-- a test whose answer is known -/
theorem sx_ifJ (b : Bool) (J : Hp → Prop) (ht : ∀ QT : Bool → Hp → Prop, (∀ H', J H' → QT b H') → t σ H QT) (h : ∀ H', J H' → if b = true then s1 E σ H' else s2 E σ H') : tIfS t s1 s2 E σ H := ht _ h
/-- .. not known -/
theorem sx_ifN (J : Bool → Hp → Prop) (ht : ∀ QT : Bool → Hp → Prop, (∀ b H', J b H' → QT b H') → t σ H QT) (h1 : ∀ H', J true H' → s1 E σ H') (h2 : ∀ H', J false H' → s2 E σ H') : tIfS t s1 s2 E σ H :=
  ht (fun b H' => if b = true then s1 E σ H' else s2 E σ H') fun b H' j => by
    cases b
    · exact ifF (h2 H' j)
    · exact ifT (h1 H' j)
/-- x if t else y -/
theorem sx_ifEJ (J : V → Hp → Prop) (h1 : ∀ Q' : VK, (∀ v H', J v H' → Q' v H') → tIf t ta tb σ H Q') (h2 : ∀ v H', J v H' → Q v H') : tIf t ta tb σ H Q := h1 _ h2
theorem sx_asgJ {g : TG} (J : V → Hp → Prop) (h1 : ∀ Q' : VK, (∀ v H', J v H' → Q' v H') → ta σ H Q') (h2 : ∀ v H', J v H' → g v σ H' E.nx) : tAsg ta g E σ H := h1 _ h2
end
end Nt

namespace Nt
open PySem PySem.Spec PyProof.Rows
open L2 hiding rLen
/-! ### o[k], o == p, repr(o), bool(o) by own methods -/
structure DfG (P : Program) (w : World) (K : PySem.W.Frag) (mg : Str → Option Value) (base : Heap) (k : Nat) (c : Str) (ps : List Str) (sp : Sp) : Prop where
  meth : Meth K (He.ga K c) "__getitem__" (He.ma K (He.ga K c) "__getitem__")
  fn : PySem.W.fnIn K (He.ma K (He.ga K c) "__getitem__") = true
  ok : ∃ fd, FnOk P w K mg base (L2.CX P w) k (He.ma K (He.ga K c) "__getitem__") fd ps sp ∧ Binds K fd ps []
theorem Bok.dg {P : Program} {w : World} {K : PySem.W.Frag} {mg : Str → Option Value} {base : Heap} {k : Nat} {c q : Str} {ps : List Str} {sp : Sp} {st : Stmt} (b : Bok P w K mg base k q st ps sp) (F : AtM K c "__getitem__" q st ps []) : DfG P w K mg base k c ps sp := by
  obtain ⟨fd, dfl, kws, F1, ds, hd, F2⟩ := F.ex
  cases hd
  refine ⟨F.meth, ?_, fd, b F1, F2⟩
  obtain ⟨oc, od, dV, kV, doc, pm, an, cdv, ct, osl, rfl, lk, hcd, _, _⟩ := F1.ex
  unfold PySem.W.fnIn
  rw [lk]
def tGetO (C : Addr) (sp : Sp) (E : XK) (ta ti : TE) : TE := fun σ H Q => ta σ H fun x H1 => ti σ H1 fun y H2 => ∃ (a dx : Addr) (fs : List (Str × V)), x = .ref a ∧ H2 a = some (.ins C dx fs) ∧ sp [x, y] H2 Q E
theorem sx_getO {C : Addr} {sp : Sp} {E : XK} {ta ti : TE} {σ : L2.St} {H : Hp} {Q : VK} (h : ta σ H fun x H1 => ti σ H1 fun y H2 => ∃ (a dx : Addr) (fs : List (Str × V)), x = .ref a ∧ H2 a = some (.ins C dx fs) ∧ sp [x, y] H2 Q E) : tGetO C sp E ta ti σ H Q := h
section
variable {X : Cx} {k : Nat} {c : Str} {ps : List Str} {sp : Sp} {o i : Expr} {to ti : TE} {pos : Pos}
theorem ins_at {pins : List (Addr × Obj)} {σ : L2.St} {H : Hp} {s : Shared} {a C dx : Addr} {fs : List (Str × V)} (I : Inv X pins σ H s) (e : H a = some (.ins C dx fs)) : ∃ ox od, PySem.W.InstAt s.heap a ox C (some od) := by
  obtain ⟨mA, O, _, _, _, _⟩ := ins_get I.hok e
  obtain ⟨od, J, _⟩ := O.look
  exact ⟨_, od, J⟩
/-- o[k] -/
theorem pe_getD (G : DfG X.prog X.w X.K X.mg X.base k c ps sp) (hr : Room (k + 1) X.A) (ho : PE X o to) (hi : PE X i ti)
    (hsl : ∀ x u, subscripted i true (.ref x) u = runValue (.builtin "lifetime.subscript" ⟨[.ref x, u], []⟩) := by intro _ _; with_unfolding_all rfl) :
    PE X (.Subscript o i pos) (tGetO (He.ga X.K c) sp E0 to ti) := by
  obtain ⟨fd, F, hb⟩ := G.ok
  refine ⟨fun pins s σ H Q I h => ?_⟩
  refine Subscript_ (thn (ho.run pins s σ H _ I h) fun v s1 ⟨x, H1, I1, r1, q1⟩ => ?_)
  refine thn (hi.run pins s1 σ H1 _ I1 q1) fun u s2 ⟨y, H2, I2, r2, a, dx, fs, ex, e, q⟩ => ?_
  subst ex
  obtain rfl : v = Value.ref a := r1
  obtain ⟨ox, od, J⟩ := ins_at I2 e
  obtain ⟨m, hF⟩ := I2.fr
  refine PySem.W.sub_K hF I2.ok.mod.kin J G.meth.at_ G.fn G.meth.fn ?_ (hsl a u)
  exact run_own F hr.in1 I2.env0.in1 hb I2 (.cons (show RelV (.ref a) (.ref a) from rfl) (.cons r2 .nil)) q fun v u H' s' I' rv z => ⟨v, H', I', rv, z⟩
/-- o == p, both of own classes -/
def rEqO (K : PySem.W.Frag) (C : Addr) (sp : Sp) : R2 := fun x y H Q => ∃ (a dx : Addr) (fs : List (Str × V)) (b dy : Addr) (gs : List (Str × V)), x = .ref a ∧ y = .ref b ∧ H a = some (.ins C dx fs) ∧ H b = some (.ins C dy gs) ∧ sp [x, y] H Q E0
theorem op_eqO (G : DfM X.prog X.w X.K X.mg X.base k c "__eq__" ps [] sp) (hr : Room k X.A) : OpR X (compareOp .Eq) (rEqO X.K (He.ga X.K c) sp) := by
  obtain ⟨fd, F, ds, hd, hb⟩ := G.ok
  cases hd
  intro pins s σ H x y v u Q I rx ry h
  obtain ⟨a, dx, fs, b, dy, gs, rfl, rfl, ea, eb, q⟩ := h
  obtain rfl : v = Value.ref a := rx
  obtain rfl : u = Value.ref b := ry
  obtain ⟨ox, od, J⟩ := ins_at I ea
  obtain ⟨ox', od', J'⟩ := ins_at I eb
  obtain ⟨m, hF⟩ := I.fr
  show wpAny _ _ (richCompare .Eq _ _) _ _ _
  refine PySem.W.cmp_K (op := .Eq) (tb := .ref (He.ga X.K c)) hr.units0 hF I.ok.mod.kin J J'.type (by simp [PySem.W.notFirst]) G.meth.at_ G.meth.fn ?_
  refine wpAny_mono (run_own F hr I.env0 hb I (.cons (show RelV (.ref a) (.ref a) from rfl) (.cons (show RelV (.ref b) (.ref b) from rfl) .nil)) q (Q := fun u s' => ∃ v H', Inv X pins σ H' s' ∧ RelV v u ∧ Q v H') fun v u H' s' I' rv z => ⟨v, H', I', rv, z⟩) (fun w s' z => ?_) fun _ _ x => x
  obtain ⟨z', H', I', rz, qz⟩ := z
  exact SlX.cmpback rz ⟨z', H', I', rz, qz⟩
/-- repr(o) -/
def rReprO (C : Addr) (sp : Sp) : List V → Hp → VK → Prop := fun xs H Q => ∃ (a dx : Addr) (fs : List (Str × V)), xs = [.ref a] ∧ H a = some (.ins C dx fs) ∧ sp [.ref a] H (fun v H' => ∃ z, v = .str z ∧ Q (.str z) H') E0
theorem call_reprD (G : DfM X.prog X.w X.K X.mg X.base k c "__repr__" ps [] sp) (hr : Room (k + 1) X.A) : CallR X (.builtin "repr") (rReprO (He.ga X.K c) sp) := by
  obtain ⟨fd, Fo, ds, hd, hb⟩ := G.ok
  cases hd
  intro pins s σ H xs us Q I r h
  obtain ⟨a, dx, fs, rfl, e, h⟩ := h
  obtain ⟨u, rfl, ru⟩ := vals1 r
  obtain rfl : u = Value.ref a := ru
  obtain ⟨k1, k2⟩ := special_at (M := model X.prog X.w) I e G.meth
  obtain ⟨ox, od, J⟩ := ins_at I e
  refine Calls.call_function_entry F.kind_repr F.plain_repr F.entry_repr (F.args_repr1 _) ?_
  unfold Builtin.«repr»
  refine wpAny_bind (m := oneArg "repr" _) (wpAny_pure ?_)
  refine wpAny_bind (wpAny_cRoomFor hr.in1.units0 ?_)
  refine wpAny_bind (k1.here ?_)
  show wpAny _ _ (if (some (Value.ref _)).isNone = true then _ else _) _ _ _
  rw [if_neg (by simp)]
  refine wpAny_bind (m := callSpecialIfBound? (.ref a) (Str.ofString "__repr__") _) (PySem.W.ifBound_K I.kIn J G.meth.at_ G.meth.fn (run_own Fo hr.in1 I.env0.in1 hb I (.cons (show RelV (.ref a) (.ref a) from rfl) .nil) h fun v u H' s' I' rv z => ?_))
  obtain ⟨z, rfl, q⟩ := z
  obtain ⟨t, rfl⟩ := rv
  refine wpAny_bind (wpAny_isInstance (typeIs_str _ _ _) isSubtype_str_str ?_)
  first
    | exact wpAny_pure ⟨_, rfl, .str z, H', I', ⟨_, rfl⟩, q⟩
    | (rw [if_pos rfl]; exact wpAny_pure ⟨_, rfl, .str z, H', I', ⟨_, rfl⟩, q⟩)
    | (simp only [if_true]; exact wpAny_pure ⟨_, rfl, .str z, H', I', ⟨_, rfl⟩, q⟩)
/-- bool(o) -/
def rBoolO (C : Addr) (sp : Sp) : List V → Hp → VK → Prop := fun xs H Q => ∃ (a dx : Addr) (fs : List (Str × V)), xs = [.ref a] ∧ H a = some (.ins C dx fs) ∧ sp [.ref a] H (fun v H' => ∃ b, v = .bl b ∧ Q (.bl b) H') E0
theorem truthy_ownM {M : Model} {A : Around} {E : Value → Shared → Prop} {s : Shared} {f a : Addr} {Q : Bool → Shared → Prop} (sp : PySem.W.Looks M s.heap (specialOf (.ref a) "__bool__") (some (.ref f))) (hb : PySem.W.Looks M s.heap (bindSpecial (.ref f) (.ref a)) (.ref f, [.ref a]))
    (hc : wpAny M A (call (.ref f) [.ref a]) (fun r s' => ∃ b, r = .bool b ∧ Q b s') E s) : wpAny M A (truthy (.ref a)) Q E s := by
  unfold truthy
  first
    | (refine wpAny_bind (m := callSpecial? (.ref a) (Str.ofString "__bool__")) (cspecO sp hb (wpAny_mono hc (fun r s' hr => ?_) fun _ _ y => y)))
    | (refine wpAny_bind (wpAny_pure ?_); refine wpAny_bind (m := callSpecial? (.ref a) (Str.ofString "__bool__")) (cspecO sp hb (wpAny_mono hc (fun r s' hr => ?_) fun _ _ y => y)))
  obtain ⟨b, rfl, hq⟩ := hr
  exact wpAny_pure hq
theorem call_boolD (G : DfM X.prog X.w X.K X.mg X.base k c "__bool__" ps [] sp) (hr : Room (k + 2) X.A) : CallR X (.type "bool") (rBoolO (He.ga X.K c) sp) := by
  obtain ⟨fd, Fo, ds, hd, hb⟩ := G.ok
  cases hd
  intro pins s σ H xs us Q I r h
  obtain ⟨a, dx, fs, rfl, e, h⟩ := h
  obtain ⟨u, rfl, ru⟩ := vals1 r
  obtain rfl : u = Value.ref a := ru
  obtain ⟨k1, k2⟩ := special_at (M := model X.prog X.w) I e G.meth
  refine callType_codes (T := "bool") (Bi := Builtin.«object.__init__») (Q₁ := fun r s₁ => ∃ b, r = Value.bool b ∧ EP X pins σ Q r s₁) F.called_bool (F.typeCall_bool_1 _) F.entry_object_init ?_ ?_
  · refine codeAny_of_tree ?_
    show wpAny _ X.A.in1.in1 (do checkBuiltinCall "bool.__new__" ⟨[.type "bool", .ref a], []⟩; again (.builtin "bool.__new__" ⟨[.type "bool", .ref a], []⟩)) _ _ s
    refine wpAny_bind (wpAny_of_eq (F.newCall_bool_1 _) (wpAny_pure ⟨plainId_quiet (by decide +kernel) _, codeAny_builtin F.entry_bool_new ?_⟩))
    rw [Around.under_plainId (by decide +kernel) _]
    have key : wpAny (model X.prog X.w) X.A.in1.in1 (truthy (.ref a)) (fun b s' => EP X pins σ Q (.bool b) s') X.xe s := by
      refine truthy_ownM k1 k2 (run_own Fo hr.in1.in1 I.env0.in1.in1 hb I (.cons (show RelV (.ref a) (.ref a) from rfl) .nil) h fun v u H' s' I' rv z => ?_)
      obtain ⟨b, rfl, q⟩ := z
      obtain rfl : u = Value.bool b := rv
      exact ⟨b, rfl, .bl b, H', I', rfl, q⟩
    have f1 := F.conv_sub_bool
    repeat (any_goals (first | assumption | (with_reducible refine wpAny_bind (wpAny_mono key (fun b s' hq => ?_) fun _ _ y => y)) | wp_step))
    all_goals first | exact ⟨_, rfl, hq⟩ | skip
  · rintro obj s₁ ⟨b, rfl, hq⟩
    exact ⟨PySem.typeIs_bool _ _, F.args_object_init_2 _ _, object_init_meets F.called_bool.init.lookup F.called_bool.made (by decide) X.prog X.w X.A.in1 _ s₁ ⟨PySem.typeIs_bool _ _, rfl, hq⟩⟩
end
/-! ### f(e, .., k = v, ..), f a def of the module -/
structure AtN (K : PySem.W.Frag) (mg : Str → Option Value) (x : Str) (st : Stmt) (ps : List Str) (n : Nat) (ks : List Str) (gV : List V → List V → List V) : Prop where
  mgx : mg x = some (.ref (He.ga K x))
  ex : ∃ fd dfl kws, FunD K x x (defArgs st) (defBody st) (defScope st) dfl kws (He.ga K x) fd ∧ ∃ g, KBn K fd ps n ks g gV
structure DfN (P : Program) (w : World) (K : PySem.W.Frag) (mg : Str → Option Value) (base : Heap) (k : Nat) (x : Str) (ps : List Str) (n : Nat) (ks : List Str) (gV : List V → List V → List V) (sp : Sp) : Prop where
  mgx : mg x = some (.ref (He.ga K x))
  kp : PySem.W.keepIn K (.ref (He.ga K x)) = true
  ok : ∃ fd, FnOk P w K mg base (L2.CX P w) k (He.ga K x) fd ps sp ∧ ∃ g, KBn K fd ps n ks g gV
theorem Bok.dn {P : Program} {w : World} {K : PySem.W.Frag} {mg : Str → Option Value} {base : Heap} {k n : Nat} {x : Str} {ps ks : List Str} {gV : List V → List V → List V} {sp : Sp} {st : Stmt} (b : Bok P w K mg base k x st ps sp) (F : AtN K mg x st ps n ks gV) : DfN P w K mg base k x ps n ks gV sp := by
  obtain ⟨fd, dfl, kws, F1, F2⟩ := F.ex
  exact ⟨F.mgx, F1.kp, fd, b F1, F2⟩
section
variable {X : Cx} {k n : Nat} {x : Str} {ps ks : List Str} {sp : Sp} {e : Expr} {es : List Expr} {kws : List Keyword} {t tk : TA} {p pos : Pos} {gV : List V → List V → List V}
theorem pe_dn {nk : Nat} (G : DfN X.prog X.w X.K X.mg X.base k x ps n ks gV sp) (hr : Room k X.A) (hg : Gl X x) (ha : PA X (e :: es) t) (hkw : PK X kws tk) (hall : (backToKw pos (keywordEach kws X.env)).all (·.1.isSome) = true := by rfl) (hks : (backToKw pos (keywordEach kws X.env)).filterMap (·.1) = ks := by rfl)
    (hdb : (x == ("__debug__" : Str)) = false := by decide) (he : starEach (e :: es) X.env = (false, eval e X.env) :: starEach es X.env := by rfl)
    (hpl : ((backTo pos (starEach (e :: es) X.env)).any (·.1) || (backToKw pos (keywordEach kws X.env)).any (·.1.isNone)) = false := by rfl) (hnk : ks.length = nk := by rfl) :
    PE X (.Call (.Name x p) (e :: es) kws pos) (tCallN n nk sp gV E0 t tk) := by
  subst hnk
  obtain ⟨fd, Fo, g, b⟩ := G.ok
  exact pe_callN Fo hr hg G.mgx G.kp b passL ha hkw hall hks hdb he hpl
theorem pe_dn0 {nk : Nat} (G : DfN X.prog X.w X.K X.mg X.base k x ps n ks gV sp) (hr : Room k X.A) (hg : Gl X x) (hkw : PK X kws tk) (hall : (backToKw pos (keywordEach kws X.env)).all (·.1.isSome) = true := by rfl) (hks : (backToKw pos (keywordEach kws X.env)).filterMap (·.1) = ks := by rfl)
    (hdb : (x == ("__debug__" : Str)) = false := by decide)
    (hpl : ((backTo pos (starEach [] X.env)).any (·.1) || (backToKw pos (keywordEach kws X.env)).any (·.1.isNone)) = false := by rfl) (hnk : ks.length = nk := by rfl) :
    PE X (.Call (.Name x p) [] kws pos) (tCallN n nk sp gV E0 tNil tk) := by
  subst hnk
  obtain ⟨fd, Fo, g, b⟩ := G.ok
  refine ⟨fun pins s σ H Q I h => ?_⟩
  refine wpAny_Call_Name_kw (ld_glob I hg G.mgx ?_ hdb)
  refine PySem.W.callWith_KW0 (first := []) (h₀ := X.base) I.ok.mod.kin G.kp hall (thn (hkw.run pos pins s σ H _ I h) fun ws s2 ⟨zs, H2, I2, rz, l1, l2, q2⟩ => ⟨I2.kIn, ?_⟩) hpl
  rw [hks]
  exact run_fnN (us := []) (vs := []) Fo hr b passL I2 .nil rz l1 l2 q2
theorem sx_callN {nk : Nat} {σ : L2.St} {H : Hp} {Q : VK} {E : XK} (h : t σ H fun vs H1 => tk σ H1 fun zs H2 => vs.length = n ∧ zs.length = nk ∧ sp (gV vs zs) H2 Q E) : tCallN n nk sp gV E t tk σ H Q := h
end
/-! ### isinstance of an own class; f-strings -/
section
variable {X : Cx} {c : Str} {pos : Pos}
theorem pe_cls (N : ClsG X.K X.mg c) (hg : Gl X c) (hd : (c == ("__debug__" : Str)) = false := by decide) : PE X (.Name c pos) (tC (.ref (He.ga X.K c))) := pe_glob hg N.mgx (rfl : (Value.ref _) = _) hd
/-- isinstance(o, C), o of the class C -/
theorem isi_O {K : PySem.W.Frag} {mg : Str → Option Value} {H : Hp} {a dx : Addr} {fs : List (Str × V)} {fl : List Str} {Q : VK} (C : ClsF K c fl) (N : ClsG K mg c) (e : H a = some (.ins (He.ga K c) dx fs)) (q : Q (.bl true) H) : rIsi K [.ref a, .ref (He.ga K c)] H Q := by
  refine ⟨_, _, .ref (He.ga K c), .ref (He.ga K c), true, rfl, .own _, .base (.ins e C.cls N.ha N.hn N.htk N.hm), ?_, q⟩
  unfold PySem.W.kitOne
  rw [if_pos (beq_self_eq_true _)]
def tJ (ts : List TE) : TE := fun σ H Q => tJs ts Str.empty σ H fun out H1 => Q (.str out) H1
theorem pe_joinedJ {v1 v2 : Expr} {rest : List Expr} {ts : List TE} (h : PJ X (v1 :: v2 :: rest) ts) : PE X (.JoinedStr (v1 :: v2 :: rest) pos) (tJ ts) := pe_joined h
theorem sx_j {ts : List TE} {σ : L2.St} {H : Hp} {Q : VK} (h : tJs ts Str.empty σ H fun out H1 => Q (.str out) H1) : tJ ts σ H Q := h
theorem sx_jn {acc : Str} {σ : L2.St} {H : Hp} {Z : Str → Hp → Prop} (h : Z acc H) : tJs [] acc σ H Z := h
theorem sx_jc {t : TE} {ts : List TE} {acc : Str} {σ : L2.St} {H : Hp} {Z : Str → Hp → Prop} (h : t σ H fun x H1 => ∃ y : Str, x = .str y ∧ (acc ++ y).length ≤ sizeLine ∧ tJs ts (acc ++ y) σ H1 Z) : tJs (t :: ts) acc σ H Z := h
theorem sx_fmt {t : TE} {σ : L2.St} {H : Hp} {Q : VK} (h : t σ H fun x H1 => (∃ y : Str, x = .str y ∧ y.length ≤ sizeLine ∧ Q (.str y) H1) ∨ ∃ i : Int, x = .int i ∧ i.natAbs.log2 < 1920 ∧ Q (.str (toString i)) H1) : tFmt t σ H Q := h
theorem ex_sl {z acc : Str} {Z : Str → Prop} (h1 : (acc ++ z).length ≤ sizeLine) (h2 : Z (acc ++ z)) : ∃ y : Str, V.str z = .str y ∧ (acc ++ y).length ≤ sizeLine ∧ Z (acc ++ y) := ⟨z, rfl, h1, h2⟩
theorem str_app_len (a b : Str) : (a ++ b).length = a.length + b.length := by
  show (a.cps ++ b.cps).size = a.cps.size + b.cps.size
  exact Array.size_append
end
end Nt

namespace Nt
open PySem PySem.Spec PyProof.Rows
/-! ### own exceptions over any of the built-in errors: stored into, made -/
section
open PySem.W PySem.HandSPX PySem.OEX PySem.Builtin PySem.Builtin.ObjectAttr
variable {prog : Program} {w : World} {A : Around} {R : Result → Shared → Prop} {hp : Heap} {g : Array GenState} {d : PySem.Drawn} {t : Nat} {os : OsState} {K : PySem.W.Frag} {name : Str} {tk : Tok} {v : Value} {x C dx : Addr} {fv : Array Value} {cd : ClassData} {B : String} {bmB : List Value}
theorem osa0 (SF : StoreFacts B bmB "object.__setattr__" "object") (X : K.In hp) (hx : hp.get? x = some { cls := .ref C, data := .fields fv }) (ho : PySem.W.excOver K C bmB = true) (hcd : PySem.W.clsIn K C = some cd) (hh : cd.hasDict = true) (ha : PySem.W.findIn K (.ref C) name = some none)
    (hq : ∀ h' tk' dx, (∀ b o, b ≠ x → hp.get? b = some o → h'.get? b = some o) → hp.objs.size ≤ dx → dx ≠ x → h'.get? x = some { cls := .ref C, dict := some dx, data := .fields fv } →
      h'.Ns1 dx (fun y => if y = name then some v else none) → R (.ok (.ret .none)) ⟨h', g, d, tk', os⟩) :
    codeAny (model prog w) A (.call (.builtin "object.__setattr__") ⟨[.ref x, .str name tk, v], []⟩) R ⟨hp, g, d, t, os⟩ := by
  have I : PySem.W.InstAt hp x { cls := .ref C, data := .fields fv } C none := ⟨hx, rfl, rfl, trivial⟩
  have hxs : x ≠ hp.objs.size := Nat.ne_of_lt (Heap.lt_size hx)
  have hcls : PySem.W.Looks (model prog w) hp (classData C) cd := PySem.W.looks_clsIn X hcd
  refine PySem.W.osa_openX (r := none) SF X I ho (by unfold PySem.W.takerIn; rw [ha]; rfl) fun b => ?_
  show wpAny _ _ (storeInOwnDict (.ref x) (.ref C) (.str name tk) name v b) _ _ _
  obtain ⟨nm, bs, mro, ns, qn, hd, sn, sb, ab, col, del⟩ := cd
  dsimp only at hh
  subst hh
  unfold storeInOwnDict ownDictForStores
  repeat (first | with_reducible refine store_in_new ?_ ?_ | with_reducible refine wpAny_loadPart_at hx ?_ | with_reducible refine hcls.at ?_ | wp_step)
  · exact ⟨_, #[], _, (Heap.get?_update_ne _ _ _ _ hxs.symm).trans (Heap.get?_push_at rfl rfl), rfl, fun e he => absurd he (by simp), fun _ => rfl⟩
  · intro h' tk' hn' hs
    have hx₁ : (hp.push { cls := .type "dict", data := .dict #[] }).get? x = some { cls := .ref C, data := .fields fv } := Heap.get?_push_of_some _ hx
    refine hq h' tk' hp.objs.size (fun b o hb ho => ?_) (Nat.le_refl _) hxs.symm ?_ hn'
    · exact (hs.2 b (Nat.ne_of_lt (Heap.lt_size ho))).trans ((Heap.get?_update_ne _ _ _ _ hb).trans (Heap.get?_push_of_some _ ho))
    · exact (hs.2 x hxs).trans (Heap.get?_update_self _ hx₁ rfl)
theorem osa1 {m0 : Str → Option Value} {nl : List Str} (SF : StoreFacts B bmB "object.__setattr__" "object") (X : K.In hp) (hx : hp.get? x = some { cls := .ref C, dict := some dx, data := .fields fv }) (hns : hp.Ns1 dx m0) (hw : Within m0 nl) (hz : nl.length ≤ 1000) (ho : PySem.W.excOver K C bmB = true) (hcd : PySem.W.clsIn K C = some cd) (hh : cd.hasDict = true)
    (ha : PySem.W.findIn K (.ref C) name = some none)
    (hq : ∀ h' tk', (∀ b o, b ≠ dx → hp.get? b = some o → h'.get? b = some o) → h'.Ns1 dx (fun y => if y = name then some v else m0 y) → R (.ok (.ret .none)) ⟨h', g, d, tk', os⟩) :
    codeAny (model prog w) A (.call (.builtin "object.__setattr__") ⟨[.ref x, .str name tk, v], []⟩) R ⟨hp, g, d, t, os⟩ := by
  obtain ⟨oD, esD, epD, hoD, hdD, _⟩ := hns.count hw
  have I : PySem.W.InstAt hp x { cls := .ref C, dict := some dx, data := .fields fv } C (some oD) := ⟨hx, rfl, rfl, hoD⟩
  have hcls : PySem.W.Looks (model prog w) hp (classData C) cd := PySem.W.looks_clsIn X hcd
  refine PySem.W.osa_openX (r := none) SF X I ho (by unfold PySem.W.takerIn; rw [ha]; rfl) fun b => ?_
  show wpAny _ _ (storeInOwnDict (.ref x) (.ref C) (.str name tk) name v b) _ _ _
  obtain ⟨nm, bs, mro, ns, qn, hd, sn, sb, ab, col, del⟩ := cd
  dsimp only at hh
  subst hh
  unfold storeInOwnDict ownDictForStores
  repeat (first | with_reducible refine store_in_old hns hw hz ?_ | with_reducible refine wpAny_loadPart_at hx ?_ | with_reducible refine hcls.at ?_ | wp_step)
  intro h' tk' hn' hs
  exact hq h' tk' (fun b o hb ho => (hs.2 b hb).trans ho) hn'
end
end Nt
namespace Nt
open PySem PySem.Spec PyProof.Rows
open L2 hiding rLen
section
variable {X : Cx} {pins : List (Addr × Obj)} {σ : L2.St} {H : Hp} {s : Shared} {a C dx : Addr} {f : Str} {y : V} {u : Value} {fs : List (Str × V)} {Q : Unit → Shared → Prop} {E : Value → Shared → Prop} {A : Around}
theorem OexG.in {K : PySem.W.Frag} {C : Addr} (T : OexG K C) : ∃ newId bmB, BaseF newId bmB ∧ ∃ nm q N bs bm sn sub ab col dd k0 k1 k2 k3 k5, K.lookup C = some (excClassObj nm q C N bs bm true sn sub ab col dd k0 k1 k2 k3 k5 newId) ∧ PySem.W.excTail bmB bm = true ∧
    PySem.W.clsIn K C = some { name := nm, bases := bs, mro := .ref C :: bm, ns := N, qualname := q, hasDict := true, slotNames := sn, subclasses := sub, abstract := ab, collection := col, hasDel := false } ∧ PySem.W.excOver K C bmB = true := by
  obtain ⟨newId, bmB, hB, nm, q, N, bs, bm, sn, sub, ab, col, dd, k0, k1, k2, k3, k5, hC, hbm⟩ := T.cls
  have hcl : PySem.W.clsIn K C = some { name := nm, bases := bs, mro := .ref C :: bm, ns := N, qualname := q, hasDict := true, slotNames := sn, subclasses := sub, abstract := ab, collection := col, hasDel := false } := by unfold PySem.W.clsIn; rw [hC] <;> rfl
  refine ⟨newId, bmB, hB, nm, q, N, bs, bm, sn, sub, ab, col, dd, k0, k1, k2, k3, k5, hC, hbm, hcl, ?_⟩
  unfold PySem.W.excOver
  rw [hcl]
  show (C == C && PySem.W.excTail bmB bm) = true
  rw [hbm, Bool.and_true]
  exact beq_self_eq_true C
/-- self.f = y: the first field of an exception that is being made -/
theorem ostG_new (T : OexG X.K C) (I : Inv X pins σ H s) (e : H a = some (exo a C none)) (hno : PySem.W.findIn X.K (.ref C) f = some none) (ry : RelV y u)
    (h : ∀ dx s', H dx = none → dx ≠ a → Inv X pins σ (upd (upd H dx (exd dx [(f, y)])) a (exo a C (some dx))) s' → Q () s') : wpAny (model X.prog X.w) A (setAttr (.ref a) f u) Q E s := by
  obtain ⟨newId, bmB, ⟨B, ini, FB, SF⟩, nm, q, N, bs, bm, sn, sub, ab, col, dd, k0, k1, k2, k3, k5, hC, hbm, hcl, hov⟩ := T.in
  obtain ⟨t1, ho⟩ := exo_at I.hok e
  obtain ⟨hp, g, d, t, os⟩ := s
  refine PySem.W.set_plain I.kIn (ox := { cls := .ref C, dict := none, data := .fields #[.ref t1, .none, .none, .none, .bool false, .none] }) (od := none) ⟨ho, rfl, rfl, trivial⟩ T.sa ?_
  refine osa0 SF I.kIn ho hov hcl rfl hno (fun h' tk' dx k dn dne hx hn => ?_)
  have hnd : H dx = none := I.hok.fresh dn
  have nd : ∀ {b : Addr} {o : Obj}, hp.get? b = some o → b ≠ dx := fun {b o} q => Nat.ne_of_lt (Nat.lt_of_lt_of_le (Heap.lt_size q) dn)
  have na : ∀ {b : Addr}, H b = none → b ≠ a := fun {b} n z => by
    rw [z, e] at n
    cases n
  have Un1 : Un X.fs [] H (upd (upd H dx (exd dx [(f, y)])) a (exo a C (some dx))) hp h' := {
    keep := fun b o q n _ _ => k b o (na n) q
    slot := fun b o q n _ _ => ⟨o.slots, k b o (na n) q⟩
    free := fun b o q n _ => by rw [upd_ne (na n), upd_ne (nd q)]; exact n
    there := fun b o q _ => by
      by_cases hb : b = a
      · exact ⟨_, by rw [hb]; exact hx⟩
      · exact ⟨o, k b o hb q⟩
    tups := fun b xs q => by rw [upd_ne (at_ne e q exo_tup), upd_ne (ne_of_none q hnd)]; exact q
    frzs := fun b o v q => by rw [upd_ne (at_ne e q exo_frz), upd_ne (ne_of_none q hnd)]; exact q
    tbls := fun b ps q => ⟨#[], by rw [upd_ne (at_ne e q exo_tbl), upd_ne (ne_of_none q hnd), q]; simp⟩ }
  refine h dx _ hnd dne (I.un (t' := tk') Un1 fun b o q => ?_)
  by_cases hb : b = a
  · subst hb
    rw [upd_same] at q
    cases q
    exact exo_ok hx
  · rw [upd_ne hb] at q
    by_cases hd : b = dx
    · subst hd
      rw [upd_same] at q
      cases q
      exact exd_ok hn (relO_put (fs := []) ry fun g => True.intro)
    · rw [upd_ne hd] at q
      exact (I.hok b o q).stay (fun c v hc z => k c v (by
          rcases hc with hc | hc
          · rw [hc]
            exact hb
          · exact at_ne e hc exo_own) z)
        (fun c hc => by rw [upd_ne (at_ne e hc exo_own), upd_ne (ne_of_none hc hnd)]; exact hc) (fun c xs hc => by rw [upd_ne (at_ne e hc exo_tup), upd_ne (ne_of_none hc hnd)]; exact hc)
/-- .. a further one -/
theorem ostG_old (T : OexG X.K C) (I : Inv X pins σ H s) (e : H a = some (exo a C (some dx))) (ed : H dx = some (exd dx fs)) (hl : fs.length ≤ 900) (hno : PySem.W.findIn X.K (.ref C) f = some none) (ry : RelV y u)
    (h : ∀ s', Inv X pins σ (upd H dx (exd dx ((f, y) :: fs))) s' → Q () s') : wpAny (model X.prog X.w) A (setAttr (.ref a) f u) Q E s := by
  obtain ⟨newId, bmB, ⟨B, ini, FB, SF⟩, nm, q, N, bs, bm, sn, sub, ab, col, dd, k0, k1, k2, k3, k5, hC, hbm, hcl, hov⟩ := T.in
  obtain ⟨t1, ho⟩ := exo_at I.hok e
  obtain ⟨mA, hns, rel⟩ := exd_at I.hok ed
  have hw := within_of rel
  obtain ⟨hp, g, d, t, os⟩ := s
  obtain ⟨oD, _, _, hoD, _, _⟩ := hns.count hw
  refine PySem.W.set_plain I.kIn (ox := { cls := .ref C, dict := some dx, data := .fields #[.ref t1, .none, .none, .none, .bool false, .none] }) (od := some oD) ⟨ho, rfl, rfl, hoD⟩ T.sa ?_
  refine osa1 SF I.kIn ho hns hw (by rw [List.length_map]; omega) hov hcl rfl hno (fun h' tk' k hn => ?_)
  have hd : ∃ o, h'.get? dx = some o := by
    obtain ⟨o, _, _, e', _⟩ := hn
    exact ⟨o, e'⟩
  exact h _ (I.write (t' := tk') (x := dx) (e := dx) (o := exd dx ((f, y) :: fs)) (by rw [ed]; exact True.intro) (.inl rfl) k hd (exd_ok hn (relO_put ry rel)))
end
/-- self.f = e in the own `__init__` of an exception -/
def tOstG (K : PySem.W.Frag) (f : Str) (to te : TE) : TS := fun D σ H => te σ H fun y H1 => to σ H1 fun x H2 => ∃ a C : Addr, x = .ref a ∧ OexG K C ∧ PySem.W.findIn K (.ref C) f = some none ∧
  ((H2 a = some (exo a C none) ∧ ∀ dx, H2 dx = none → dx ≠ a → D.nx σ (upd (upd H2 dx (exd dx [(f, y)])) a (exo a C (some dx)))) ∨
    ∃ (dx : Addr) (fs : List (Str × V)), H2 a = some (exo a C (some dx)) ∧ H2 dx = some (exd dx fs) ∧ fs.length ≤ 900 ∧ D.nx σ (upd H2 dx (exd dx ((f, y) :: fs))))
section
variable {X : Cx} {o e : Expr} {es : List Expr} {to te : TE} {ta : TA} {f : Str} {p p' p1 p2 pos : Pos}
theorem ps_ostG (ho : PE X o to) (he : PE X e te) (hs : swapsWith e (some (.Attribute o f p')) pos.line X.env = pure false := by rfl) : PS X (.Assign [.Attribute o f p'] e pos) (tOstG X.K f to te) := by
  refine ⟨fun pins s σ H D I h => ?_⟩
  refine plainObj_wpAny_Assign_Attribute (thn (he.run pins s σ H _ I h) fun v s1 ⟨y, H1, I1, r1, q1⟩ => thn (ho.run pins s1 σ H1 _ I1 q1) fun u s2 ⟨x, H2, I2, r2, a, C, ex, T, hno, q⟩ => ?_) hs
  subst ex
  obtain rfl : u = Value.ref a := r2
  rcases q with ⟨ea, q⟩ | ⟨dx, fs, ea, ed, hl, q⟩
  · exact ostG_new T I2 ea hno r1 fun dx s' n ne J => ⟨σ, _, J, q dx n ne⟩
  · exact ostG_old T I2 ea ed hl hno r1 fun s' J => ⟨σ, _, J, q⟩
/-- C(e, ..), C's own `__init__` keeping sp -/
theorem pmkG {CX : CXT} {x : Str} {C fI : Addr} {k : Nat} {fd : FuncData} {ps : List Str} {sp : Sp} {ds : List Value} {dvs : List V} (T : OexG X.K C) (iC : PySem.W.findIn X.K (.ref C) "__init__" = some (some (.ref fI))) (tI : PySem.W.typeIn X.K (.ref fI) = some (.type "function"))
    (F1 : FnOk X.prog X.w X.K X.mg X.base CX k fI fd ps sp) (hr : Room (k + 1) X.A) (hb : Binds X.K fd ps ds) (hd : Vals dvs ds) (hx : Passes CX X (fun _ _ _ => False)) (hg : Gl X x) (hm : X.mg x = some (.ref C)) (ha : PA X (e :: es) ta)
    (hdb : (x == ("__debug__" : Str)) = false := by decide) (he : starEach (e :: es) X.env = (false, eval e X.env) :: starEach es X.env := by rfl) (hpl : (backTo pos (starEach es X.env)).any (·.1) = false := by rfl) :
    PMk X (.Call (.Name x p) (e :: es) [] pos) (tMkO C sp dvs ta) := by
  intro pins s σ H Q I h
  obtain ⟨newId, bmB, ⟨B, ini, FB, SF⟩, nm, q, N, bs, bm, sn, sub, ab, col, dd, k0, k1, k2, k3, k5, hC, hbm, hcl, hov⟩ := T.in
  refine wpAny_Call_Name_kw (ld_glob I hg hm ?_ hdb)
  refine PySem.W.callWith_K (h₀ := X.base) I.ok.mod.kin T.kC (thn (ha.run pos pins s σ H _ I h) fun us s1 ⟨vs, H1, I1, r1, hz, q1⟩ => ⟨I1.kIn, ?_⟩) he hpl
  show wpAny _ _ (call (.ref C) us) _ _ _
  obtain ⟨hp, g, dr, tk, os⟩ := s1
  have hsz : hp.objs.size ≤ hp.objs.size + 1 := Nat.le_succ _
  have hn : H1 (hp.objs.size + 1) = none := I1.hok.fresh hsz
  have hq := q1 (hp.objs.size + 1) hn
  have kk : ∀ b o, hp.get? b = some o → ((hp.push (PySem.W.kdv_tup us)).push (PySem.HandSPX.excO C hp.objs.size)).get? b = some o := fun b o e => Heap.get?_push_of_some _ (Heap.get?_push_of_some _ e)
  have hget : ((hp.push (PySem.W.kdv_tup us)).push (PySem.HandSPX.excO C hp.objs.size)).get? (hp.objs.size + 1) = some (PySem.HandSPX.excO C hp.objs.size) := by heap_get
  have I2 : Inv X pins σ (upd H1 (hp.objs.size + 1) (exo (hp.objs.size + 1) C none)) ⟨(hp.push (PySem.W.kdv_tup us)).push (PySem.HandSPX.excO C hp.objs.size), g, dr, tk, os⟩ :=
    I1.laid (t' := tk) (a := hp.objs.size + 1) (o := exo (hp.objs.size + 1) C none) (h' := (hp.push (PySem.W.kdv_tup us)).push (PySem.HandSPX.excO C hp.objs.size)) kk hsz (exo_ok hget)
  have r2 : Vals (V.ref (hp.objs.size + 1) :: (vs ++ dvs)) (Value.ref (hp.objs.size + 1) :: (us ++ ds)) := .cons rfl (r1.append hd)
  have hl : (Value.ref (hp.objs.size + 1) :: us ++ ds).length = ps.length := by
    have e := r2.length
    rw [F1.len _ _ _ _ hq] at e
    exact e.symm
  have hus : us.length ≤ sizeLine := by
    rw [← Paired.length r1, sizeLine_eq]
    omega
  refine wpAny_call (PySem.HandSPX.call_own FB (fun Y => PySem.W.excTail_contains Y bm hbm) (I1.kIn _ _ hC) (PySem.W.looks_findIn I1.kIn iC) (fun self => PySem.W.bind_fn I1.kIn self tI) hus
    (codeAny_mono (F1.run _ X.stack _ _ ⟨Value.ref (hp.objs.size + 1) :: us, []⟩ (Value.ref (hp.objs.size + 1) :: (us ++ ds)) _ _ (fun _ _ _ => False) (hr.make C us []) (I2.env0.make C us []) (hb _ (Value.ref (hp.objs.size + 1) :: us) I2.kIn hl) r2 hq) fun r s' hq' => ?_))
  cases r with
  | error er => exact hx pins σ _ _ er s' I2 hq'
  | ok fl =>
    cases fl with
    | ret u =>
      obtain ⟨v, H2, os2, bare2, un2, hok2, rv, ev, d, fs, ea, ed, hd1, q2⟩ := hq'
      subst ev
      obtain ⟨h2, g2, d2, t2, os'⟩ := s'
      exact ⟨rv, mk_end (raises_own T.exC T.tyC) I1 hsz kk un2 hok2 os2 bare2 ea ed hd1 q2⟩
    | next => exact False.elim hq'
    | brk => exact False.elim hq'
    | cont => exact False.elim hq'
end
end Nt

namespace Nt
open PySem PySem.Spec PyProof.Rows
open L2 hiding rLen
/-! ### calls that may raise: what is let out is wished for by W -/
section
variable {X : Cx} {W : WX} {k : Nat} {f : Addr} {fd : FuncData} {ps : List Str} {sp : Sp}
theorem run_W {A' : Around} {pins : List (Addr × Obj)} {σ : L2.St} {H : Hp} {s : Shared} {Z : VK} {us : List Value} {vs : List V} {args : Args} {Q : Value → Shared → Prop} (F : FnOk X.prog X.w X.K X.mg X.base (L2.CX X.prog X.w) k f fd ps sp) (hr : Room k A') (e0 : Env0 X.prog X.w X.K X.mg X.base A' X.stack s H) (tk : Takes X W)
    (I : Inv X pins σ H s) (b : BindsTo s fd args (ps.zip us)) (r : Vals vs us) (h : sp vs H Z (WE W σ)) (q : ∀ v u H' s', Inv X pins σ H' s' → RelV v u → Z v H' → Q u s') : wpAny (model X.prog X.w) A' (PySem.call (.ref f) args.pos args.kw) Q X.xe s := by
  refine wpAny_call (codeAny_mono (F.run A' X.stack s H args us vs Z (WE W σ) hr e0 b r h) fun r s' hq => ?_)
  cases r with
  | error e => exact tk e s' (XE.of_call I (fun _ _ _ h => h) hq)
  | ok fl =>
    cases fl with
    | ret u =>
      obtain ⟨v, H', I3, rv, q3⟩ := I.after hq
      exact q v u H' s' I3 rv q3
    | next => exact False.elim hq
    | brk => exact False.elim hq
    | cont => exact False.elim hq
end
def tCallW (sp : Sp) (d : List V) (W : WX) (t : TA) : TE := fun σ H Q => t σ H fun vs H1 => sp (vs ++ d) H1 Q (WE W σ)
def tMethW (C : Addr) (m : Str) (sp : Sp) (d : List V) (W : WX) (ta : TE) (t : TA) : TE := fun σ H Q => ta σ H fun x H1 => ∃ (a dx : Addr) (fs : List (Str × V)), x = .ref a ∧ H1 a = some (.ins C dx fs) ∧ fs.lookup m = none ∧ t σ H1 fun vs H2 => sp (x :: (vs ++ d)) H2 Q (WE W σ)
def tMethKW (C : Addr) (m : Str) (n nk : Nat) (sp : Sp) (gV : List V → List V → List V) (W : WX) (ta : TE) (t tk : TA) : TE := fun σ H Q => ta σ H fun x H1 => ∃ (a dx : Addr) (fs : List (Str × V)), x = .ref a ∧ H1 a = some (.ins C dx fs) ∧ fs.lookup m = none ∧ t σ H1 fun vs H2 => tk σ H2 fun zs H3 => vs.length + 1 = n ∧ zs.length = nk ∧ sp (gV (x :: vs) zs) H3 Q (WE W σ)
def tCallNW (n m : Nat) (sp : Sp) (gV : List V → List V → List V) (W : WX) (t tk : TA) : TE := fun σ H Q => t σ H fun vs H1 => tk σ H1 fun zs H2 => vs.length = n ∧ zs.length = m ∧ sp (gV vs zs) H2 Q (WE W σ)
def tGetOW (C : Addr) (sp : Sp) (W : WX) (ta ti : TE) : TE := fun σ H Q => ta σ H fun x H1 => ti σ H1 fun y H2 => ∃ (a dx : Addr) (fs : List (Str × V)), x = .ref a ∧ H2 a = some (.ins C dx fs) ∧ sp [x, y] H2 Q (WE W σ)
def tMethRW (C : Addr) (m : Str) (sp : Sp) (W : WX) (ta : TE) (t : TA) : TE := fun σ H Q => ta σ H fun x H1 => ∃ (a dx : Addr) (fs : List (Str × V)), x = .ref a ∧ H1 a = some (.ins C dx fs) ∧ fs.lookup m = none ∧ t σ H1 fun vs H2 => sp (x :: vs) H2 Q (WE W σ)
section
variable {X : Cx} {W : WX} {k n : Nat} {x c m : Str} {ps ks : List Str} {dfl dvs : List V} {sp : Sp} {o e i : Expr} {es : List Expr} {kws : List Keyword} {ta to ti : TE} {t tk : TA} {p pos apos : Pos} {gV : List V → List V → List V}
theorem pe_dfW (j : Nat) (G : Df X.prog X.w X.K X.mg X.base k x ps dfl sp) (hr : Room k X.A) (hg : Gl X x) (ha : PA X (e :: es) t) (wk : Takes X W) (hj : j ≤ dfl.length := by decide) (hdb : (x == ("__debug__" : Str)) = false := by decide)
    (he : starEach (e :: es) X.env = (false, eval e X.env) :: starEach es X.env := by rfl) (hpl : (backTo pos (starEach es X.env)).any (·.1) = false := by rfl) :
    PE X (.Call (.Name x p) (e :: es) [] pos) (tCallW sp (dfl.drop j) W t) := by
  obtain ⟨fd, Fo, hb⟩ := G.ok
  obtain ⟨ds, hd, b⟩ := hb j hj
  refine ⟨fun pins s σ H Q I h => ?_⟩
  refine wpAny_Call_Name_kw (ld_glob I hg G.mgx ?_ hdb)
  refine PySem.W.callWith_K (h₀ := X.base) I.ok.mod.kin G.kp (thn (ha.run pos pins s σ H _ I h) fun us s1 ⟨vs, H1, I1, r, q⟩ => ⟨I1.kIn, ?_⟩) he hpl
  have r2 : Vals (vs ++ dfl.drop j) (us ++ ds) := r.append hd
  have hl : (us ++ ds).length = ps.length := by rw [← r2.length]; exact Fo.len _ _ _ _ q
  exact run_W (args := ⟨us, []⟩) Fo hr I1.env0 wk I1 (b s1 us I1.kIn hl) r2 q fun v u H' s' I' rv z => ⟨v, H', I', rv, z⟩
theorem pe_dmW {fl : List Str} (G : DfM X.prog X.w X.K X.mg X.base k c m ps dvs sp) (C : ClsF X.K c fl) (hr : Room k X.A) (he : PE X o ta) (ha : PA X (e :: es) t) (wk : Takes X W) {pl : Sem Bool}
    (hst : starEach (e :: es) X.env = (false, eval e X.env) :: starEach es X.env := by rfl) (hpl : (backTo pos (starEach es X.env)).any (·.1) = false := by rfl)
    (ht : eval (.Call (.Attribute o m apos) (e :: es) [] pos) X.env = (do
      let ov ← eval o X.env
      standAt apos.atName
      let (f, first) ← holding [ov] (getMethod ov m pl)
      callWith pos f first (backTo pos (starEach (e :: es) X.env)) (backToKw pos (keywordEach [] X.env))) := by rfl) :
    PE X (.Call (.Attribute o m apos) (e :: es) [] pos) (tMethW (He.ga X.K c) m sp dvs W ta t) := by
  obtain ⟨fd, Fo, ds, hd, b⟩ := G.ok
  refine ⟨fun pins s σ H Q I h => ?_⟩
  refine PySem.W.methodCall_KW (pl := pl) (thn (he.run pins s σ H _ I h) fun u s1 ⟨x, H1, I1, rx, a, dx, fs, ex, ea, l, q⟩ => ?_) ht
  subst ex
  obtain rfl : u = Value.ref a := rx
  refine getmeth_ok I1 ea C.cls G.meth l ?_
  refine PySem.W.callWith_K (first := [.ref a]) (h₀ := X.base) I.ok.mod.kin G.meth.kp (thn (ha.run pos pins s1 σ H1 _ I1 q) fun us s2 ⟨vs, H2, I2, r, q2⟩ => ⟨I2.kIn, ?_⟩) hst hpl
  have r2 : Vals (V.ref a :: (vs ++ dvs)) (Value.ref a :: (us ++ ds)) := .cons rfl (r.append hd)
  have hl : (Value.ref a :: us ++ ds).length = ps.length := by
    have := r2.length
    rw [Fo.len _ _ _ _ q2] at this
    exact this.symm
  exact run_W (args := ⟨.ref a :: us, []⟩) Fo hr I2.env0 wk I2 (b s2 (.ref a :: us) I2.kIn hl) r2 q2 fun v u H' s' I' rv z => ⟨v, H', I', rv, z⟩
theorem pe_dm0W {fl : List Str} (G : DfM X.prog X.w X.K X.mg X.base k c m ps dvs sp) (C : ClsF X.K c fl) (hr : Room k X.A) (he : PE X o ta) (wk : Takes X W) {pl : Sem Bool}
    (ht : eval (.Call (.Attribute o m apos) [] [] pos) X.env = (do
      let ov ← eval o X.env
      standAt apos.atName
      let (f, first) ← holding [ov] (getMethod ov m pl)
      callWith pos f first (backTo pos (starEach [] X.env)) (backToKw pos (keywordEach [] X.env))) := by rfl) :
    PE X (.Call (.Attribute o m apos) [] [] pos) (tMethW (He.ga X.K c) m sp dvs W ta tNil) := by
  obtain ⟨fd, Fo, ds, hd, b⟩ := G.ok
  refine ⟨fun pins s σ H Q I h => ?_⟩
  refine PySem.W.methodCall_KW (pl := pl) (thn (he.run pins s σ H _ I h) fun u s1 ⟨x, H1, I1, rx, a, dx, fs, ex, ea, l, q⟩ => ?_) ht
  subst ex
  obtain rfl : u = Value.ref a := rx
  refine getmeth_ok I1 ea C.cls G.meth l ?_
  refine PySem.W.callWith_K0 I1.kIn G.meth.kp ?_
  have r2 : Vals (V.ref a :: ([] ++ dvs)) (Value.ref a :: ([] ++ ds)) := .cons rfl hd
  have hl : ([Value.ref a] ++ ds).length = ps.length := by
    have := r2.length
    rw [Fo.len _ _ _ _ q] at this
    exact this.symm
  exact run_W (args := ⟨[.ref a], []⟩) Fo hr I1.env0 wk I1 (b s1 [.ref a] I1.kIn hl) r2 q fun v u H' s' I' rv z => ⟨v, H', I', rv, z⟩
theorem run_NW {pins : List (Addr × Obj)} {σ : L2.St} {H : Hp} {s : Shared} {Q : VK} {f : Addr} {fd : FuncData} {g : List Value → List Value → List Value} {us ws : List Value} {vs zs : List V} (F : FnOk X.prog X.w X.K X.mg X.base (L2.CX X.prog X.w) k f fd ps sp) (hr : Room k X.A) (hb : KBn X.K fd ps n ks g gV) (wk : Takes X W)
    (I : Inv X pins σ H s) (r : Vals vs us) (rz : Vals zs ws) (l1 : vs.length = n) (l2 : zs.length = ks.length) (h : sp (gV vs zs) H Q (WE W σ)) : wpAny (model X.prog X.w) X.A (PySem.call (.ref f) us (ks.zip ws)) (EP X pins σ Q) X.xe s :=
  run_W (args := ⟨us, ks.zip ws⟩) F hr I.env0 wk I (hb.to s us ws I.kIn (r.length.symm.trans l1) (rz.length.symm.trans l2)) (hb.rel r rz) h fun v u H' s' I' rv z => ⟨v, H', I', rv, z⟩
theorem pe_dk0W {fl : List Str} {nk : Nat} (G : DfK X.prog X.w X.K X.mg X.base k c m ps n ks gV sp) (C : ClsF X.K c fl) (hr : Room k X.A) (he : PE X o ta) (hkw : PK X kws tk) (wk : Takes X W) {pl : Sem Bool}
    (ht : eval (.Call (.Attribute o m apos) [] kws pos) X.env = (do
      let ov ← eval o X.env
      standAt apos.atName
      let (f, first) ← holding [ov] (getMethod ov m pl)
      callWith pos f first (backTo pos (starEach [] X.env)) (backToKw pos (keywordEach kws X.env))) := by rfl)
    (hall : (backToKw pos (keywordEach kws X.env)).all (·.1.isSome) = true := by rfl) (hks : (backToKw pos (keywordEach kws X.env)).filterMap (·.1) = ks := by rfl)
    (hpl : ((backTo pos (starEach [] X.env)).any (·.1) || (backToKw pos (keywordEach kws X.env)).any (·.1.isNone)) = false := by rfl) (hnk : ks.length = nk := by rfl) :
    PE X (.Call (.Attribute o m apos) [] kws pos) (tMethKW (He.ga X.K c) m n nk sp gV W ta tNil tk) := by
  subst hnk
  obtain ⟨fd, Fo, g, b⟩ := G.ok
  refine ⟨fun pins s σ H Q I h => ?_⟩
  refine PySem.W.methodCall_KW (pl := pl) (thn (he.run pins s σ H _ I h) fun u s1 ⟨x, H1, I1, rx, a, dx, fs, ex, ea, l, q⟩ => ?_) ht
  subst ex
  obtain rfl : u = Value.ref a := rx
  refine getmeth_ok I1 ea C.cls G.meth l ?_
  refine PySem.W.callWith_KW0 (first := [.ref a]) (h₀ := X.base) I.ok.mod.kin G.meth.kp hall (thn (hkw.run pos pins s1 σ H1 _ I1 q) fun ws s2 ⟨zs, H2, I2, rz, l1, l2, q2⟩ => ⟨I2.kIn, ?_⟩) hpl
  rw [hks]
  exact run_NW (us := [.ref a]) (vs := [.ref a]) Fo hr b wk I2 (.cons rfl .nil) rz l1 l2 q2
theorem pe_dkW {fl : List Str} {nk : Nat} (G : DfK X.prog X.w X.K X.mg X.base k c m ps n ks gV sp) (C : ClsF X.K c fl) (hr : Room k X.A) (he : PE X o ta) (ha : PA X (e :: es) t) (hkw : PK X kws tk) (wk : Takes X W) {pl : Sem Bool}
    (ht : eval (.Call (.Attribute o m apos) (e :: es) kws pos) X.env = (do
      let ov ← eval o X.env
      standAt apos.atName
      let (f, first) ← holding [ov] (getMethod ov m pl)
      callWith pos f first (backTo pos (starEach (e :: es) X.env)) (backToKw pos (keywordEach kws X.env))) := by rfl)
    (hall : (backToKw pos (keywordEach kws X.env)).all (·.1.isSome) = true := by rfl) (hks : (backToKw pos (keywordEach kws X.env)).filterMap (·.1) = ks := by rfl)
    (hst : starEach (e :: es) X.env = (false, eval e X.env) :: starEach es X.env := by rfl)
    (hpl : ((backTo pos (starEach (e :: es) X.env)).any (·.1) || (backToKw pos (keywordEach kws X.env)).any (·.1.isNone)) = false := by rfl) (hnk : ks.length = nk := by rfl) :
    PE X (.Call (.Attribute o m apos) (e :: es) kws pos) (tMethKW (He.ga X.K c) m n nk sp gV W ta t tk) := by
  subst hnk
  obtain ⟨fd, Fo, g, b⟩ := G.ok
  refine ⟨fun pins s σ H Q I h => ?_⟩
  refine PySem.W.methodCall_KW (pl := pl) (thn (he.run pins s σ H _ I h) fun u s1 ⟨x, H1, I1, rx, a, dx, fs, ex, ea, l, q⟩ => ?_) ht
  subst ex
  obtain rfl : u = Value.ref a := rx
  refine getmeth_ok I1 ea C.cls G.meth l ?_
  refine PySem.W.callWith_KW (first := [.ref a]) (h₀ := X.base) I.ok.mod.kin G.meth.kp hall (thn (ha.run pos pins s1 σ H1 _ I1 q) fun us s2 ⟨vs, H2, I2, r, q2⟩ => ?_) hpl hst
  refine thn (hkw.run pos pins s2 σ H2 _ I2 q2) fun ws s3 ⟨zs, H3, I3, rz, l1, l2, q3⟩ => ⟨I3.kIn, ?_⟩
  rw [hks]
  exact run_NW (us := .ref a :: us) (vs := .ref a :: vs) Fo hr b wk I3 (.cons rfl r) rz l1 l2 q3
theorem pe_dnW {nk : Nat} (G : DfN X.prog X.w X.K X.mg X.base k x ps n ks gV sp) (hr : Room k X.A) (hg : Gl X x) (ha : PA X (e :: es) t) (hkw : PK X kws tk) (wk : Takes X W) (hall : (backToKw pos (keywordEach kws X.env)).all (·.1.isSome) = true := by rfl) (hks : (backToKw pos (keywordEach kws X.env)).filterMap (·.1) = ks := by rfl)
    (hdb : (x == ("__debug__" : Str)) = false := by decide) (he : starEach (e :: es) X.env = (false, eval e X.env) :: starEach es X.env := by rfl)
    (hpl : ((backTo pos (starEach (e :: es) X.env)).any (·.1) || (backToKw pos (keywordEach kws X.env)).any (·.1.isNone)) = false := by rfl) (hnk : ks.length = nk := by rfl) :
    PE X (.Call (.Name x p) (e :: es) kws pos) (tCallNW n nk sp gV W t tk) := by
  subst hnk
  obtain ⟨fd, Fo, g, b⟩ := G.ok
  refine ⟨fun pins s σ H Q I h => ?_⟩
  refine wpAny_Call_Name_kw (ld_glob I hg G.mgx ?_ hdb)
  refine PySem.W.callWith_KW (h₀ := X.base) I.ok.mod.kin G.kp hall (thn (ha.run pos pins s σ H _ I h) fun us s1 ⟨vs, H1, I1, r, q⟩ => ?_) hpl he
  refine thn (hkw.run pos pins s1 σ H1 _ I1 q) fun ws s2 ⟨zs, H2, I2, rz, l1, l2, q2⟩ => ⟨I2.kIn, ?_⟩
  rw [hks]
  exact run_NW Fo hr b wk I2 r rz l1 l2 q2
theorem pe_dn0W {nk : Nat} (G : DfN X.prog X.w X.K X.mg X.base k x ps n ks gV sp) (hr : Room k X.A) (hg : Gl X x) (hkw : PK X kws tk) (wk : Takes X W) (hall : (backToKw pos (keywordEach kws X.env)).all (·.1.isSome) = true := by rfl) (hks : (backToKw pos (keywordEach kws X.env)).filterMap (·.1) = ks := by rfl)
    (hdb : (x == ("__debug__" : Str)) = false := by decide)
    (hpl : ((backTo pos (starEach [] X.env)).any (·.1) || (backToKw pos (keywordEach kws X.env)).any (·.1.isNone)) = false := by rfl) (hnk : ks.length = nk := by rfl) :
    PE X (.Call (.Name x p) [] kws pos) (tCallNW n nk sp gV W tNil tk) := by
  subst hnk
  obtain ⟨fd, Fo, g, b⟩ := G.ok
  refine ⟨fun pins s σ H Q I h => ?_⟩
  refine wpAny_Call_Name_kw (ld_glob I hg G.mgx ?_ hdb)
  refine PySem.W.callWith_KW0 (first := []) (h₀ := X.base) I.ok.mod.kin G.kp hall (thn (hkw.run pos pins s σ H _ I h) fun ws s2 ⟨zs, H2, I2, rz, l1, l2, q2⟩ => ⟨I2.kIn, ?_⟩) hpl
  rw [hks]
  exact run_NW (us := []) (vs := []) Fo hr b wk I2 .nil rz l1 l2 q2
theorem pe_getDW (G : DfG X.prog X.w X.K X.mg X.base k c ps sp) (hr : Room (k + 1) X.A) (ho : PE X o to) (hi : PE X i ti) (wk : Takes X W)
    (hsl : ∀ x u, subscripted i true (.ref x) u = runValue (.builtin "lifetime.subscript" ⟨[.ref x, u], []⟩) := by intro _ _; with_unfolding_all rfl) :
    PE X (.Subscript o i pos) (tGetOW (He.ga X.K c) sp W to ti) := by
  obtain ⟨fd, Fo, hb⟩ := G.ok
  refine ⟨fun pins s σ H Q I h => ?_⟩
  refine Subscript_ (thn (ho.run pins s σ H _ I h) fun v s1 ⟨x, H1, I1, r1, q1⟩ => ?_)
  refine thn (hi.run pins s1 σ H1 _ I1 q1) fun u s2 ⟨y, H2, I2, r2, a, dx, fs, ex, e, q⟩ => ?_
  subst ex
  obtain rfl : v = Value.ref a := r1
  obtain ⟨ox, od, J⟩ := ins_at I2 e
  obtain ⟨m, hF⟩ := I2.fr
  refine PySem.W.sub_K hF I2.ok.mod.kin J G.meth.at_ G.fn G.meth.fn ?_ (hsl a u)
  have r3 : Vals [V.ref a, y] [Value.ref a, u] := .cons rfl (.cons r2 .nil)
  have hl : [Value.ref a, u].length = ps.length := by
    have := r3.length
    rw [Fo.len _ _ _ _ q] at this
    exact this.symm
  have b := hb s2 [.ref a, u] I2.kIn (by rw [List.append_nil]; exact hl)
  rw [List.append_nil] at b
  exact run_W (args := ⟨[.ref a, u], []⟩) Fo hr.in1 I2.env0.in1 wk I2 b r3 q fun v u H' s' I' rv z => ⟨v, H', I', rv, z⟩
end
/-! ### an own exception class -/
structure AtE (K : PySem.W.Frag) (mg : Str → Option Value) (c q : Str) (st : Stmt) (ps : List Str) : Prop where
  mgx : mg c = some (.ref (He.ga K c))
  oex : OexG K (He.ga K c)
  iC : PySem.W.findIn K (.ref (He.ga K c)) "__init__" = some (some (.ref (He.ma K (He.ga K c) "__init__")))
  tI : PySem.W.typeIn K (.ref (He.ma K (He.ga K c) "__init__")) = some (.type "function")
  ex : ∃ fd dfl kws, FunD K "__init__" q (defArgs st) (defBody st) (defScope st) dfl kws (He.ma K (He.ga K c) "__init__") fd ∧ Binds K fd ps []
structure DfE (P : Program) (w : World) (K : PySem.W.Frag) (mg : Str → Option Value) (base : Heap) (k : Nat) (c : Str) (ps : List Str) (sp : Sp) : Prop where
  mgx : mg c = some (.ref (He.ga K c))
  oex : OexG K (He.ga K c)
  iC : PySem.W.findIn K (.ref (He.ga K c)) "__init__" = some (some (.ref (He.ma K (He.ga K c) "__init__")))
  tI : PySem.W.typeIn K (.ref (He.ma K (He.ga K c) "__init__")) = some (.type "function")
  ok : ∃ fd, FnOk P w K mg base (L2.CX P w) k (He.ma K (He.ga K c) "__init__") fd ps sp ∧ Binds K fd ps []
theorem Bok.de {P : Program} {w : World} {K : PySem.W.Frag} {mg : Str → Option Value} {base : Heap} {k : Nat} {c q : Str} {ps : List Str} {sp : Sp} {st : Stmt} (b : Bok P w K mg base k q st ps sp) (F : AtE K mg c q st ps) : DfE P w K mg base k c ps sp := by
  obtain ⟨fd, dfl, kws, F1, F2⟩ := F.ex
  exact ⟨F.mgx, F.oex, F.iC, F.tI, fd, b F1, F2⟩
/-- a class that is caught, and its fields read -/
structure ClsX (K : PySem.W.Frag) (mg : Str → Option Value) (c : Str) (fl : List Str) : Prop where
  mgx : mg c = some (.ref (He.ga K c))
  xf : XfC K (He.ga K c)
  na : ∀ f ∈ fl, PySem.W.findIn K (.ref (He.ga K c)) f = some none
def tRaise (C : Addr) (sp : Sp) (W : WX) (t : TA) : TS := fun _ σ H => tMkO C sp [] t σ H fun cls d H' => W cls d σ H'
section
variable {X : Cx} {W : WX} {k : Nat} {c : Str} {ps : List Str} {sp : Sp} {e : Expr} {es : List Expr} {t : TA} {p pos pos' : Pos}
theorem ps_raiseE (G : DfE X.prog X.w X.K X.mg X.base k c ps sp) (hr : Room (k + 1) X.A) (hg : Gl X c) (ha : PA X (e :: es) t) (wk : Takes X W) (hc : X.calm = true := by rfl)
    (hdb : (c == ("__debug__" : Str)) = false := by decide) (he : starEach (e :: es) X.env = (false, eval e X.env) :: starEach es X.env := by rfl) (hpl : (backTo pos (starEach es X.env)).any (·.1) = false := by rfl) :
    PS X (.Raise (some (.Call (.Name c p) (e :: es) [] pos)) none pos') (tRaise (He.ga X.K c) sp W t) := by
  obtain ⟨fd, Fo, b⟩ := G.ok
  exact ps_raise hc wk (pmkG G.oex G.iC G.tI Fo hr b .nil passL hg G.mgx ha hdb he hpl)
theorem names_of {c : Str} {fl : List Str} (N : ClsX X.K X.mg c fl) (hg : Gl X c) (hd : (c == ("__debug__" : Str)) = false := by decide) : Names X c (.ref (He.ga X.K c)) := ⟨hg, hd, .inl N.mgx⟩
end
/-- try: tb, except c as e: ts -/
def tTryAs (K : PySem.W.Frag) (c : Value) (i : Nat) (tb : WX → TS) (ts : Addr → Value → Option Addr → TS) (Wout : WX) : TS := fun D σ H => tb (wAs K c i ts Wout D) D σ H
theorem sx_tryAs {K : PySem.W.Frag} {c : Value} {i : Nat} {tb : WX → TS} {ts : Addr → Value → Option Addr → TS} {Wout : WX} {D : Ends} {σ : L2.St} {H : Hp} (h : tb (wAs K c i ts Wout D) D σ H) : tTryAs K c i tb ts Wout D σ H := h
section
variable {C f : Addr} {m : Str} {n nk : Nat} {sp : Sp} {d : List V} {W : WX} {t tk : TA} {ta ti : TE} {σ : L2.St} {H : Hp} {Q : VK} {gV : List V → List V → List V} {E : Ends}
theorem sx_callW (h : t σ H fun vs H1 => sp (vs ++ d) H1 Q (WE W σ)) : tCallW sp d W t σ H Q := h
theorem sx_methW (h : ta σ H fun x H1 => ∃ (a dx : Addr) (fs : List (Str × V)), x = .ref a ∧ H1 a = some (.ins C dx fs) ∧ fs.lookup m = none ∧ t σ H1 fun vs H2 => sp (x :: (vs ++ d)) H2 Q (WE W σ)) : tMethW C m sp d W ta t σ H Q := h
theorem sx_methKW (h : ta σ H fun x H1 => ∃ (a dx : Addr) (fs : List (Str × V)), x = .ref a ∧ H1 a = some (.ins C dx fs) ∧ fs.lookup m = none ∧ t σ H1 fun vs H2 => tk σ H2 fun zs H3 => vs.length + 1 = n ∧ zs.length = nk ∧ sp (gV (x :: vs) zs) H3 Q (WE W σ)) : tMethKW C m n nk sp gV W ta t tk σ H Q := h
theorem sx_callNW (h : t σ H fun vs H1 => tk σ H1 fun zs H2 => vs.length = n ∧ zs.length = nk ∧ sp (gV vs zs) H2 Q (WE W σ)) : tCallNW n nk sp gV W t tk σ H Q := h
theorem sx_getOW (h : ta σ H fun x H1 => ti σ H1 fun y H2 => ∃ (a dx : Addr) (fs : List (Str × V)), x = .ref a ∧ H2 a = some (.ins C dx fs) ∧ sp [x, y] H2 Q (WE W σ)) : tGetOW C sp W ta ti σ H Q := h
theorem sx_raise (h : t σ H fun vs H1 => vs.length ≤ 1000 ∧ ∀ a, H1 a = none → sp (.ref a :: (vs ++ [])) (upd H1 a (exo a C none))
  (fun v H2 => v = .non ∧ ∃ (d : Addr) (fs : List (Str × V)), H2 a = some (exo a C (some d)) ∧ H2 d = some (exd d fs) ∧ H1 d = none ∧ W (.ref C) (some d) σ (upd (del H2 a) d (.xd fs))) (fun _ _ _ => False)) : tRaise C sp W t E σ H := h
end
end Nt

namespace Nt
open PySem PySem.Spec PyProof.Rows
open L2 hiding rLen
/-! ### == that serves dicts, too -/
def rEqK (K : PySem.W.Frag) : R2 := fun x y H Q => rEqU K x y H Q ∨ rEqDA x y H Q
theorem op_eqK {X : Cx} (hu : X.A.units + 64 < cLine) : OpR X (compareOp .Eq) (rEqK X.K) := (op_eqU hu).or (op_eq_dictA (by omega))
end Nt

namespace Nt
open PySem PySem.Spec PyProof.Rows
open L2 hiding rLen
/-- an own exception class: it is made, it is caught by its own name -/
structure ClsY (K : PySem.W.Frag) (c : Str) (fl : List Str) : Prop where
  oex : OexG K (He.ga K c)
  exm : PySem.W.exmOne K (.ref (He.ga K c)) (.ref (He.ga K c)) = some true
  na : ∀ f ∈ fl, PySem.W.findIn K (.ref (He.ga K c)) f = some none
/-- what the own `__init__` of an exception keeps: the fields are stored -/
def spXI (K : PySem.W.Frag) (c : Str) (n : Nat) (fo : List V → List (Str × V)) : Sp := fun vs H Q _ => ∃ (a : Addr) (us : List V), vs = .ref a :: us ∧ us.length = n ∧ H a = some (exo a (He.ga K c) none) ∧
  ∀ dx H', H dx = none → dx ≠ a → H' dx = some (exd dx (fo us)) → H' a = some (exo a (He.ga K c) (some dx)) → (∀ b, b ≠ dx → b ≠ a → H' b = H b) → Q .non H'
theorem raise_X {K : PySem.W.Frag} {c : Str} {n : Nat} {fo : List V → List (Str × V)} {W : WX} {σ : L2.St} {H1 : Hp} {vs : List V} {E : XK} (hl : vs.length = n) (hn : n ≤ 1000) (h : ∀ d, H1 d = none → W (.ref (He.ga K c)) (some d) σ (upd H1 d (.xd (fo vs)))) :
    vs.length ≤ 1000 ∧ ∀ a, H1 a = none → spXI K c n fo (.ref a :: (vs ++ [])) (upd H1 a (exo a (He.ga K c) none))
      (fun v H2 => v = .non ∧ ∃ (d : Addr) (fs : List (Str × V)), H2 a = some (exo a (He.ga K c) (some d)) ∧ H2 d = some (exd d fs) ∧ H1 d = none ∧ W (.ref (He.ga K c)) (some d) σ (upd (del H2 a) d (.xd fs))) E := by
  refine ⟨by omega, fun a ha => ⟨a, vs, by rw [List.append_nil], hl, by simp [upd], fun dx H2 hd ne h1 h2 h3 => ⟨rfl, dx, fo vs, h2, h1, ?_, ?_⟩⟩⟩
  · simpa [upd, ne] using hd
  · have hd1 : H1 dx = none := by simpa [upd, ne] using hd
    have e : upd (del H2 a) dx (.xd (fo vs)) = upd H1 dx (.xd (fo vs)) := by
      funext b
      by_cases e1 : b = dx
      · simp [upd, e1]
      · by_cases e2 : b = a
        · subst e2
          simp [upd, del, e1, ha]
        · have := h3 b e1 e2
          simp [upd, e2] at this
          simp [upd, del, e1, e2, this]
    rw [e]
    exact h dx hd1
/-- what an exception that is let out tells: its class, its fields -/
def Xc (K : PySem.W.Frag) (c : Str) (fl : List (Str × V)) (M : Addr → Prop) (I : Hp → Prop) (H : Hp) (E : XK) : Prop :=
  ∀ (d : Addr) (fs : List (Str × V)) (H' : Hp), H' d = some (.xd fs) → (∀ p ∈ fl, fs.lookup p.1 = some p.2) → Ex M H H' → I H' → E (.ref (He.ga K c)) (some d) H'
theorem Xc.ex {K : PySem.W.Frag} {c : Str} {fl : List (Str × V)} {M : Addr → Prop} {I : Hp → Prop} {H H1 : Hp} {E : XK} (h : Xc K c fl M I H E) (e : Ex M H H1) : Xc K c fl M I H1 E := fun d fs H' h1 h2 e2 i2 => h d fs H' h1 h2 (e.trans e2) i2
theorem raise_E {K : PySem.W.Frag} {c : Str} {n : Nat} {fo : List V → List (Str × V)} {fl : List (Str × V)} {M : Addr → Prop} {I : Hp → Prop} {W : WX} {σ : L2.St} {H1 : Hp} {vs : List V} {E E' : XK} (hw : Wf M I) (hI : I H1) (hl : vs.length = n) (hn : n ≤ 1000) (hf : ∀ p ∈ fl, (fo vs).lookup p.1 = some p.2) (h : Xc K c fl M I H1 E')
    (hW : ∀ cl d H', E' cl d H' → W cl d σ H') :
    vs.length ≤ 1000 ∧ ∀ a, H1 a = none → spXI K c n fo (.ref a :: (vs ++ [])) (upd H1 a (exo a (He.ga K c) none))
      (fun v H2 => v = .non ∧ ∃ (d : Addr) (fs : List (Str × V)), H2 a = some (exo a (He.ga K c) (some d)) ∧ H2 d = some (exd d fs) ∧ H1 d = none ∧ W (.ref (He.ga K c)) (some d) σ (upd (del H2 a) d (.xd fs))) E :=
  raise_X hl hn fun d hd => hW _ _ _ (h d _ _ (by simp [upd]) hf (Ex.of (same_upd hd)) (hw.same (same_upd hd) hI))
/-- the stores of the own `__init__` -/
theorem ost_first {K : PySem.W.Frag} {f : Str} {a C : Addr} {y : V} {D : Ends} {σ : L2.St} {H : Hp} (X : OexG K C) (na : PySem.W.findIn K (.ref C) f = some none) (e : H a = some (exo a C none)) (q : ∀ dx, H dx = none → dx ≠ a → D.nx σ (upd (upd H dx (exd dx [(f, y)])) a (exo a C (some dx)))) :
    ∃ b C' : Addr, V.ref a = .ref b ∧ OexG K C' ∧ PySem.W.findIn K (.ref C') f = some none ∧ ((H b = some (exo b C' none) ∧ ∀ dx, H dx = none → dx ≠ b → D.nx σ (upd (upd H dx (exd dx [(f, y)])) b (exo b C' (some dx)))) ∨
      ∃ (dx : Addr) (fs : List (Str × V)), H b = some (exo b C' (some dx)) ∧ H dx = some (exd dx fs) ∧ fs.length ≤ 900 ∧ D.nx σ (upd H dx (exd dx ((f, y) :: fs)))) :=
  ⟨a, C, rfl, X, na, .inl ⟨e, q⟩⟩
theorem ost_next {K : PySem.W.Frag} {f : Str} {a C dx : Addr} {y : V} {fs : List (Str × V)} {D : Ends} {σ : L2.St} {H : Hp} (X : OexG K C) (na : PySem.W.findIn K (.ref C) f = some none) (e : H a = some (exo a C (some dx))) (ed : H dx = some (exd dx fs)) (hl : fs.length ≤ 900) (q : D.nx σ (upd H dx (exd dx ((f, y) :: fs)))) :
    ∃ b C' : Addr, V.ref a = .ref b ∧ OexG K C' ∧ PySem.W.findIn K (.ref C') f = some none ∧ ((H b = some (exo b C' none) ∧ ∀ dx, H dx = none → dx ≠ b → D.nx σ (upd (upd H dx (exd dx [(f, y)])) b (exo b C' (some dx)))) ∨
      ∃ (dx : Addr) (fs : List (Str × V)), H b = some (exo b C' (some dx)) ∧ H dx = some (exd dx fs) ∧ fs.length ≤ 900 ∧ D.nx σ (upd H dx (exd dx ((f, y) :: fs)))) :=
  ⟨a, C, rfl, X, na, .inr ⟨dx, fs, e, ed, hl, q⟩⟩
end Nt

/-! several clauses `except C as e`, one behind another -/
namespace Nt
open PySem PySem.Spec PyProof.Rows
open L2 hiding rLen
/-- an error of the one class is none of the other -/
def exnB (c d : Str) : PySem.W.Frag → Bool := fun K => decide (PySem.W.exmOne K (.ref (He.ga K c)) (.ref (He.ga K d)) = some false)
structure ExN (K : PySem.W.Frag) (c d : Str) : Prop where
  no : PySem.W.exmOne K (.ref (He.ga K c)) (.ref (He.ga K d)) = some false
theorem exn_ok {K : PySem.W.Frag} {c d : Str} (h : (FaX.any (exnB c d)).ok K = true) : ExN K c d := ⟨of_decide_eq_true h⟩
/-- the default of a parameter is the empty tuple -/
def emT (c m : Str) : PySem.W.Frag → Bool := fun K => match K.lookup (He.dflAt (c, some m) 0 K) with
  | some ⟨.type t, _, .seq its _, _⟩ => decide (t = "tuple") && its.toList.isEmpty
  | _ => false
structure EmT (K : PySem.W.Frag) (c m : Str) : Prop where
  sq : ∀ H, SqT K H (He.dflAt (c, some m) 0 K) []
theorem emT_ok {K : PySem.W.Frag} {c m : Str} (h : (FaX.any (emT c m)).ok K = true) : EmT K c m := by
  have h : emT c m K = true := h
  unfold emT at h
  split at h
  · rename_i t od its n sl hl
    obtain ⟨h1, h2⟩ := He.ba h
    have e : its.toList = [] := by
      cases hi : its.toList with
      | nil => rfl
      | cons a l => rw [hi] at h2; cases h2
    refine ⟨fun H => .inr ⟨_, its, n, hl, congrArg Value.type (of_decide_eq_true h1), rfl, ?_, ?_⟩⟩
    · rw [← Array.length_toList, e]; decide
    · rw [e]; exact .nil
  · cases h
abbrev AsC := Value × Nat × (Addr → Value → Option Addr → TS)
def rMin2 : List V → Hp → VK → Prop := fun xs H Q => ∃ i j, xs = [.int i, .int j] ∧ Q (.int (if j < i then j else i)) H
theorem call_minU {X : Cx} (hc : X.calm = true) : CallR X (.builtin "min") rMin2 := call_min2 hc
/-- what the clauses wish, one behind another: none takes it, then it goes on outward -/
def wAsM (K : PySem.W.Frag) (Wout : WX) (D : Ends) : List AsC → WX
  | [] => Wout
  | p :: r => wAs K p.1 p.2.1 p.2.2 (wAsM K Wout D r) D
inductive AsOk (X : Cx) : List ExceptHandler → List AsC → Prop
  | nil : AsOk X [] []
  | cons {x n : Str} {c : Value} {i : Nat} {ts : Addr → Value → Option Addr → TS} {b₀ : Stmt} {suite : List Stmt} {np pos' : Pos} {hds : List ExceptHandler} {l : List AsC} (hi : X.N[i]? = some n) (hln : X.env.kindOf n = some .local) (hc : Names X x c)
      (hsu : ∀ (a : Addr) (oe : Obj) (cls : Value) (d : Option Addr) (pn : List (Addr × Obj)), Zc cls d oe → (∃ vs, oe.data = .fields vs) → PSs (X.suite a ((a, oe) :: pn)) (b₀ :: suite) (ts a cls d)) (r : AsOk X hds l) :
      AsOk X (.ExceptHandler (some (.Name x np)) (some n) (b₀ :: suite) pos' :: hds) ((c, i, ts) :: l)
/-- try: tb, the clauses l -/
def tTryM (K : PySem.W.Frag) (l : List AsC) (tb : WX → TS) (Wout : WX) : TS := fun D σ H => tb (wAsM K Wout D l) D σ H
theorem sx_tryM {K : PySem.W.Frag} {l : List AsC} {tb : WX → TS} {Wout : WX} {D : Ends} {σ : L2.St} {H : Hp} (h : tb (wAsM K Wout D l) D σ H) : tTryM K l tb Wout D σ H := h
theorem ps_tryM {X : Cx} {body : List Stmt} {h₀ : ExceptHandler} {hds : List ExceptHandler} {l : List AsC} {pos : Pos} {tb : WX → TS} {Wout : WX} (hs : X.stack = X.env :: X.outer) (hf : X.env.frame = some X.env.locals) (hN : X.N.Nodup) (tk : Takes X Wout)
    (hb : ∀ (W : WX) (pn : List (Addr × Obj)) (xe : Value → Shared → Prop), Takes (X.tr pn xe) W → PassesOwn (model X.prog X.w) X.A X.env xe → PSs (X.tr pn xe) body (tb W)) (hh : AsOk X (h₀ :: hds) l) : PS X (.Try body (h₀ :: hds) [] [] pos) (tTryM X.K l tb Wout) := by
  refine ⟨fun pins s σ H D I h => ?_⟩
  have ok := I.ok
  have hfr : X.A.frames = some (X.env :: X.outer) := by rw [ok.frames, hs]
  refine wpAny_Try_except ?_
  refine wpAny_mono ((hb (wAsM X.K Wout D l) (X.pn ++ pins) (fun e s₁ => wpAny (model X.prog X.w) X.A (noteFrame e X.env) (fun _ s₂ => wpAny (model X.prog X.w) X.A (setFlight e none) (fun _ s₃ =>
    wpAny (model X.prog X.w) X.A (handleBy e X.env (h₀ :: hds)) (SP X pins D) X.xe s₃) X.xe s₂) X.xe s₁) (fun u s' xx => ?_) PassesOwn.looking).run [] s σ H D (I.toTry _) h) (fun f s1 hsp => ?_) fun e s1 he => he
  · obtain ⟨a, B, sI, pins', σ', H', cls, d, rfl, J', nb, up, sky, na, os, ag, w⟩ := xx
    have J : Inv X pins σ' H' sI := J'.ofTry ok
    have sky' : Sky B (X.env :: X.outer) a (Zc cls d) X.env.locals s'.heap := by rw [← hs]; exact sky
    show wpAny (model X.prog X.w) X.A (noteFrame (.ref a) X.env) _ _ _
    refine Sky.land Zc.steady hfr hf sky' fun h3 fl3 up3 => ?_
    have J3 : Inv X pins σ' H' { s' with heap := h3 } := J.landed nb fl3.1 (up.trans up3) os ag
    obtain ⟨oe3, vs3, he3, hz3, hd3⟩ := fl3.there
    have off : a ∉ frs (X.env :: X.outer) := fun hm => by
      obtain ⟨_, o', e', hnf⟩ := fl3.2.2.1.mem hm
      rw [he3] at e'; cases e'
      exact hnf _ hd3
    have nL : a ≠ X.env.locals := fun z => off (List.mem_filterMap.mpr ⟨X.env, List.mem_cons_self, by rw [hf, z]⟩)
    have nF : a ∉ X.fs := fun hm => by
      obtain ⟨e, he, q⟩ := List.mem_filterMap.mp hm
      exact off (List.mem_filterMap.mpr ⟨e, List.mem_cons_of_mem _ he, q⟩)
    have S3 := J3.suite he3 hd3 na nL nF
    clear h
    have each : ∀ {hl : List ExceptHandler} {cl : List AsC}, AsOk X hl cl → wAsM X.K Wout D cl cls d σ' H' → wpAny (model X.prog X.w) X.A (handleBy (.ref a) X.env hl) (SP X pins D) X.xe { s' with heap := h3 } := by
      intro hl cl hk
      induction hk with
      | nil =>
        intro w
        refine wpAny_handleBy_nil ?_
        obtain ⟨k1, k2, k3, oe, vs, T, oT, ts', he, hz, hd, h1, hr⟩ := id fl3
        unfold PySem.passOn
        refine wpAny_bind (wpAny_field he hd h1 ?_)
        rw [if_neg (show ¬ ((Value.ref T == Value.none) = true) from by simp)]
        have fin : wpAny (model X.prog X.w) X.A (setFlight (.ref a) X.env.frame) (fun _ s4 => wpAny (model X.prog X.w) X.A (throw (.ref a) : Sem Flow) (SP X pins D) X.xe s4) X.xe { s' with heap := h3 } := by
          rw [hf]
          exact HandSPX.setFlight_upZ fl3 fun h4 hh4 up4 => wpAny_throw (tk _ _ ⟨a, B, sI, pins, σ', H', cls, d, rfl, J, nb, (up.trans up3).trans up4, .inr (.inr (by rw [hs]; exact hh4)), na, os, ag, w⟩)
        first
          | exact wpAny_bind (wpAny_pure (wpAny_bind fin))
          | exact wpAny_bind fin
      | @cons x n c i ts b₀ suite np pos' hds2 l2 hi hln hc hsu r ih =>
        rintro ⟨b, hb1, yes, no⟩
        refine wpAny_handleBy_cons (codeAny_handlers_test ?_) (by intro q; cases q)
        have LM := PySem.W.exm_one (M := model X.prog X.w) J3.kIn (fun A Q E s k q => wpAny_typeOf_ref (k _ _ he3) (by rw [hz3.1]; exact q)) hb1
        have test : ∀ {Q : Value → Shared → Prop} {E : Value → Shared → Prop}, Q c { s' with heap := h3 } → wpAny (model X.prog X.w) (X.A.mark (some (.ref a))) (eval (.Name x np) X.env) Q E { s' with heap := h3 } := fun {Q E} q => by
          obtain ⟨hg, hdbg, hm | ⟨hm, hv, hnn⟩⟩ := hc
          · exact ld_glob (X := X.suite a ((a, oe3) :: (X.pn ++ pins))) S3 hg hm q hdbg
          · exact ld_blt (X := X.suite a ((a, oe3) :: (X.pn ++ pins))) S3 hg hm hv q hnn hdbg
        refine test (LM.here ?_)
        cases b with
        | false =>
          show wpAny _ X.A (handleBy (.ref a) X.env hds2) _ _ _
          exact ih (no rfl)
        | true =>
          refine codeAny_handlers_suite_as ?_
          refine HandSPX.lands_againZ fl3 fun h4 fl4 up4 => ?_
          have J4 : Inv X pins σ' H' { s' with heap := h4 } := J.landed nb fl4.1 ((up.trans up3).trans up4) os ag
          obtain ⟨oe4, vs4, he4, hz4, hd4⟩ := fl4.there
          refine store_ok (X := X.suite a ((a, oe4) :: (X.pn ++ pins))) (v := .ref a) (J4.suite he4 hd4 na nL nF) hN hi (.inl hln) rfl (fun s5 S5 => ?_) (.inr hln)
          refine wpAny_mono ((hsu a oe4 cls d (X.pn ++ pins) hz4 ⟨_, hd4⟩).run [] s5 _ H' _ S5 (yes rfl a na)) (fun f s6 hsp => ?_) fun _ _ z => False.elim z
          have gone : ∀ {σ6 : L2.St} {H6 : Hp} {Q : Shared → Prop}, Inv (X.suite a ((a, oe4) :: (X.pn ++ pins))) [] σ6 H6 s6 → (∀ s7, Inv X pins (σ6.set i none) H6 s7 → Q s7) →
              wpAny (model X.prog X.w) X.A (do bindName X.env n .none; unbindBehindTheSuite X.env n pos') (fun _ s7 => Q s7) X.xe s6 := fun {σ6 H6 Q} S6 hq => gone_ok (S6.unsuite ok) hN hi hln hq
          cases f with
          | next => obtain ⟨σ6, H6, S6, q6⟩ := hsp; exact gone S6 fun s7 J7 => ⟨_, _, J7, q6⟩
          | brk => obtain ⟨σ6, H6, S6, q6⟩ := hsp; exact gone S6 fun s7 J7 => ⟨_, _, J7, q6⟩
          | cont => obtain ⟨σ6, H6, S6, q6⟩ := hsp; exact gone S6 fun s7 J7 => ⟨_, _, J7, q6⟩
          | ret u => obtain ⟨v6, σ6, H6, S6, r6, q6⟩ := hsp; exact gone S6 fun s7 J7 => ⟨_, _, _, J7, r6, q6⟩
    exact each hh w
  · cases f with
    | next => obtain ⟨σ', H', J', q⟩ := hsp; exact wpAny_execs_nil ⟨σ', H', J'.ofTry ok, q⟩
    | brk => obtain ⟨σ', H', J', q⟩ := hsp; exact ⟨σ', H', J'.ofTry ok, q⟩
    | cont => obtain ⟨σ', H', J', q⟩ := hsp; exact ⟨σ', H', J'.ofTry ok, q⟩
    | ret u => obtain ⟨v, σ', H', J', r, q⟩ := hsp; exact ⟨v, σ', H', J'.ofTry ok, r, q⟩
end Nt

/-! o[i] = v by an own `__setitem__` -/
namespace Nt
open PySem PySem.Spec PyProof.Rows
open L2 hiding rLen
/-- the class is no sequence of the language's own -/
def nsB (c : Str) : PySem.W.Frag → Bool := fun K => PySem.W.noSeq K (He.ga K c)
structure NsQ (K : PySem.W.Frag) (c : Str) : Prop where
  no : PySem.W.noSeq K (He.ga K c) = true
theorem nsq_ok {K : PySem.W.Frag} {c : Str} (h : (FaX.any (nsB c)).ok K = true) : NsQ K c := ⟨h⟩
structure DfT (P : Program) (w : World) (K : PySem.W.Frag) (mg : Str → Option Value) (base : Heap) (k : Nat) (c : Str) (ps : List Str) (sp : Sp) : Prop where
  meth : Meth K (He.ga K c) "__setitem__" (He.ma K (He.ga K c) "__setitem__")
  ns : NsQ K c
  ok : ∃ fd, FnOk P w K mg base (L2.CX P w) k (He.ma K (He.ga K c) "__setitem__") fd ps sp ∧ Binds K fd ps []
theorem Bok.dt {P : Program} {w : World} {K : PySem.W.Frag} {mg : Str → Option Value} {base : Heap} {k : Nat} {c q : Str} {ps : List Str} {sp : Sp} {st : Stmt} (b : Bok P w K mg base k q st ps sp) (F : AtM K c "__setitem__" q st ps []) (N : NsQ K c) : DfT P w K mg base k c ps sp := by
  obtain ⟨fd, dfl, kws, F1, ds, hd, F2⟩ := F.ex
  cases hd
  exact ⟨F.meth, N, fd, b F1, F2⟩
def gSetO (C : Addr) (sp : Sp) (W : WX) (to ti : TE) : TG := fun v σ H Q => to σ H fun o H1 => ti σ H1 fun i H2 => ∃ (a dx : Addr) (fs : List (Str × V)), o = .ref a ∧ H2 a = some (.ins C dx fs) ∧ sp [o, i, v] H2 (fun _ H3 => Q σ H3) (WE W σ)
theorem gs_setO {C : Addr} {sp : Sp} {W : WX} {to ti : TE} {v : V} {σ : L2.St} {H : Hp} {Q : L2.St → Hp → Prop} (h : to σ H fun o H1 => ti σ H1 fun i H2 => ∃ (a dx : Addr) (fs : List (Str × V)), o = .ref a ∧ H2 a = some (.ins C dx fs) ∧ sp [o, i, v] H2 (fun _ H3 => Q σ H3) (WE W σ)) : gSetO C sp W to ti v σ H Q := h
section
variable {X : Cx} {W : WX} {k : Nat} {c : Str} {ps : List Str} {sp : Sp} {o i : Expr} {to ti : TE} {pos : Pos}
theorem pg_setO (G : DfT X.prog X.w X.K X.mg X.base k c ps sp) (hr : Room k X.A) (ho : PE X o to) (hi : PE X i ti) (wk : Takes X W)
    (ha : ∀ v, assign (.Subscript o i pos) X.env v = (do
      let ov ← holding [v] (eval o X.env)
      let iv ← holding [v, ov] (eval i X.env)
      standAt pos
      holding [v, ov, iv] (setItem ov iv v)
      release [v, ov, iv] []) := by intro _; rfl) : PG X (.Subscript o i pos) (gSetO (He.ga X.K c) sp W to ti) := by
  obtain ⟨fd, Fo, hb⟩ := G.ok
  refine ⟨fun pins s σ H v u Q I r h => ?_⟩
  rw [ha]
  refine wpAny_bind (wpAny_holding (thn (ho.run pins s σ H _ I h) fun ov s1 ⟨x, H1, I1, r1, q1⟩ => ?_))
  refine wpAny_bind (wpAny_holding (thn (hi.run pins s1 σ H1 _ I1 q1) fun iv s2 ⟨y, H2, I2, r2, a, dx, fs, ex, e, q⟩ => ?_))
  subst ex
  obtain rfl : ov = Value.ref a := r1
  obtain ⟨ox, od, J⟩ := ins_at I2 e
  obtain ⟨m, hF⟩ := I2.fr
  have r3 : Vals [V.ref a, y, v] [Value.ref a, iv, u] := .cons rfl (.cons r2 (.cons r .nil))
  have hl : [Value.ref a, iv, u].length = ps.length := by
    have := r3.length
    rw [Fo.len _ _ _ _ q] at this
    exact this.symm
  have b := hb s2 [.ref a, iv, u] I2.kIn (by rw [List.append_nil]; exact hl)
  rw [List.append_nil] at b
  refine wpAny_bind (wpAny_standAt (wpAny_bind (wpAny_holding ?_)))
  refine PySem.W.ksp_setItem hF I2.ok.mod.kin J G.ns.no G.meth.at_ G.meth.fn ?_
  exact run_W (args := ⟨[.ref a, iv, u], []⟩) Fo hr I2.env0 wk I2 b r3 q fun v u H' s' I' rv z => wpAny_release ⟨σ, H', I', z⟩
end
end Nt

/-! xs.insert(i, y) -/
namespace Nt
open PySem PySem.Spec PyProof.Rows
open L2 hiding rLen
def rInsert : V → List V → Hp → VK → Prop := fun x vs H Q => ∃ (l : Addr) (xs : List V) (i : Int) (y : V), x = .ref l ∧ vs = [.int i, y] ∧ H l = some (.lst xs) ∧ xs.length < sizeLine ∧ 0 ≤ i ∧ i < 2 ^ 63 ∧
    Q .non (upd H l (.lst (xs.take i.toNat ++ [y] ++ xs.drop i.toNat)))
theorem mt_insertN {X : Cx} : MtR X "list.insert" rInsert := mt_insert
end Nt

/-! min(x, default=d) of whole numbers; x.strip(y); {x: c for x in numbers} -/
namespace Nt
open PySem PySem.Spec PyProof.Rows
open L2 hiding rLen
def rMinDf (K : PySem.W.Frag) : List V → List V → Hp → VK → Prop := fun vs zs H Q => ∃ (a : Addr) (ns : List Int) (d : V), vs = [V.ref a] ∧ zs = [d] ∧ SqL K H a (ns.map V.int) ∧ (ns = [] → Q d H) ∧ (∀ n r, ns = n :: r → Q (.int (r.foldl min n)) H)
theorem alike_ints (xs : List Int) : PySem.W.AlikeAll (xs.map PyData.int) := by
  refine ⟨fun x hx y hy => ?_, fun x hx => ?_⟩
  · obtain ⟨a, _, rfl⟩ := List.mem_map.mp hx
    obtain ⟨b, _, rfl⟩ := List.mem_map.mp hy
    rfl
  · obtain ⟨a, _, rfl⟩ := List.mem_map.mp hx
    nofun
theorem depth_ints : ∀ xs : List Int, PyData.depthAll (xs.map PyData.int) = 0
  | [] => rfl
  | x :: xs => by
    show max (PyData.depth (.int x)) (PyData.depthAll (xs.map PyData.int)) = 0
    rw [depth_ints xs]
    rfl
theorem cr_minDf {X : Cx} (hc : X.calm = true) (hu : X.A.units + 65 < cLine) : CallRK X (.builtin "min") ["default"] (rMinDf X.K) := by
  intro pins s σ H vs zs us ws Q I r rz h
  obtain ⟨a, ns, d, rfl, rfl, hs, h0, h1⟩ := h
  obtain ⟨its, rv, hl, _⟩ := I.list hs
  rw [Vals.ref1 r]
  obtain ⟨w, rfl, rw'⟩ := rz.one
  refine PySem.W.min_list_default (I.ok.hd hc) hl.isList (ints_readAll _ rv.ints) (alike_ints ns) (by rw [depth_ints]; omega) (fun e h' tk hk => ?_) (fun y ys i v h' tk bs e hv rd hk => ?_)
  · have e : ns = [] := List.map_eq_nil_iff.mp e
    exact ⟨d, H, I.kept hk, rw', h0 e⟩
  · cases ns with
    | nil => cases e
    | cons n r =>
      rw [List.map_cons] at e
      injection e with e1 e2
      subst e1 e2
      rw [PySem.W.minD_ints] at rd
      cases rd
      exact ⟨.int (r.foldl min n), H, I.kept hk, ⟨_, rfl⟩, h1 n r rfl⟩
def rStripC : V → List V → Hp → VK → Prop := fun x xs H Q => ∃ a b, x = .str a ∧ xs = [.str b] ∧ a.length ≤ sizeLine ∧ Q (.str (Txt.stripChars a b)) H
theorem mt_stripC {X : Cx} : MtR X "str.strip" rStripC := mt_stripChars
theorem pe_stripC {X : Cx} {o e : Expr} {to te : TE} {apos pos : Pos} (ho : PE X o to) (he : PE X e te) (hs : starEach [e] X.env = [(false, eval e X.env)] := by rfl) (hbase : attributeBase o "strip" X.env (eval o X.env) = eval o X.env := by rfl) (hline : (apos.endLine == pos.line) = true := by rfl) :
    PE X (.Call (.Attribute o "strip" apos) [e] [] pos) (tM1 rStripC to te) := pe_m1 F.slot_str_strip F.type_str_strip mt_stripC ho he hs hbase hline
theorem T_getD (l : List Nat) (k : Nat) : (T l).cps.getD k 0 = l.getD k 0 := by
  rw [← PyProof.Rows.getD_list, T_cps]
/-- what is left of a text whose ends are stripped: nothing, if all its signs are such -/
theorem strip_iff (l m : List Nat) : decide (Txt.stripChars (T l) (T m) = T []) = l.all fun c => decide (c ∈ m) := by
  have hg : ∀ c, (T m).cps.contains c = decide (c ∈ m) := fun c => by
    rw [Bool.eq_iff_iff, decide_eq_true_eq]
    simp [T]
  unfold Txt.stripChars
  rw [PyProof.Rows.stripBy_eq]
  obtain ⟨a1, a2, a3⟩ := PyProof.Rows.lo_facts ((T m).cps.contains) (T l)
  obtain ⟨b1, b2, b3, b4⟩ := PyProof.Rows.hi_facts ((T m).cps.contains) (T l) _ a1
  generalize stripLo ((T m).cps.contains) true (T l) = lo at *
  generalize stripHi ((T m).cps.contains) true (T l) lo = hi at *
  rw [T_len] at a1 a3 b2 b3
  have e : (PySem.Builtin.Str.strSub (T l) lo hi = T []) ↔ hi = lo := by
    constructor
    · intro h
      have h := congrArg (fun z : Str => z.cps.size) h
      simp only [PySem.Builtin.Str.strSub, T, Array.size_extract, List.size_toArray, List.length_nil] at h
      omega
    · intro h
      subst h
      simp [PySem.Builtin.Str.strSub, T]
  rw [Bool.eq_iff_iff, decide_eq_true_eq, e, List.all_eq_true]
  constructor
  · intro h c hc
    obtain ⟨k, hk, rfl⟩ := List.mem_iff_getElem.mp hc
    have hkk : (T l).cps.getD k 0 = l[k] := by rw [T_getD]; simp [List.getD_eq_getElem?_getD, hk]
    rw [← hg, ← hkk]
    by_cases h1 : k < lo
    · exact a2 k h1
    · exact b3 k (by omega) hk
  · intro h
    have all : ∀ k, k < l.length → (T m).cps.contains ((T l).cps.getD k 0) = true := fun k hk => by
      rw [T_getD, hg]
      refine h _ ?_
      rw [List.getD_eq_getElem?_getD, List.getElem?_eq_getElem hk]
      exact List.getElem_mem _
    rcases a3 with a3 | a3
    · omega
    · by_cases hlo : lo < l.length
      · rw [all lo hlo] at a3
        cases a3
      · omega
section
variable {K : PySem.W.Frag} {M : Addr → Prop} {I : Hp → Prop} {H1 : Hp} {Q : VK} {σ : L2.St} {vs : List Nat} {i : Nat}
/-- {x: c for x in numbers}, the numbers distinct -/
theorem dc_nat {x : V} {d : D} {F : List Nat} {c : V} (hw : Wf M I) (hI : I H1) (hx : Rep K M H1 x d) (hd : d.elems = some (F.map fun l : Nat => D.int (l : Int))) (hn : F.Nodup) (hlen : F.length ≤ 100000) (hwp : ∀ v, wipe ((wipe σ vs).set i (some v)) vs = wipe σ vs) (hi : ∀ v, ((wipe σ vs).set i (some v))[i]? = some (some v))
    (hq : ∀ D H', H1 D = none → ¬ M D → H' D = some (.dK (F.map fun l : Nat => ((.inl (l : Int) : Key), c))) → Ex M H1 H' → I H' → Q (.ref D) H') : srcR K (DcR (gName i) tYes (tVar i) (tC c) vs σ Q) x H1 := by
  obtain ⟨S, xs, rfl, r, hS⟩ := src_of hx hd
  have hxs : xs = F.map fun l : Nat => V.int (l : Int) := Reps.scal_inv (f := fun l : Nat => V.int (l : Int)) (g := fun l : Nat => D.int (l : Int)) (fun a v h => rep_int h) r
  have key : ∀ {J : It} {G : Hp → Prop} {Y : Nat → Hp → V → Hp → Prop}, L2.Walk J F.length G Y → (∀ H', Ex M H1 H' → G H') → (∀ k H x H', Y k H x H' → H' = H ∧ xs[k]? = some x) → DcR (gName i) tYes (tVar i) (tC c) vs σ Q J H1 := fun {J G Y} w hG hY => by
    intro D hD
    have nM : ¬ M D := hw.fresh hI hD
    let St : Nat → Hp → Prop := fun k H => H D = some (.dK ((F.take k).map fun l : Nat => ((.inl (l : Int) : Key), c))) ∧ Ex (Mq M D) H1 H ∧ I H
    have hG2 : ∀ {k : Nat} {H : Hp}, St k H → G H := fun {k H} h => hG _ (h.2.1.shut hD)
    refine ⟨fun k m H => m = F.length - k ∧ k ≤ F.length ∧ St k H, ⟨F.length, by simp, Nat.zero_le _, upd_same, Ex.of (same_upd hD), hw.same (same_upd hD) hI⟩, ?_⟩
    rintro k m H ⟨rfl, hk, h⟩
    by_cases hlt : k < F.length
    · refine .inr ⟨w.goes k H hlt (hG2 h), St (k + 1), fun H' h' => ⟨F.length - (k + 1), by omega, rfl, hlt, h'⟩, fun y H' hy => ?_⟩
      obtain ⟨e, ey⟩ := hY k H y H' (w.yields k H y H' hlt (hG2 h) hy)
      subst e
      have ha : F[k]? = some F[k] := by simp [hlt]
      have ey2 : y = V.int ((F[k] : Nat) : Int) := by
        rw [hxs, List.getElem?_map, ha] at ey
        cases ey
        rfl
      subst ey2
      refine ⟨hwp _, sx_yes ?_⟩
      refine ifT ?_
      refine sx_var (hi _) ?_
      refine sx_c ?_
      have hni : F[k] ∉ F.take k := fun hm => by
        have e2 : F = F.take k ++ F[k] :: F.drop (k + 1) := by rw [List.getElem_cons_drop, List.take_append_drop]
        rw [e2] at hn
        exact (List.nodup_append.mp hn).2.2 _ hm _ List.mem_cons_self rfl
      have hp : putK ((F.take k).map fun l : Nat => ((.inl (l : Int) : Key), c)) (.inl ((F[k] : Nat) : Int)) c = (F.take (k + 1)).map fun l : Nat => ((.inl (l : Int) : Key), c) := by
        have h2 : (((F.take k).map fun l : Nat => ((.inl (l : Int) : Key), c)).any fun kv => decide (kv.1 = (Sum.inl ((F[k] : Nat) : Int) : Key))) = false := by
          rw [List.any_eq_false]
          intro kv hkv
          obtain ⟨a, ha, rfl⟩ := List.mem_map.mp hkv
          simp only [decide_eq_true_eq, Sum.inl.injEq]
          intro e
          exact hni ((show a = F[k] by omega) ▸ ha)
        unfold putK
        rw [if_neg (by rw [h2]; exact Bool.false_ne_true), take_snoc ha, List.map_append]
        rfl
      refine ⟨_, .inl ((F[k] : Nat) : Int), rfl, h.1, Nat.lt_of_lt_of_le (show _ < 100001 by rw [List.length_map, List.length_take]; omega) (by decide), ?_⟩
      rw [hp]
      refine ⟨upd_same, h.2.1.trans (fun a o n z => by rw [upd_ne fun e => n (.inr e)]; exact z), ?_⟩
      exact (hw.put (o := .dK ((F.take k).map fun l : Nat => ((.inl (l : Int) : Key), c))) nM ⟨h.2.2, h.1⟩).1.1
    · have e : k = F.length := by omega
      subst e
      refine .inl ⟨w.stops H (hG2 h), ?_⟩
      obtain ⟨h1, h2, h3⟩ := h
      rw [List.take_length] at h1
      exact hq D H hD nM h1 (h2.shut hD) h3
  have hl : xs.length = F.length := by rw [hxs]; simp
  cases S with
  | lst a =>
    refine .inl ⟨a, rfl, ⟨xs, hS H1 (Ex.refl _)⟩, ?_⟩
    have w := walk_list (K := K) (a := a) (xs := xs)
    rw [hl] at w
    exact key w hS fun k H x H' y => y
  | tup a =>
    refine .inr (.inl ⟨a, rfl, ⟨xs, hS H1 (Ex.refl _)⟩, ?_⟩)
    have w := walk_tup (K := K) (a := a) (xs := xs)
    rw [hl] at w
    exact key w hS fun k H x H' y => y
  | txt z =>
    refine .inr (.inr ⟨z, rfl, ?_⟩)
    have hxs2 : xs = signs z := hS H1 (Ex.refl _)
    have w := walk_str (z := z)
    have hz : z.cps.size = F.length := by rw [← hl, hxs2]; simp [signs]
    rw [hz] at w
    refine key w (fun _ _ => trivial) fun k H x H' y => ⟨y.1, ?_⟩
    obtain ⟨_, c, e1, e2⟩ := y
    rw [hxs2, e2]
    simp [signs, e1]
end
end Nt

/-! dicts walked by keys and items (locked), get, pop; sorted pairs of a text and a number; ranges downward -/
namespace Nt
open PySem PySem.Spec PyProof.Rows
open L2 hiding rLen
section
variable {K : PySem.W.Frag} {M : Addr → Prop} {I : Hp → Prop} {J : It} {G : Hp → Prop} {Y : Nat → Hp → V → Hp → Prop} {α : Type} {as : List α} {g : TG} {tt : TT} {te : TE} {vs : List Nat} {σ : L2.St} {H1 : Hp}
theorem lc_anyD {Q : VK} (w : L2.Walk J as.length G Y) (hw : Wf M I) (hI : I H1) (p : α → Bool) (P : α → D → Prop) (asg : Nat → α → L2.St) (hG : ∀ H', Ex M H1 H' → I H' → G H') (hlen : as.length ≤ sizeLine)
    (hb : ∀ k a, as[k]? = some a → ∀ H x H' (Qc : L2.St → Hp → Prop), Ex M H1 H → Y k H x H' → (∀ H2, L2.Same H H2 → Qc (asg k a) H2) → g x (wipe σ vs) H' Qc) (hwp : ∀ k a, wipe (asg k a) vs = wipe σ vs)
    (ht : ∀ L acc k a H, H1 L = none → ¬ M L → as[k]? = some a → Wf (Mq M L) (Iq I L (.lst acc)) → Iq I L (.lst acc) H → Ex (Mq M L) H1 H →
      ∀ Qt : Bool → Hp → Prop, (∀ H3, Iq I L (.lst acc) H3 → Ex (Mq M L) H H3 → Qt (p a) H3) → tt (asg k a) H Qt)
    (he : ∀ L acc k a H, H1 L = none → ¬ M L → as[k]? = some a → p a = true → Wf (Mq M L) (Iq I L (.lst acc)) → Iq I L (.lst acc) H → Ex (Mq M L) H1 H →
      ∀ Qe : VK, (∀ y d H4, P a d → Rep K (Mq M L) H4 y d → Iq I L (.lst acc) H4 → Ex (Mq M L) H H4 → Qe y H4) → te (asg k a) H Qe)
    (hd : ∀ L ds H', H1 L = none → A2 P (as.filter p) ds → Rep K M H' (.ref L) (.lst ds) → Ex M H1 H' → I H' → Q (.ref L) H') :
    ∀ L, H1 L = none → ∃ W : Nat → Nat → Hp → Prop, (∃ m, W 0 m (upd H1 L (.lst []))) ∧ ∀ i m H, W i m H →
      (J.stop i H ∧ Q (.ref L) H) ∨ (J.go i H ∧ ∃ Nx : Hp → Prop, (∀ H', Nx H' → ∃ m', m' < m ∧ W (i + 1) m' H') ∧ ∀ x H', J.yld i H x H' → g x (wipe σ vs) H' fun σ2 H2 => wipe σ2 vs = wipe σ vs ∧ tt σ2 H2 fun b H3 =>
        if b = true then te σ2 H3 fun y H4 => ∃ acc, H4 L = some (.lst acc) ∧ acc.length < sizeLine ∧ Nx (upd H4 L (.lst (acc ++ [y]))) else Nx H3) := by
  intro L hL
  have nM : ¬ M L := hw.fresh hI hL
  have exL : ∀ {H' : Hp}, Ex (Mq M L) H1 H' → Ex M H1 H' := fun e p o n h => e p o (fun m => m.elim n fun z => by rw [z, hL] at h; cases h) h
  refine lc_it w (fun k H => ∃ acc ds, Iq I L (.lst acc) H ∧ A2 P ((as.take k).filter p) ds ∧ Reps K (Mq M L) H acc ds ∧ Ex (Mq M L) H1 H) ?_ (fun k H _ h => ?_) ?_ ?_
  · refine ⟨[], [], ⟨hw.same (same_upd hL) hI, upd_same⟩, .nil, .nil, Ex.of (same_upd hL)⟩
  · obtain ⟨acc, ds, i, _, _, e⟩ := h
    exact hG H (exL e) i.1
  · rintro k x H H' hk ⟨acc, ds, i1, a2, rs, e⟩ y
    have ha : as[k]? = some as[k] := by simp [hk]
    have wf' := hw.add L (.lst acc)
    have hlen2 : acc.length < sizeLine := by
      have l1 := rs.length
      have l2 := a2.length
      have l3 : ((as.take k).filter p).length ≤ (as.take k).length := List.length_filter_le _ _
      have l4 : (as.take k).length ≤ k := by simp; omega
      omega
    refine hb k _ ha H x H' _ (exL e) y fun H2 sm => ⟨hwp k _, ?_⟩
    have i2 := wf'.same sm i1
    have e2 : Ex (Mq M L) H1 H2 := e.trans (Ex.of sm)
    have rs2 := rs.same sm
    refine ht L acc k _ H2 hL nM ha wf' i2 e2 _ fun H3 i3 e3 => ?_
    cases hp : p as[k] with
    | false =>
      simp only [Bool.false_eq_true, if_false]
      refine ⟨acc, ds, i3, ?_, rs2.ex e3, e2.trans e3⟩
      rw [take_snoc ha, List.filter_append]
      simpa [hp] using a2
    | true =>
      simp only [if_true]
      refine he L acc k _ H3 hL nM ha hp wf' i3 (e2.trans e3) _ fun y d H4 py ry i4 e4 => ⟨acc, i4.2, hlen2, ?_⟩
      obtain ⟨i5, e5⟩ := hw.put (o' := .lst (acc ++ [y])) nM i4
      refine ⟨acc ++ [y], ds ++ [d], i5, ?_, ?_, ((e2.trans e3).trans e4).trans e5⟩
      · rw [take_snoc ha, List.filter_append]
        refine a2.append ?_
        simp [hp]
        exact .cons py .nil
      · exact (((rs2.ex e3).ex e4).append (.cons ry .nil)).ex e5
  · rintro H ⟨acc, ds, i1, a2, rs, e⟩
    refine hd L ds H hL ?_ (.lst i1.2 nM (rs.le fun p m => .inl m)) (exL e) i1.1
    simpa using a2
end
section
variable {K : PySem.W.Frag} {M : Addr → Prop} {I : Hp → Prop} {te : TE} {vs : List Nat} {σ : L2.St} {H : Hp} {Q : VK}
/-- the dict is locked while it is walked -/
theorem sx_lock {d : Addr} {kvs : List (Key × V)} {t : TE} (hw : Wf M I) (np : ¬ M d) (hI : Iq I d (.dK kvs) H)
    (h : ∀ od H1, Iq I d (.frz od (.dK kvs)) H1 → Ex (Mq M d) H H1 → ∀ Q' : VK, (∀ v H', Iq I d (.frz od (.dK kvs)) H' → (∀ H2, Iq I d (.dK kvs) H2 → Ex (Mq M d) H' H2 → Q v H2) → Q' v H') → t σ H1 Q') : tLockE t σ H Q := by
  obtain ⟨i1, e1⟩ := hw.put (o' := .frz (default : Obj) (.dK kvs)) np hI
  refine ⟨d, _, hI.2, True.intro, fun od => ?_⟩
  obtain ⟨i1, e1⟩ := hw.put (o' := .frz od (.dK kvs)) np hI
  refine h od _ i1 e1 _ fun v H' i2 q => ?_
  obtain ⟨i3, e3⟩ := hw.put (o' := .dK kvs) np i2
  exact ⟨i2.2, q _ i3 e3⟩
/-- [e for k, v in d.items()], d locked -/
theorem lc_items {i j : Nat} {d : Addr} {od : Obj} {kvs : List (Key × V)} (f : Key × V → D) (hw : Wf M I) (hI : I H) (hd : ∀ H', I H' → H' d = some (.frz od (.dK kvs))) (hlen : kvs.length ≤ sizeLine) (hwp : ∀ v w, wipe (((wipe σ vs).set i (some v)).set j (some w)) vs = wipe σ vs)
    (he : ∀ (L : Addr) (acc : List V) (a : Key × V) (H1 : Hp), H L = none → a ∈ kvs → Wf (Mq M L) (Iq I L (.lst acc)) → Iq I L (.lst acc) H1 → Ex (Mq M L) H H1 →
      ∀ Qe : VK, (∀ y H4, Rep K (Mq M L) H4 y (f a) → Iq I L (.lst acc) H4 → Ex (Mq M L) H1 H4 → Qe y H4) → te (((wipe σ vs).set i (some (kV a.1))).set j (some a.2)) H1 Qe)
    (hq : ∀ y H', Rep K M H' y (.lst (kvs.map f)) → Ex M H H' → I H' → Q y H') : LcR (gTup K 2 (gCons (gName i) (gCons (gName j) gNil))) tYes te vs σ Q (Iti d od kvs) H := by
  refine lc_anyD (K := K) (as := kvs) (walk_items (kvs := kvs)) hw hI (fun _ => true) (fun a e => e = f a) (fun _ a => ((wipe σ vs).set i (some (kV a.1))).set j (some a.2)) (fun H' _ i => hd H' i) hlen (fun k a ha => ?_) (fun _ _ => hwp _ _) (fun L acc k a H1 hL _ _ _ hi _ Qt q => q H1 hi (Ex.refl _)) (fun L acc k a H1 hL _ ha _ wf hi ex Qe q => ?_) fun L ds H' hL a2 rp ex hi => ?_
  · intro H1 x H2 Qc _ y q
    obtain ⟨T, u, v, e1, hT, e3, e4, e5⟩ := y
    dsimp only at e4 e5
    rw [ha] at e4 e5
    cases e4
    cases e5
    subst e1 e3
    exact ⟨T, _, rfl, SqT.of upd_same, rfl, _, _, rfl, _, _, rfl, rfl, q _ (same_upd hT)⟩
  · exact he L acc a H1 hL (List.mem_of_getElem? ha) wf hi ex Qe fun y H4 r i e => q y _ H4 rfl r i e
  · rw [a2.eq, List.filter_eq_self.mpr fun _ _ => rfl] at rp
    exact hq _ H' rp ex hi
/-- [e for k in d], d locked -/
theorem lc_keys {i : Nat} {d : Addr} {od : Obj} {kvs : List (Key × V)} (f : Key × V → D) (hw : Wf M I) (hI : I H) (hd : ∀ H', I H' → H' d = some (.frz od (.dK kvs))) (hlen : kvs.length ≤ sizeLine) (hwp : ∀ v, wipe ((wipe σ vs).set i (some v)) vs = wipe σ vs)
    (he : ∀ (L : Addr) (acc : List V) (a : Key × V) (H1 : Hp), H L = none → a ∈ kvs → Wf (Mq M L) (Iq I L (.lst acc)) → Iq I L (.lst acc) H1 → Ex (Mq M L) H H1 →
      ∀ Qe : VK, (∀ y H4, Rep K (Mq M L) H4 y (f a) → Iq I L (.lst acc) H4 → Ex (Mq M L) H1 H4 → Qe y H4) → te ((wipe σ vs).set i (some (kV a.1))) H1 Qe)
    (hq : ∀ y H', Rep K M H' y (.lst (kvs.map f)) → Ex M H H' → I H' → Q y H') : LcR (gName i) tYes te vs σ Q (Itk d od kvs) H := by
  refine lc_anyD (K := K) (as := kvs) (walk_keys (kvs := kvs)) hw hI (fun _ => true) (fun a e => e = f a) (fun _ a => (wipe σ vs).set i (some (kV a.1))) (fun H' _ i => hd H' i) hlen (fun k a ha => ?_) (fun _ _ => hwp _) (fun L acc k a H1 hL _ _ _ hi _ Qt q => q H1 hi (Ex.refl _)) (fun L acc k a H1 hL _ ha _ wf hi ex Qe q => ?_) fun L ds H' hL a2 rp ex hi => ?_
  · intro H1 x H2 Qc _ y q
    obtain ⟨rfl, k2, v2, e1, rfl⟩ := y
    rw [ha] at e1
    cases e1
    exact q _ (L2.Same.refl _)
  · exact he L acc a H1 hL (List.mem_of_getElem? ha) wf hi ex Qe fun y H4 r i e => q y _ H4 rfl r i e
  · rw [a2.eq, List.filter_eq_self.mpr fun _ _ => rfl] at rp
    exact hq _ H' rp ex hi
theorem sx_items {td : TE} {R : It → Hp → Prop} (h : td σ H fun x H1 => ∃ d o kvs, x = .ref d ∧ H1 d = some (.frz o (.dK kvs)) ∧ R (Iti d o kvs) H1) : iItems td σ H R := h
theorem sx_keys {td : TE} {R : It → Hp → Prop} (h : td σ H fun x H1 => ∃ d o kvs, x = .ref d ∧ H1 d = some (.frz o (.dK kvs)) ∧ R (Itk d o kvs) H1) (mono : ∀ {A B : VK}, (∀ v H', A v H' → B v H') → td σ H A → td σ H B) : iKeys td σ H R := mono (fun v H' hh => by obtain ⟨d, o, kvs, e, h1, h2⟩ := hh; exact ⟨d, o, e, .inl ⟨kvs, h1, h2⟩⟩) h
theorem sx_keysV {n : Nat} {d : Addr} {od : Obj} {kvs : List (Key × V)} {R : It → Hp → Prop} (hv : σ[n]? = some (some (.ref d))) (h1 : H d = some (.frz od (.dK kvs))) (h : R (Itk d od kvs) H) : iKeys (tVar n) σ H R := ⟨_, hv, d, od, rfl, .inl ⟨kvs, h1, h⟩⟩
theorem sx_itemsV {n : Nat} {d : Addr} {od : Obj} {kvs : List (Key × V)} {R : It → Hp → Prop} (hv : σ[n]? = some (some (.ref d))) (h1 : H d = some (.frz od (.dK kvs))) (h : R (Iti d od kvs) H) : iItems (tVar n) σ H R := ⟨_, hv, d, od, kvs, rfl, h1, h⟩
theorem for_rngC {i : Nat} {lo c : Int} {n : Nat} {tb : TS} {E : Ends} (Pv : Nat → L2.St → Hp → Prop) (h0 : Pv 0 σ H)
    (hs : ∀ k σ H, k < n → Pv k σ H → tb { E with nx := Pv (k + 1), ct := Pv (k + 1), bk := E.nx } (σ.set i (some (.int (lo + (k : Nat) * c)))) H) (hq : ∀ σ H, Pv n σ H → E.nx σ H) : ForR (gName i) tb E σ (Itc lo c n) H := by
  refine for_it walk_rangeC Pv h0 (fun _ _ _ _ _ => trivial) (fun k x σ H H' hk h y => ?_) hq
  obtain ⟨rfl, rfl⟩ := y
  exact hs k σ _ hk h
theorem sx_dget2 {td ty tx : TE} (h : td σ H fun x H1 => ∃ a, x = .ref a ∧ IsD H1 a ∧ ty σ H1 fun y H2 => tx σ H2 fun z H3 => ∃ o, DGet H3 a y o ∧ Q (o.getD z) H3) : tDGet2 td ty tx σ H Q := h
theorem sx_dpop1 {td ty : TE} (h : td σ H fun x H1 => ∃ a, x = .ref a ∧ IsD H1 a ∧ ty σ H1 fun y H2 => ∃ kvs k v, H2 a = some (.dK kvs) ∧ y = kV k ∧ valV kvs k = some v ∧ Q v (upd H2 a (.dK (dropK kvs k)))) : tDPop1 td ty σ H Q := h
end
section
variable {K : PySem.W.Frag} {M : Addr → Prop} {I : Hp → Prop} {H1 : Hp} {Q : VK} {σ : L2.St} {vs : List Nat} {i : Nat}
/-- {x: c x for x in texts}, the texts distinct -/
theorem dc_txt {x : V} {d : D} {F : List (List Nat)} {c : List Nat → V} {tv : TE} (hw : Wf M I) (hI : I H1) (hx : Rep K M H1 x d) (hd : d.elems = some (F.map fun l => .str (T l))) (hn : F.Nodup) (hlen : F.length ≤ 100000) (hwp : ∀ v, wipe ((wipe σ vs).set i (some v)) vs = wipe σ vs) (hi : ∀ v, ((wipe σ vs).set i (some v))[i]? = some (some v))
    (hv : ∀ (D : Addr) (l : List Nat) (H' : Hp) (Z : VK), H1 D = none → l ∈ F → Ex (Mq M D) H1 H' → I H' → Z (c l) H' → tv ((wipe σ vs).set i (some (.str (T l)))) H' Z)
    (hq : ∀ D H', H1 D = none → ¬ M D → H' D = some (.dK (F.map fun l : List Nat => ((.inr (T l) : Key), c l))) → Ex M H1 H' → I H' → Q (.ref D) H') : srcR K (DcR (gName i) tYes (tVar i) tv vs σ Q) x H1 := by
  obtain ⟨S, xs, rfl, r, hS⟩ := src_of hx hd
  have hxs : xs = F.map fun l => V.str (T l) := Reps.scal_inv (f := fun l => V.str (T l)) (g := fun l => D.str (T l)) (fun a v h => rep_str h) r
  have key : ∀ {J : It} {G : Hp → Prop} {Y : Nat → Hp → V → Hp → Prop}, L2.Walk J F.length G Y → (∀ H', Ex M H1 H' → G H') → (∀ k H x H', Y k H x H' → H' = H ∧ xs[k]? = some x) → DcR (gName i) tYes (tVar i) tv vs σ Q J H1 := fun {J G Y} w hG hY => by
    intro D hD
    have nM : ¬ M D := hw.fresh hI hD
    let St : Nat → Hp → Prop := fun k H => H D = some (.dK ((F.take k).map fun l : List Nat => ((.inr (T l) : Key), c l))) ∧ Ex (Mq M D) H1 H ∧ I H
    have hG2 : ∀ {k : Nat} {H : Hp}, St k H → G H := fun {k H} h => hG _ (h.2.1.shut hD)
    refine ⟨fun k m H => m = F.length - k ∧ k ≤ F.length ∧ St k H, ⟨F.length, by simp, Nat.zero_le _, upd_same, Ex.of (same_upd hD), hw.same (same_upd hD) hI⟩, ?_⟩
    rintro k m H ⟨rfl, hk, h⟩
    by_cases hlt : k < F.length
    · refine .inr ⟨w.goes k H hlt (hG2 h), St (k + 1), fun H' h' => ⟨F.length - (k + 1), by omega, rfl, hlt, h'⟩, fun y H' hy => ?_⟩
      obtain ⟨e, ey⟩ := hY k H y H' (w.yields k H y H' hlt (hG2 h) hy)
      subst e
      have ha : F[k]? = some F[k] := by simp [hlt]
      have ey2 : y = V.str (T F[k]) := by
        rw [hxs, List.getElem?_map, ha] at ey
        cases ey
        rfl
      subst ey2
      refine ⟨hwp _, sx_yes ?_⟩
      refine ifT ?_
      refine sx_var (hi _) ?_
      refine hv D F[k] _ _ hD (List.getElem_mem _) h.2.1 h.2.2 ?_
      have hni : T F[k] ∉ (F.take k).map T := fun hm => by
        obtain ⟨l, hl, e⟩ := List.mem_map.mp hm
        have e := T_inj e
        subst e
        have e2 : F = F.take k ++ F[k] :: F.drop (k + 1) := by rw [List.getElem_cons_drop, List.take_append_drop]
        rw [e2] at hn
        exact (List.nodup_append.mp hn).2.2 _ hl _ List.mem_cons_self rfl
      have hp : putK ((F.take k).map fun l : List Nat => ((.inr (T l) : Key), c l)) (.inr (T F[k])) (c F[k]) = (F.take (k + 1)).map fun l : List Nat => ((.inr (T l) : Key), c l) := by
        have h2 : (((F.take k).map fun l : List Nat => ((.inr (T l) : Key), c l)).any fun kv => decide (kv.1 = (Sum.inr (T F[k]) : Key))) = false := by
          rw [List.any_eq_false]
          intro kv hkv
          obtain ⟨a, ha, rfl⟩ := List.mem_map.mp hkv
          simp only [decide_eq_true_eq, Sum.inr.injEq]
          intro e
          exact hni (List.mem_map.mpr ⟨a, ha, e⟩)
        unfold putK
        rw [if_neg (by rw [h2]; exact Bool.false_ne_true), take_snoc ha, List.map_append]
        rfl
      refine ⟨_, .inr (T F[k]), rfl, h.1, Nat.lt_of_lt_of_le (show _ < 100001 by rw [List.length_map, List.length_take]; omega) (by decide), ?_⟩
      rw [hp]
      refine ⟨upd_same, h.2.1.trans (fun a o n z => by rw [upd_ne fun e => n (.inr e)]; exact z), ?_⟩
      exact (hw.put (o := .dK ((F.take k).map fun l : List Nat => ((.inr (T l) : Key), c l))) nM ⟨h.2.2, h.1⟩).1.1
    · have e : k = F.length := by omega
      subst e
      refine .inl ⟨w.stops H (hG2 h), ?_⟩
      obtain ⟨h1, h2, h3⟩ := h
      rw [List.take_length] at h1
      exact hq D H hD nM h1 (h2.shut hD) h3
  have hl : xs.length = F.length := by rw [hxs]; simp
  cases S with
  | lst a =>
    refine .inl ⟨a, rfl, ⟨xs, hS H1 (Ex.refl _)⟩, ?_⟩
    have w := walk_list (K := K) (a := a) (xs := xs)
    rw [hl] at w
    exact key w hS fun k H x H' y => y
  | tup a =>
    refine .inr (.inl ⟨a, rfl, ⟨xs, hS H1 (Ex.refl _)⟩, ?_⟩)
    have w := walk_tup (K := K) (a := a) (xs := xs)
    rw [hl] at w
    exact key w hS fun k H x H' y => y
  | txt z =>
    refine .inr (.inr ⟨z, rfl, ?_⟩)
    have hxs2 : xs = signs z := hS H1 (Ex.refl _)
    have w := walk_str (z := z)
    have hz : z.cps.size = F.length := by rw [← hl, hxs2]; simp [signs]
    rw [hz] at w
    refine key w (fun _ _ => trivial) fun k H x H' y => ⟨y.1, ?_⟩
    obtain ⟨_, c, e1, e2⟩ := y
    rw [hxs2, e2]
    simp [signs, e1]
end
/-! ### sorted(pairs of a text and a number) -/
section
open PySem.W
abbrev eT (g : List Nat → Int) (l : List Nat) : D := .tup [.str (T l), .int (g l)]
def leT (g : List Nat → Int) : List Nat → List Nat → Bool := PySem.W.dataLe false fun l => PyData.tuple [.str (T l), .int (g l)]
def rSortTP (K : PySem.W.Frag) : List V → Hp → VK → Prop := fun vs H Q => ∃ (M : Addr → Prop) (I : Hp → Prop) (x : V) (L : List (List Nat)) (g : List Nat → Int), Wf M I ∧ I H ∧ vs = [x] ∧ Rep K M H x (.lst (L.map (eT g))) ∧ L.length ≤ 1000 ∧ (∀ l ∈ L, ∀ c ∈ l, c < 128) ∧
  ∀ y H', Ex M H H' → I H' → Rep K M H' y (.lst ((L.mergeSort (leT g)).map (eT g))) → Q y H'
theorem cr_sortTP {X : Cx} (hu : X.A.units + 65 < cLine) : CallR X (.builtin "sorted") (rSortTP X.K) := by
  intro pins s σ H vs us Q I r h
  obtain ⟨M, J, x, L, g, hw, hJ, rfl, hx, few, hc, q⟩ := h
  cases hx with
  | @lst a xs _ ha na rs =>
    obtain ⟨its, rv, hl, _⟩ := I.list (SqL.of ha)
    rw [Vals.ref1 r]
    let R : Value → List Nat → Prop := fun v l => (∃ x : V, RelV x v ∧ Rep X.K M H x (eT g l)) ∧ l ∈ L
    have each : EachIs R its L ∧ EachIs (fun v l => ∃ as, Reads s.heap v (PyData.tuple [.str (T l), .int (g l)]) as) its L := by
      have key : ∀ {L0 : List (List Nat)} {xs : List V} {its : List Value}, (∀ l ∈ L0, l ∈ L) → Vals xs its → Reps X.K M H xs (L0.map (eT g)) → EachIs R its L0 ∧ EachIs (fun v l => ∃ as, Reads s.heap v (PyData.tuple [.str (T l), .int (g l)]) as) its L0 := by
        intro L0
        induction L0 with
        | nil =>
          intro xs its _ rv rs
          cases rs
          cases rv
          exact ⟨.nil, .nil⟩
        | cons l L0 ih =>
          intro xs its hin rv rs
          cases rs with
          | cons r1 r2 =>
            cases rv with
            | cons v1 v2 =>
              obtain ⟨i1, i2⟩ := ih (fun l hl => hin l (List.mem_cons_of_mem _ hl)) v2 r2
              have hl := hin l List.mem_cons_self
              have ok : eqOk 1 (eT g l) = true := by simp only [eqOk, eqAll, ok_T (hc l hl), Bool.and_self]
              obtain ⟨as, ra⟩ := Dp.reads I _ _ _ (dp_D r1 ok).1 v1
              exact ⟨.cons ⟨⟨_, v1, r1⟩, hl⟩ i1, .cons ⟨as, ra⟩ i2⟩
      exact key (fun _ h => h) rv rs
    refine sorted_data (enc := fun l => PyData.tuple [.str (T l), .int (g l)]) hl.isList each.1 each.2 (AllAlike.of fun _ _ => by simp [alike, alikeAll]) (Sortable.tuples fun _ => ⟨_, _, rfl⟩) (by rw [sizeLine_eq]; omega) (fun l _ => ?_) fun out ho eo => ?_
    · have e : (PyData.tuple [.str (T l), .int (g l)]).depth = 1 := by simp [PyData.depth, PyData.depthAll]
      omega
    · have back : ∃ ys, Vals ys out ∧ Reps X.K M H ys ((L.mergeSort (leT g)).map (eT g)) := by
        have key : ∀ {Z : List (List Nat)} {out : List Value}, EachIs R out Z → ∃ ys, Vals ys out ∧ Reps X.K M H ys (Z.map (eT g)) := by
          intro Z out h
          induction h with
          | nil => exact ⟨[], .nil, .nil⟩
          | cons h _ ih =>
            obtain ⟨ys, h1, h2⟩ := ih
            obtain ⟨⟨y, h3, h4⟩, _⟩ := h
            exact ⟨y :: ys, .cons h3 h1, .cons h4 h2⟩
        exact key eo
      obtain ⟨ys, v1, r1⟩ := back
      have hlen : ys.length ≤ sizeLine := by rw [r1.length, List.length_map, List.length_mergeSort, sizeLine_eq]; omega
      obtain ⟨ep, he'⟩ := PyProof.Rows.sortedAll_at s.heap its (List.toArray out)
      have hp : H (s.heap.objs.size + 1) = none := I.hok.fresh (Nat.le_succ _)
      have sm := same_upd (o := .lst ys) hp
      exact ⟨.ref _, upd H (s.heap.objs.size + 1) (.lst ys), I.laid (t' := s.toks) (fun _ _ => PyProof.Rows.sortedAll_old) (Nat.le_succ _) ⟨hlen, out, ep, v1, he'⟩, rfl, q _ _ (Ex.of sm) (hw.same sm hJ) (.lst upd_same (hw.fresh hJ hp) (r1.same sm))⟩
end
end Nt

/-! own operators a + b, a != b, a == x; C(e, .., k = v, ..); bool(o) of a class without own truth; C(e, ..) that may raise -/
namespace Nt
open PySem PySem.Spec PyProof.Rows
open L2 hiding rLen
/-! ### C(e, .., k = v, ..) -/
structure AtJ (K : PySem.W.Frag) (mg : Str → Option Value) (c q : Str) (st : Stmt) (ps : List Str) (n : Nat) (ks : List Str) (gV : List V → List V → List V) : Prop where
  mgx : mg c = some (.ref (He.ga K c))
  mkr : Mk K (He.ga K c) (He.ma K (He.ga K c) "__init__")
  ex : ∃ fd dfl kws, FunD K "__init__" q (defArgs st) (defBody st) (defScope st) dfl kws (He.ma K (He.ga K c) "__init__") fd ∧ ∃ g, KBn K fd ps n ks g gV
structure DfJ (P : Program) (w : World) (K : PySem.W.Frag) (mg : Str → Option Value) (base : Heap) (k : Nat) (c : Str) (ps : List Str) (n : Nat) (ks : List Str) (gV : List V → List V → List V) (sp : Sp) : Prop where
  mgx : mg c = some (.ref (He.ga K c))
  mkr : Mk K (He.ga K c) (He.ma K (He.ga K c) "__init__")
  ok : ∃ fd, FnOk P w K mg base (L2.CX P w) k (He.ma K (He.ga K c) "__init__") fd ps sp ∧ ∃ g, KBn K fd ps n ks g gV
theorem Bok.dj {P : Program} {w : World} {K : PySem.W.Frag} {mg : Str → Option Value} {base : Heap} {k n : Nat} {c q : Str} {ps ks : List Str} {gV : List V → List V → List V} {sp : Sp} {st : Stmt} (b : Bok P w K mg base k q st ps sp) (F : AtJ K mg c q st ps n ks gV) : DfJ P w K mg base k c ps n ks gV sp := by
  obtain ⟨fd, dfl, kws, F1, F2⟩ := F.ex
  exact ⟨F.mgx, F.mkr, fd, b F1, F2⟩
section
variable {X : Cx} {k n : Nat} {c : Str} {ps ks : List Str} {sp : Sp} {e : Expr} {es : List Expr} {kws : List Keyword} {t tk : TA} {p pos : Pos} {gV : List V → List V → List V}
theorem pe_dj {nk : Nat} (G : DfJ X.prog X.w X.K X.mg X.base k c ps (n + 1) ks gV sp) (hr : Room (k + 1) X.A) (hg : Gl X c) (ha : PA X (e :: es) t) (hkw : PK X kws tk) (hall : (backToKw pos (keywordEach kws X.env)).all (·.1.isSome) = true := by rfl) (hks : (backToKw pos (keywordEach kws X.env)).filterMap (·.1) = ks := by rfl)
    (hdb : (c == ("__debug__" : Str)) = false := by decide) (he : starEach (e :: es) X.env = (false, eval e X.env) :: starEach es X.env := by rfl)
    (hpl : ((backTo pos (starEach (e :: es) X.env)).any (·.1) || (backToKw pos (keywordEach kws X.env)).any (·.1.isNone)) = false := by rfl) (hnk : ks.length = nk := by rfl) :
    PE X (.Call (.Name c p) (e :: es) kws pos) (tMakeK (He.ga X.K c) n nk sp gV E0 t tk) := by
  subst hnk
  obtain ⟨fd, Fo, g, b⟩ := G.ok
  exact pe_makeK G.mkr Fo hr hg G.mgx b passL ha hkw hall hks hdb he hpl
theorem pe_dj0 {nk : Nat} (G : DfJ X.prog X.w X.K X.mg X.base k c ps 1 ks gV sp) (hr : Room (k + 1) X.A) (hg : Gl X c) (hkw : PK X kws tk) (hall : (backToKw pos (keywordEach kws X.env)).all (·.1.isSome) = true := by rfl) (hks : (backToKw pos (keywordEach kws X.env)).filterMap (·.1) = ks := by rfl)
    (hdb : (c == ("__debug__" : Str)) = false := by decide)
    (hpl : ((backTo pos (starEach [] X.env)).any (·.1) || (backToKw pos (keywordEach kws X.env)).any (·.1.isNone)) = false := by rfl) (hnk : ks.length = nk := by rfl) :
    PE X (.Call (.Name c p) [] kws pos) (tMakeK (He.ga X.K c) 0 nk sp gV E0 tNil tk) := by
  subst hnk
  obtain ⟨fd, Fo, g, b⟩ := G.ok
  exact pe_makeK0 G.mkr Fo hr hg G.mgx b passL hkw hall hks hdb hpl
theorem sx_makeK {C : Addr} {nk : Nat} {σ : L2.St} {H : Hp} {Q : VK} {E : XK} (h : t σ H fun vs H1 => tk σ H1 fun zs H2 => vs.length = n ∧ zs.length = nk ∧ ∀ x dx, H2 x = none → H2 dx = none → dx ≠ x →
  sp (gV (.ref x :: vs) zs) (upd (upd H2 dx (.own x)) x (.ins C dx [])) (fun v H3 => v = .non ∧ Q (.ref x) H3) E) : tMakeK C n nk sp gV E t tk σ H Q := h
end
/-! ### C(e, ..) that may raise -/
def tMakeW (C : Addr) (sp : Sp) (dvs : List V) (W : WX) (t : TA) : TE := fun σ H Q => t σ H fun vs H1 => ∀ x dx, H1 x = none → H1 dx = none → dx ≠ x → sp (.ref x :: (vs ++ dvs)) (upd (upd H1 dx (.own x)) x (.ins C dx [])) (fun v H2 => v = .non ∧ Q (.ref x) H2) (WE W σ)
section
variable {X : Cx} {W : WX} {k : Nat} {c : Str} {ps : List Str} {dvs : List V} {sp : Sp} {e : Expr} {es : List Expr} {t : TA} {p pos : Pos}
theorem pe_diW (G : DfI X.prog X.w X.K X.mg X.base k c ps dvs sp) (hr : Room (k + 1) X.A) (hg : Gl X c) (ha : PA X (e :: es) t) (wk : Takes X W) (hdb : (c == ("__debug__" : Str)) = false := by decide) (he : starEach (e :: es) X.env = (false, eval e X.env) :: starEach es X.env := by rfl) (hpl : (backTo pos (starEach es X.env)).any (·.1) = false := by rfl) :
    PE X (.Call (.Name c p) (e :: es) [] pos) (tMakeW (He.ga X.K c) sp dvs W t) := by
  obtain ⟨fd, F, ds, hd, hb⟩ := G.ok
  have M := G.mkr
  refine ⟨fun pins s σ H Q I h => ?_⟩
  refine wpAny_Call_Name_kw (ld_glob I hg G.mgx ?_ hdb)
  refine PySem.W.callWith_K (h₀ := X.base) I.ok.mod.kin M.kp (thn (ha.run pos pins s σ H _ I h) fun us s ⟨vs, H, I, r, h⟩ => ⟨I.kIn, ?_⟩) he hpl
  have hq := h (s.heap.objs.size + 1) s.heap.objs.size (I.hok.fresh (Nat.le_succ _)) (I.hok.fresh (Nat.le_refl _)) (Nat.ne_of_lt (Nat.lt_succ_self _))
  have I2 := Inv.made (C := He.ga X.K c) I
  have r2 : Vals (V.ref (s.heap.objs.size + 1) :: (vs ++ dvs)) (Value.ref (s.heap.objs.size + 1) :: (us ++ ds)) := .cons rfl (r.append hd)
  have hl : (Value.ref (s.heap.objs.size + 1) :: us ++ ds).length = ps.length := by
    have e := r2.length
    rw [F.len _ _ _ _ hq] at e
    exact e.symm
  refine wpAny_call (make_map (f := He.ma X.K (He.ga X.K c) "__init__") I.kIn M.makes M.init (beq_iff_eq.mp M.fn) (codeAny_mono (F.run _ X.stack _ _ ⟨Value.ref (s.heap.objs.size + 1) :: us, []⟩ (Value.ref (s.heap.objs.size + 1) :: (us ++ ds)) _ _ (WE W σ) (hr.make (He.ga X.K c) us [])
    (I2.env0.make (He.ga X.K c) us []) (hb _ (Value.ref (s.heap.objs.size + 1) :: us) I2.kIn hl) r2 hq) fun r s' hq' => ?_))
  cases r with
  | error e => exact wk e s' (XE.of_call I2 (fun _ _ _ h => h) hq')
  | ok fl =>
    cases fl with
    | ret u =>
      obtain ⟨v, H', I3, rv, ev, q3⟩ := I2.after hq'
      subst ev
      exact ⟨rv, ⟨V.ref (s.heap.objs.size + 1), H', I3, rfl, q3⟩⟩
    | next => exact False.elim hq'
    | brk => exact False.elim hq'
    | cont => exact False.elim hq'
theorem sx_makeW {C : Addr} {σ : L2.St} {H : Hp} {Q : VK} (h : t σ H fun vs H1 => ∀ x dx, H1 x = none → H1 dx = none → dx ≠ x → sp (.ref x :: (vs ++ dvs)) (upd (upd H1 dx (.own x)) x (.ins C dx [])) (fun v H2 => v = .non ∧ Q (.ref x) H2) (WE W σ)) : tMakeW C sp dvs W t σ H Q := h
end
/-! ### a + b, both of one own class -/
def sfB (c : Str) : PySem.W.Frag → Bool := fun K => PySem.W.selfFirst K (He.ga K c)
structure SfC (K : PySem.W.Frag) (c : Str) : Prop where
  ok : PySem.W.selfFirst K (He.ga K c) = true
theorem sfc_ok {K : PySem.W.Frag} {c : Str} (h : (FaX.any (sfB c)).ok K = true) : SfC K c := ⟨h⟩
end Nt
namespace PySem.W
open PySem PySem.Calls PyProof.Rows
section
variable {prog : Program} {w : World} {A : Around} {E : Value → Shared → Prop} {s : Shared} {K : Frag} {x b C f : Addr} {ox ox' : Obj} {od od' : Option Obj}
theorem ksp_binS {op : Operator} {Q : Value → Shared → Prop} (X : K.In s.heap) (I : InstAt s.heap x ox C od) (I' : InstAt s.heap b ox' C od') (hc : selfFirst K C = true)
    (hs : findIn K (.ref C) (PySem.dunder op.info.2) = some (some (.ref f))) (hf : isFn K (.ref f) = true)
    (h : wpAny (model prog w) A (call (.ref f) [.ref x, .ref b]) (CmpBack Q) E s) : wpAny (model prog w) A (binaryOp op (.ref x) (.ref b)) Q E s := by
  obtain ⟨cd, rest, hcd, hm⟩ := ksp_first hc
  rcases hi : op.info with ⟨sym, nm'⟩
  rw [hi] at hs
  dsimp only at hs
  have one := ksp_try X I hs hf h
  obtain ⟨hh, g, d, tt, os⟩ := s
  have L1 : Looks (model prog w) hh (typeOf (.ref x)) (.ref C) := I.type
  have L2 : Looks (model prog w) hh (typeOf (.ref b)) (.ref C) := I'.type
  have L3 : Looks (model prog w) hh (fillsNumberSlot (.ref C) nm') true := fills_K X hcd hm hs
  have hne : (Value.ref C == Value.ref C) = true := beq_self_eq_true _
  simp only [binaryOp, hi]
  refine wpAny_holding (wpAny_bind ?_)
  unfold binaryOp1
  refine wpAny_bind (L1.at (wpAny_bind (L2.at (wpAny_bind (L3.at ?_)))))
  simp only [hne, if_true]
  ksp_lk
  refine wpAny_mono one (fun r s' hr' => ?_) fun _ _ e => e
  obtain ⟨v, rfl, hq⟩ := hr'
  ksp_lk
  exact hq
theorem ne_K {Q : Value → Shared → Prop} (hu : A.units + 1 < cLine) (X : K.In s.heap) (I : InstAt s.heap x ox C od) (I' : InstAt s.heap b ox' C od') (hne : findIn K (.ref C) "__ne__" = some (some (.builtin "object.__ne__"))) (hob : subIn K (.ref C) (.type "object") = some true)
    (hs : findIn K (.ref C) "__eq__" = some (some (.ref f))) (hf : isFn K (.ref f) = true)
    (h : wpAny (model prog w) A.in1 (call (.ref f) [.ref x, .ref b]) (fun v s' => ∃ c, v = .bool c ∧ Q (.bool (!c)) s') E s) : wpAny (model prog w) A (richCompare .NotEq (.ref x) (.ref b)) Q E s := by
  have entry : wpAny (model prog w) A.in1 (Builtin.«object.__ne__» ⟨[.ref x, .ref b], []⟩) (fun v s' => ∃ c, v = .done (.ret (.bool (!c))) ∧ Q (.bool (!c)) s') E s := by
    unfold Builtin.«object.__ne__»
    repeat (first
      | with_reducible refine wpAny_cRoomFor hu ?_
      | (refine wpAny_bind (m := callSpecialIfBound? (.ref x) (Str.ofString "__eq__") [.ref b])
          (ifBound_K X I hs hf (wpAny_mono h (fun r s' hr => by
            obtain ⟨c, rfl, hq⟩ := hr
            repeat (first | exact ⟨_, rfl, hq⟩ | exact wpAny_pure ⟨_, rfl, hq⟩ | exact wpAny_truthy_bool ⟨_, rfl, hq⟩ | (refine wpAny_bind (m := truthy (.bool _)) (wpAny_truthy_bool ?_)) | wp_step)) fun _ _ e => e)))
      | wp_step)
  have check : ∀ {Q' : Unit → Shared → Prop}, Q' () s → wpAny (model prog w) A.in1 (checkBuiltinCall "object.__ne__" ⟨[.ref x, .ref b], []⟩) Q' E s := by
    intro Q' hq
    simp only [checkBuiltinCall, F.cmpKind_ne, F.cmpSplit_ne]
    have inst : ∀ {Q2 : Bool → Shared → Prop}, Q2 true s → wpAny (model prog w) A.in1 (isInstance (.ref x) (.type "object")) Q2 E s := by
      intro Q2 h2
      unfold isInstance
      exact wpAny_bind (I.type.here ((looks_subIn X hob).here h2))
    refine wpAny_bind (m := isInstance (.ref x) (.type "object")) (inst ?_)
    have ha := F.cmpArgs_ne (.ref x) (.ref b)
    cases hsig : Manifest.signature? "object.__ne__" with
    | none => exact wpAny_pure hq
    | some sig =>
      simp only [argsOk, hsig] at ha
      show wpAny _ _ (if (!true) = true then _ else Bind.checkArgs "object.__ne__" sig ⟨[.ref x, .ref b], []⟩) _ _ _
      rw [if_neg (by decide), ha]
      exact wpAny_pure hq
  have one : wpAny (model prog w) A (tryCompare (.ref x) "__ne__" (.ref b)) (fun r s' => ∃ c, r = some (.bool (!c)) ∧ Q (.bool (!c)) s') E s := by
    unfold tryCompare
    simp only [callSpecialIfBound?, bindSpecialIfBound?]
    refine wpAny_bind ?_
    refine wpAny_holding (wpAny_bind (wpAny_bind (wpAny_bind (I.type.here ((looks_findIn X hne).here ?_)))))
    simp only [F.cmp_object.ne.bind]
    refine wpAny_bind (wpAny_askSetting (wpAny_ite ?_))
    have fin : wpAny (model prog w) A (call (.builtin "object.__ne__") ([.ref x] ++ [.ref b])) (fun r s' => ∃ c, r = (.bool (!c)) ∧ Q (.bool (!c)) s') E s := by
      refine wpAny_call (codeAny_call_builtin F.cmp_object.ne.plain F.cmpEntry_ne (check (wpAny_mono entry (fun v s' hv => ?_) fun _ _ e => e)))
      obtain ⟨c, rfl, hq⟩ := hv
      exact ⟨c, rfl, hq⟩
    have fin2 : wpAny (model prog w) A (call (.builtin "object.__ne__") ([.ref x] ++ [.ref b]) >>= fun v => pure (some v)) (fun r s' => ∃ c, r = some (Value.bool (!c)) ∧ Q (.bool (!c)) s') E s := by
      refine wpAny_bind (wpAny_mono fin (fun v s' hv => ?_) fun _ _ e => e)
      obtain ⟨c, rfl, hq⟩ := hv
      exact wpAny_pure ⟨c, rfl, hq⟩
    split
    · refine wpAny_bind (wpAny_pure (wpAny_pure ?_))
      refine wpAny_mono fin2 (fun v s' hv => ?_) fun _ _ e => e
      obtain ⟨c, rfl, hq⟩ := hv
      exact wpAny_pure ⟨c, rfl, hq⟩
    · refine wpAny_tryCatch (wpAny_bind (wpAny_pure (wpAny_pure ?_)))
      refine wpAny_mono fin2 (fun v s' hv => ?_) fun _ _ e => e
      obtain ⟨c, rfl, hq⟩ := hv
      exact wpAny_pure ⟨c, rfl, hq⟩
  unfold richCompare
  simp only [oneThing_ref]
  refine wpAny_holding (wpAny_bind (wpAny_cRoomFor (Nat.lt_of_succ_lt hu) ?_))
  refine wpAny_bind (I.type.here (wpAny_bind (I'.type.here ?_)))
  rw [show (Value.ref C != Value.ref C) = false from by simp]
  simp only [Bool.false_eq_true, if_false]
  refine wpAny_bind (wpAny_pure ?_)
  simp only [Bool.false_eq_true, if_false]
  refine wpAny_bind (wpAny_mono one (fun v s' hv => ?_) fun _ _ e => e)
  obtain ⟨c, rfl, hq⟩ := hv
  exact wpAny_pure hq
end
end PySem.W
namespace Nt
open PySem PySem.Spec PyProof.Rows
open L2 hiding rLen
/-- a + b -/
def rAddO (C : Addr) (sp : Sp) : R2 := fun x y H Q => ∃ (a dx : Addr) (fs : List (Str × V)) (b dy : Addr) (gs : List (Str × V)), x = .ref a ∧ y = .ref b ∧ H a = some (.ins C dx fs) ∧ H b = some (.ins C dy gs) ∧ sp [x, y] H Q E0
def neB (c : Str) : PySem.W.Frag → Bool := fun K => PySem.W.findIn K (.ref (He.ga K c)) "__ne__" == some (some (.builtin "object.__ne__")) && PySem.W.subIn K (.ref (He.ga K c)) (.type "object") == some true
structure NeC (K : PySem.W.Frag) (c : Str) : Prop where
  ne : PySem.W.findIn K (.ref (He.ga K c)) "__ne__" = some (some (.builtin "object.__ne__"))
  ob : PySem.W.subIn K (.ref (He.ga K c)) (.type "object") = some true
theorem nec_ok {K : PySem.W.Frag} {c : Str} (h : (FaX.any (neB c)).ok K = true) : NeC K c := by
  have h' : neB c K = true := h
  unfold neB at h'
  rw [Bool.and_eq_true] at h'
  exact ⟨beq_iff_eq.mp h'.1, beq_iff_eq.mp h'.2⟩
/-- other kinds beside an own class -/
def otB (c : Str) : PySem.W.Frag → Bool := fun K => ["list", "NoneType", "tuple", "str", "int", "bool"].all fun T => PySem.W.kitOne K (.type T) (.ref (He.ga K c)) == some false && PySem.W.notFirst K (He.ga K c) (.type T)
structure OtC (K : PySem.W.Frag) (c : Str) : Prop where
  ok : ∀ T ∈ ["list", "NoneType", "tuple", "str", "int", "bool"], PySem.W.kitOne K (.type T) (.ref (He.ga K c)) = some false ∧ PySem.W.notFirst K (He.ga K c) (.type T) = true
theorem otc_ok {K : PySem.W.Frag} {c : Str} (h : (FaX.any (otB c)).ok K = true) : OtC K c := by
  have h' : otB c K = true := h
  unfold otB at h'
  rw [List.all_eq_true] at h'
  refine ⟨fun T hT => ?_⟩
  have := h' T hT
  rw [Bool.and_eq_true] at this
  exact ⟨beq_iff_eq.mp this.1, this.2⟩
/-- isinstance(x, C), x of another kind -/
theorem isi_Oth {K : PySem.W.Frag} {H : Hp} {x : V} {c : Str} {T : String} {Q : VK} (O : OtC K c) (hT : T ∈ ["list", "NoneType", "tuple", "str", "int", "bool"]) (ty : TyX K H x (.type T)) (q : Q (.bl false) H) : rIsi K [x, .ref (He.ga K c)] H Q :=
  ⟨_, _, .type T, .ref (He.ga K c), false, rfl, .own _, ty, (O.ok T hT).1, q⟩
def rEqV (K : PySem.W.Frag) (C : Addr) (sp : Sp) : R2 := fun x y H Q => ∃ (a dx : Addr) (fs : List (Str × V)) (T : String), x = .ref a ∧ H a = some (.ins C dx fs) ∧ T ∈ ["list", "NoneType", "tuple", "str", "int", "bool"] ∧ TyX K H y (.type T) ∧ sp [x, y] H Q E0
section
variable {X : Cx} {k : Nat} {c : Str} {ps : List Str} {sp : Sp}
theorem op_addS (G : DfM X.prog X.w X.K X.mg X.base k c "__add__" ps [] sp) (S : SfC X.K c) (hr : Room k X.A) : OpR X (binaryOp .Add) (rAddO (He.ga X.K c) sp) := by
  obtain ⟨fd, F, ds, hd, hb⟩ := G.ok
  cases hd
  intro pins s σ H x y v u Q I rx ry h
  obtain ⟨a, dx, fs, b, dy, gs, rfl, rfl, ea, eb, q⟩ := h
  obtain rfl : v = Value.ref a := rx
  obtain rfl : u = Value.ref b := ry
  obtain ⟨ox, od, J⟩ := ins_at I ea
  obtain ⟨ox', od', J'⟩ := ins_at I eb
  refine PySem.W.ksp_binS (op := .Add) I.kIn J J' S.ok G.meth.at_ G.meth.fn ?_
  refine wpAny_mono (run_own F hr I.env0 hb I (.cons (show RelV (.ref a) (.ref a) from rfl) (.cons (show RelV (.ref b) (.ref b) from rfl) .nil)) q (Q := fun u s' => ∃ v H', Inv X pins σ H' s' ∧ RelV v u ∧ Q v H') fun v u H' s' I' rv z => ⟨v, H', I', rv, z⟩) (fun w s' z => ?_) fun _ _ x => x
  obtain ⟨z', H', I', rz, qz⟩ := z
  exact SlX.cmpback rz ⟨z', H', I', rz, qz⟩
/-- a != b -/
def rNeO (C : Addr) (sp : Sp) : R2 := fun x y H Q => ∃ (a dx : Addr) (fs : List (Str × V)) (b dy : Addr) (gs : List (Str × V)), x = .ref a ∧ y = .ref b ∧ H a = some (.ins C dx fs) ∧ H b = some (.ins C dy gs) ∧ sp [x, y] H (fun v H' => ∃ z, v = .bl z ∧ Q (.bl (!z)) H') E0
theorem op_neO (G : DfM X.prog X.w X.K X.mg X.base k c "__eq__" ps [] sp) (N : NeC X.K c) (hr : Room (k + 1) X.A) : OpR X (compareOp .NotEq) (rNeO (He.ga X.K c) sp) := by
  obtain ⟨fd, F, ds, hd, hb⟩ := G.ok
  cases hd
  intro pins s σ H x y v u Q I rx ry h
  obtain ⟨a, dx, fs, b, dy, gs, rfl, rfl, ea, eb, q⟩ := h
  obtain rfl : v = Value.ref a := rx
  obtain rfl : u = Value.ref b := ry
  obtain ⟨ox, od, J⟩ := ins_at I ea
  obtain ⟨ox', od', J'⟩ := ins_at I eb
  show wpAny _ _ (richCompare .NotEq _ _) _ _ _
  refine PySem.W.ne_K (by have := hr.un; omega) I.kIn J J' N.ne N.ob G.meth.at_ G.meth.fn ?_
  refine run_own F hr.in1 I.env0.in1 hb I (.cons (show RelV (.ref a) (.ref a) from rfl) (.cons (show RelV (.ref b) (.ref b) from rfl) .nil)) q fun v u H' s' I' rv z => ?_
  obtain ⟨z, rfl, q⟩ := z
  obtain rfl : u = Value.bool z := rv
  exact ⟨z, rfl, .bl (!z), H', I', rfl, q⟩
/-- a == x, x of another kind -/
theorem op_eqV (G : DfM X.prog X.w X.K X.mg X.base k c "__eq__" ps [] sp) (O : OtC X.K c) (hr : Room k X.A) : OpR X (compareOp .Eq) (rEqV X.K (He.ga X.K c) sp) := by
  obtain ⟨fd, F, ds, hd, hb⟩ := G.ok
  cases hd
  intro pins s σ H x y v u Q I rx ry h
  obtain ⟨a, dx, fs, T, rfl, ea, hT, ty, q⟩ := h
  obtain rfl : v = Value.ref a := rx
  obtain ⟨ox, od, J⟩ := ins_at I ea
  obtain ⟨P, Z, p, hx⟩ := kit_of I ry ty
  obtain ⟨m, hF⟩ := I.fr
  show wpAny _ _ (richCompare .Eq _ _) _ _ _
  refine PySem.W.cmp_K (op := .Eq) (tb := .type T) hr.units0 hF I.ok.mod.kin J (Z.ty _ _ I.kIn p) (O.ok T hT).2 G.meth.at_ G.meth.fn ?_
  refine wpAny_mono (run_own F hr I.env0 hb I (.cons (show RelV (.ref a) (.ref a) from rfl) (.cons ry .nil)) q (Q := fun u s' => ∃ v H', Inv X pins σ H' s' ∧ RelV v u ∧ Q v H') fun v u H' s' I' rv z => ⟨v, H', I', rv, z⟩) (fun w s' z => ?_) fun _ _ x => x
  obtain ⟨z', H', I', rz, qz⟩ := z
  exact SlX.cmpback rz ⟨z', H', I', rz, qz⟩
/-- bool(o), o's class has neither `__bool__` nor `__len__` -/
def rBoolN (C : Addr) : List V → Hp → VK → Prop := fun xs H Q => ∃ (a dx : Addr) (fs : List (Str × V)), xs = [.ref a] ∧ H a = some (.ins C dx fs) ∧ Q (.bl true) H
theorem call_boolN {fl : List Str} (C : ClsF X.K c fl) (h1 : ("__bool__" : Str) ∈ fl) (h2 : ("__len__" : Str) ∈ fl) (hr : Room (k + 2) X.A) : CallR X (.type "bool") (rBoolN (He.ga X.K c)) := by
  intro pins s σ H xs us Q I r h
  obtain ⟨a, dx, fs, rfl, e, h⟩ := h
  obtain ⟨u, rfl, ru⟩ := vals1 r
  obtain rfl : u = Value.ref a := ru
  obtain ⟨ox, od, J⟩ := ins_at I e
  have key : wpAny (model X.prog X.w) X.A.in1.in1 (truthy (.ref a)) (fun b s' => EP X pins σ Q (.bool b) s') X.xe s := by
    unfold truthy
    have n1 : wpAny (model X.prog X.w) X.A.in1.in1 (callSpecial? (.ref a) (Str.ofString "__bool__")) (fun r s' => r = none ∧ s' = s) X.xe s := by
      unfold callSpecial? specialOf
      exact wpAny_bind (wpAny_bind (J.type.here ((PySem.W.looks_findIn I.kIn (C.na _ h1)).here (wpAny_pure ⟨rfl, rfl⟩))))
    have n2 : wpAny (model X.prog X.w) X.A.in1.in1 (specialOf (.ref a) (Str.ofString "__len__")) (fun r s' => r = none ∧ s' = s) X.xe s := by
      unfold specialOf
      exact wpAny_bind (J.type.here ((PySem.W.looks_findIn I.kIn (C.na _ h2)).here ⟨rfl, rfl⟩))
    first
      | refine wpAny_bind (m := callSpecial? (.ref a) (Str.ofString "__bool__")) (wpAny_mono n1 (fun r s' hr' => ?_) fun _ _ y => y)
      | (refine wpAny_bind (wpAny_pure ?_); refine wpAny_bind (m := callSpecial? (.ref a) (Str.ofString "__bool__")) (wpAny_mono n1 (fun r s' hr' => ?_) fun _ _ y => y))
    obtain ⟨rfl, rfl⟩ := hr'
    first
      | refine wpAny_bind (m := specialOf (.ref a) (Str.ofString "__len__")) (wpAny_mono n2 (fun r s' hr' => ?_) fun _ _ y => y)
      | (refine wpAny_bind (wpAny_pure ?_); refine wpAny_bind (m := specialOf (.ref a) (Str.ofString "__len__")) (wpAny_mono n2 (fun r s' hr' => ?_) fun _ _ y => y))
    obtain ⟨rfl, rfl⟩ := hr'
    exact wpAny_pure ⟨.bl true, H, I, rfl, h⟩
  refine callType_codes (T := "bool") (Bi := Builtin.«object.__init__») (Q₁ := fun r s₁ => ∃ b, r = Value.bool b ∧ EP X pins σ Q r s₁) F.called_bool (F.typeCall_bool_1 _) F.entry_object_init ?_ ?_
  · refine codeAny_of_tree ?_
    show wpAny _ X.A.in1.in1 (do checkBuiltinCall "bool.__new__" ⟨[.type "bool", .ref a], []⟩; again (.builtin "bool.__new__" ⟨[.type "bool", .ref a], []⟩)) _ _ s
    refine wpAny_bind (wpAny_of_eq (F.newCall_bool_1 _) (wpAny_pure ⟨plainId_quiet (by decide +kernel) _, codeAny_builtin F.entry_bool_new ?_⟩))
    rw [Around.under_plainId (by decide +kernel) _]
    have f1 := F.conv_sub_bool
    repeat (any_goals (first | assumption | (with_reducible refine wpAny_bind (wpAny_mono key (fun b s' hq => ?_) fun _ _ y => y)) | wp_step))
    all_goals first | exact ⟨_, rfl, hq⟩ | skip
  · rintro obj s₁ ⟨b, rfl, hq⟩
    exact ⟨PySem.typeIs_bool _ _, F.args_object_init_2 _ _, object_init_meets F.called_bool.init.lookup F.called_bool.made (by decide) X.prog X.w X.A.in1 _ s₁ ⟨PySem.typeIs_bool _ _, rfl, hq⟩⟩
end
/-- lists of unlike length -/
def rNeLen : R2 := fun x y H Q => ∃ (a b : Addr) (xs ys : List V), x = .ref a ∧ y = .ref b ∧ H a = some (.lst xs) ∧ H b = some (.lst ys) ∧ xs.length ≠ ys.length ∧ Q (.bl true) H
theorem op_neLen {X : Cx} (hu : X.A.units + 64 < cLine) : OpR X (compareOp .NotEq) rNeLen := by
  intro pins s σ H x y v u Q I rx ry h
  obtain ⟨a, b, xs, ys, rfl, rfl, ea, eb, hl, q⟩ := h
  obtain rfl : v = Value.ref a := rx
  obtain rfl : u = Value.ref b := ry
  obtain ⟨_, va, na, ra, ha⟩ := (show ObjOk X.prog X.w H s.heap a (.lst xs) from I.hok a _ ea)
  obtain ⟨_, vb, nb, rb, hb⟩ := (show ObjOk X.prog X.w H s.heap b (.lst ys) from I.hok b _ eb)
  show wpAny _ _ (richCompare .NotEq _ _) _ _ _
  refine SeqAt.RcNeAt.lists_lengths (items := va.toArray) (items2 := vb.toArray) ⟨_, ha, rfl, _, rfl⟩ ⟨_, hb, rfl, _, rfl⟩ ?_ (by omega) _ _ _ _ ⟨.bl true, H, I, rfl, q⟩
  have h1 := ra.length
  have h2 := rb.length
  simp
  omega
def rNeL (K : PySem.W.Frag) : R2 := fun x y H Q => rNeU K x y H Q ∨ rNeLen x y H Q
theorem op_neL {X : Cx} (hu : X.A.units + 64 < cLine) : OpR X (compareOp .NotEq) (rNeL X.K) := (op_neU hu).or (op_neLen hu)
end Nt

/-! own * value, value * own; x.bit_length() -/
namespace PySem.W
open PySem PySem.Calls PyProof.Rows
section
variable {prog : Program} {w : World} {A : Around} {E : Value → Shared → Prop} {s : Shared} {K : Frag} {x C f f0 : Addr} {ox : Obj} {od : Option Obj} {T nm : String}
/-- own op value, the value's type built in -/
theorem ksp_binL {op : Operator} {b : Value} {fo ro rc : Option Value} {Q : Value → Shared → Prop} (X : K.In s.heap) (I : InstAt s.heap x ox C od) (hb : Looks (model prog w) s.heap (typeOf b) (.type T)) (hc : selfFirst K C = true)
    (hs : findIn K (.ref C) (PySem.dunder op.info.2) = some (some (.ref f))) (hf : isFn K (.ref f) = true) (hr : findIn K (.ref C) (dunderR op.info.2) = some rc) (hp : rc = none ∨ ∃ g : Addr, rc = some (.ref g))
    (h1 : findIn K (.type T) (PySem.dunder op.info.2) = some fo) (h2 : findIn K (.type T) (dunderR op.info.2) = some ro) (hsub : subIn K (.type T) (.ref C) = some false)
    (h : wpAny (model prog w) A (call (.ref f) [.ref x, b]) (CmpBack Q) E s) : wpAny (model prog w) A (binaryOp op (.ref x) b) Q E s := by
  obtain ⟨cd, rest, hcd, hm⟩ := ksp_first hc
  rcases hi : op.info with ⟨sym, nm'⟩
  rw [hi] at hs hr h1 h2
  dsimp only at hs hr h1 h2
  have one := ksp_try X I hs hf h
  obtain ⟨hh, g, d, tt, os⟩ := s
  have L1 : Looks (model prog w) hh (typeOf (.ref x)) (.ref C) := I.type
  have L2 : Looks (model prog w) hh (typeOf b) (.type T) := hb
  have L3 : Looks (model prog w) hh (fillsNumberSlot (.ref C) nm') true := fills_K X hcd hm hs
  have L4 : Looks (model prog w) hh (fillsNumberSlot (.type T) nm') ((fo.isSome && !isSeqSlot fo) || (ro.isSome && !isSeqSlot ro)) := ksp_fillsT X h1 h2
  have L5 : Looks (model prog w) hh (isSubtype (.type T) (.ref C)) false := looks_subIn X hsub
  have L6 : Looks (model prog w) hh (numberSlotInPython (.ref C) nm') true := ksp_inPy X hs hr hp
  have L7 : Looks (model prog w) hh (numberSlotInPython (.type T) nm') false := Looks.of_pure rfl
  have L8 : Looks (model prog w) hh (typeLookup (.type T) (dunderR nm')) ro := looks_findIn X h2
  generalize ((fo.isSome && !isSeqSlot fo) || (ro.isSome && !isSeqSlot ro)) = right at L4
  have hne : (Value.ref C == Value.type T) = false := Bool.eq_false_iff.mpr fun q => by cases beq_iff_eq.mp q
  simp only [binaryOp, hi]
  refine wpAny_holding (wpAny_bind ?_)
  unfold binaryOp1
  refine wpAny_bind (L1.at (wpAny_bind (L2.at (wpAny_bind (L3.at ?_)))))
  simp only [hne, Bool.false_eq_true, if_false]
  cases right with
  | false =>
    ksp_lk
    refine wpAny_mono one (fun r s' hr' => ?_) fun _ _ e => e
    obtain ⟨v, rfl, hq⟩ := hr'
    ksp_lk
    exact hq
  | true =>
    ksp_lk
    refine wpAny_mono one (fun r s' hr' => ?_) fun _ _ e => e
    obtain ⟨v, rfl, hq⟩ := hr'
    ksp_lk
    exact hq
/-- value * own: the value declines -/
theorem ksp_rmulL {v : Value} {fo ro : Option Value} {Q : Value → Shared → Prop} (X : K.In s.heap) (I : InstAt s.heap x ox C od) (hb : Looks (model prog w) s.heap (typeOf v) (.type T)) (hc : selfFirst K C = true)
    (hs : findIn K (.ref C) "__mul__" = some (some (.ref f0))) (hr : findIn K (.ref C) "__rmul__" = some (some (.ref f))) (hf : isFn K (.ref f) = true)
    (h1 : findIn K (.type T) "__mul__" = some fo) (h2 : findIn K (.type T) "__rmul__" = some ro) (hsub : subIn K (.ref C) (.type T) = some false)
    (hd : wpAny (model prog w) A (tryMethod v "__mul__" (.ref x)) (fun r s' => r = none ∧ s' = s) E s)
    (h : wpAny (model prog w) A (call (.ref f) [.ref x, v]) (CmpBack Q) E s) : wpAny (model prog w) A (binaryOp .Mult v (.ref x)) Q E s := by
  obtain ⟨cd, rest, hcd, hm⟩ := ksp_first hc
  have one := ksp_try X I hr hf h
  obtain ⟨hh, g, d, tt, os⟩ := s
  have L1 : Looks (model prog w) hh (typeOf (.ref x)) (.ref C) := I.type
  have L2 : Looks (model prog w) hh (typeOf v) (.type T) := hb
  have L3 : Looks (model prog w) hh (fillsNumberSlot (.ref C) "mul") true := fills_K X hcd hm hs
  have L4 : Looks (model prog w) hh (fillsNumberSlot (.type T) "mul") ((fo.isSome && !isSeqSlot fo) || (ro.isSome && !isSeqSlot ro)) := ksp_fillsT X h1 h2
  have L5 : Looks (model prog w) hh (isSubtype (.ref C) (.type T)) false := looks_subIn X hsub
  have L7 : Looks (model prog w) hh (numberSlotInPython (.type T) "mul") false := Looks.of_pure rfl
  generalize ((fo.isSome && !isSeqSlot fo) || (ro.isSome && !isSeqSlot ro)) = left at L4
  have hne : (Value.type T == Value.ref C) = false := Bool.eq_false_iff.mpr fun q => by cases beq_iff_eq.mp q
  have hi : Operator.Mult.info = ("*", "mul") := rfl
  simp only [binaryOp, hi]
  refine wpAny_holding (wpAny_bind ?_)
  unfold binaryOp1
  refine wpAny_bind (L2.at (wpAny_bind (L1.at (wpAny_bind (L4.at ?_)))))
  simp only [hne, Bool.false_eq_true, if_false]
  cases left with
  | false =>
    ksp_lk
    refine wpAny_mono one (fun r s' hr' => ?_) fun _ _ e => e
    obtain ⟨v, rfl, hq⟩ := hr'
    ksp_lk
    exact hq
  | true =>
    ksp_lk
    refine wpAny_mono hd (fun r s' hr' => ?_) fun _ _ e => e
    obtain ⟨rfl, rfl⟩ := hr'
    ksp_lk
    refine wpAny_mono one (fun r s' hr' => ?_) fun _ _ e => e
    obtain ⟨v, rfl, hq⟩ := hr'
    ksp_lk
    exact hq
end
end PySem.W
namespace Nt
open PySem PySem.Spec PyProof.Rows
open L2 hiding rLen
theorem int_mul_ins (a : Int) (t : Tok) (l C dx : Addr) : Meets (Builtin.«int.__mul__» ⟨[.int a t, .ref l], []⟩) (fun _ R s => s.heap.get? l = some (PySem.W.instObj C dx) ∧ R (.ok (.ret Value.notImplemented)) s) :=
  .of_wp fun prog w A R s h => by unfold PySem.W.instObj at h; obtain ⟨hp, g, d, tk, os⟩ := s; obtain ⟨hl, h⟩ := h; wp_walk; exact ⟨_, rfl, h⟩
theorem bool_mul_ins (a : Bool) (l C dx : Addr) : Meets (Builtin.«int.__mul__» ⟨[.bool a, .ref l], []⟩) (fun _ R s => s.heap.get? l = some (PySem.W.instObj C dx) ∧ R (.ok (.ret Value.notImplemented)) s) :=
  .of_wp fun prog w A R s h => by unfold PySem.W.instObj at h; obtain ⟨hp, g, d, tk, os⟩ := s; obtain ⟨hl, h⟩ := h; wp_walk; exact ⟨_, rfl, h⟩
section
variable {prog : Program} {w : World} {A : Around} {E : Value → Shared → Prop} {s : Shared} {l C dx : Addr}
theorem int_decl (a : Int) (t : Tok) (h : s.heap.get? l = some (PySem.W.instObj C dx)) : wpAny (model prog w) A (tryMethod (.int a t) "__mul__" (.ref l)) (fun r s' => r = none ∧ s' = s) E s :=
  wpAny_tryMethod_declines (typeIs_int s a t) F.slot_int_mul (call_meets F.slot_int_mul (typeIs_int s a t) F.entry_int_mul (F.args_int_mul_2 _ _) (int_mul_ins a t l C dx) ⟨h, rfl, rfl, rfl⟩)
theorem slot_bool_mul : Slot "bool" "__mul__" "int.__mul__" := .of (owner := "int") (n := "__mul__") (by rw [typeLookup_type, builtinLookup_eq_fast]; kernel_rfl) (by decide +kernel) (by decide +kernel) (by decide +kernel)
    (by first | exact .inl (by decide +kernel) | exact .inr (by decide +kernel)) (by rw [isSubtype_type]; kernel_rfl)
theorem bool_decl (a : Bool) (h : s.heap.get? l = some (PySem.W.instObj C dx)) : wpAny (model prog w) A (tryMethod (.bool a) "__mul__" (.ref l)) (fun r s' => r = none ∧ s' = s) E s :=
  wpAny_tryMethod_declines (PySem.typeIs_bool s a) slot_bool_mul (call_meets slot_bool_mul (PySem.typeIs_bool s a) F.entry_int_mul (F.args_int_mul_2 _ _) (bool_mul_ins a l C dx) ⟨h, rfl, rfl, rfl⟩)
theorem none_decl {x : Value} : wpAny (model prog w) A (tryMethod .none "__mul__" x) (fun r s' => r = none ∧ s' = s) E s := by
  have e : typeLookup (.type "NoneType") "__mul__" = pure none := by rw [typeLookup_type, builtinLookup_eq_fast]; kernel_rfl
  have n1 : wpAny (model prog w) A (callSpecial? .none (Str.ofString "__mul__") [x]) (fun r s' => r = none ∧ s' = s) E s := by
    unfold callSpecial? specialOf
    refine wpAny_bind (wpAny_bind (wpAny_pure ?_))
    show wpAny _ _ (typeLookup (.type "NoneType") "__mul__") _ _ _
    rw [e]
    exact wpAny_pure (wpAny_pure ⟨rfl, rfl⟩)
  unfold tryMethod
  refine wpAny_bind (wpAny_mono n1 (fun r s' hr => ?_) fun _ _ y => y)
  obtain ⟨rfl, rfl⟩ := hr
  exact wpAny_pure ⟨rfl, rfl⟩
end
def mulTys : List String := ["int", "bool", "NoneType", "str", "list", "tuple", "dict"]
def muB (c : Str) : PySem.W.Frag → Bool := fun K => (PySem.W.selfFirst K (He.ga K c) && ((PySem.W.findIn K (.ref (He.ga K c)) "__mul__" == some (some (.ref (He.ma K (He.ga K c) "__mul__")))) && (PySem.W.findIn K (.ref (He.ga K c)) "__rmul__" == some (some (.ref (He.ma K (He.ga K c) "__rmul__")))))) && mulTys.all fun T => (PySem.W.findIn K (.type T) "__mul__").isSome && ((PySem.W.findIn K (.type T) "__rmul__").isSome && (PySem.W.subIn K (.type T) (.ref (He.ga K c)) == some false && PySem.W.subIn K (.ref (He.ga K c)) (.type T) == some false))
structure MuC (K : PySem.W.Frag) (c : Str) : Prop where
  sf : PySem.W.selfFirst K (He.ga K c) = true
  am : PySem.W.findIn K (.ref (He.ga K c)) "__mul__" = some (some (.ref (He.ma K (He.ga K c) "__mul__")))
  ar : PySem.W.findIn K (.ref (He.ga K c)) "__rmul__" = some (some (.ref (He.ma K (He.ga K c) "__rmul__")))
  ty : ∀ T ∈ mulTys, (∃ fo, PySem.W.findIn K (.type T) "__mul__" = some fo) ∧ (∃ ro, PySem.W.findIn K (.type T) "__rmul__" = some ro) ∧ PySem.W.subIn K (.type T) (.ref (He.ga K c)) = some false ∧ PySem.W.subIn K (.ref (He.ga K c)) (.type T) = some false
theorem muc_ok {K : PySem.W.Frag} {c : Str} (h : (FaX.any (muB c)).ok K = true) : MuC K c := by
  have h' : muB c K = true := h
  unfold muB at h'
  rw [Bool.and_eq_true, List.all_eq_true] at h'
  have h1 := h'.1
  rw [Bool.and_eq_true, Bool.and_eq_true] at h1
  refine ⟨h1.1, beq_iff_eq.mp h1.2.1, beq_iff_eq.mp h1.2.2, fun T hT => ?_⟩
  have := h'.2 T hT
  rw [Bool.and_eq_true, Bool.and_eq_true, Bool.and_eq_true] at this
  exact ⟨Option.isSome_iff_exists.mp this.1, Option.isSome_iff_exists.mp this.2.1, beq_iff_eq.mp this.2.2.1, beq_iff_eq.mp this.2.2.2⟩
def tMulV (K : PySem.W.Frag) (C : Addr) (sp : Sp) (W : WX) (ta tb : TE) : TE := fun σ H Q => ta σ H fun x H1 => tb σ H1 fun y H2 => ∃ (a dx : Addr) (fs : List (Str × V)) (T : String), x = .ref a ∧ H2 a = some (.ins C dx fs) ∧ T ∈ mulTys ∧ TyX K H2 y (.type T) ∧ sp [x, y] H2 Q (WE W σ)
def tRMulV (K : PySem.W.Frag) (C : Addr) (sp : Sp) (W : WX) (ta tb : TE) : TE := fun σ H Q => ta σ H fun x H1 => tb σ H1 fun y H2 => ∃ (a dx : Addr) (fs : List (Str × V)), y = .ref a ∧ H2 a = some (.ins C dx fs) ∧ ((∃ i, x = .int i) ∨ (∃ b, x = .bl b) ∨ x = .non) ∧ sp [y, x] H2 Q (WE W σ)
section
variable {X : Cx} {W : WX} {k : Nat} {c : Str} {ps : List Str} {sp sp0 : Sp} {a b : Expr} {ta tb : TE} {pos : Pos} {ps0 : List Str} {k0 : Nat}
theorem run_W2 {pins : List (Addr × Obj)} {σ : L2.St} {H : Hp} {s : Shared} {Q : VK} {f : Addr} {fd : FuncData} {u1 u2 : Value} {v1 v2 : V} (F : FnOk X.prog X.w X.K X.mg X.base (L2.CX X.prog X.w) k f fd ps sp) (hr : Room k X.A) (hb : Binds X.K fd ps []) (wk : Takes X W) (I : Inv X pins σ H s) (r1 : RelV v1 u1) (r2 : RelV v2 u2) (h : sp [v1, v2] H Q (WE W σ)) :
    wpAny (model X.prog X.w) X.A (PySem.call (.ref f) [u1, u2]) (PySem.W.CmpBack (EP X pins σ Q)) X.xe s := by
  have r3 : Vals [v1, v2] [u1, u2] := .cons r1 (.cons r2 .nil)
  have hl : [u1, u2].length = ps.length := by
    have := r3.length
    rw [F.len _ _ _ _ h] at this
    exact this.symm
  have b := hb s [u1, u2] I.kIn (by rw [List.append_nil]; exact hl)
  rw [List.append_nil] at b
  refine wpAny_mono (run_W (args := ⟨[u1, u2], []⟩) (Q := fun u s' => ∃ v H', Inv X pins σ H' s' ∧ RelV v u ∧ Q v H') F hr I.env0 wk I b r3 h fun v u H' s' I' rv z => ⟨v, H', I', rv, z⟩) (fun w s' z => ?_) fun _ _ x => x
  obtain ⟨z', H', I', rz, qz⟩ := z
  exact SlX.cmpback rz ⟨z', H', I', rz, qz⟩
/-- own * value -/
theorem pe_mulV (G : DfM X.prog X.w X.K X.mg X.base k c "__mul__" ps [] sp) (U : MuC X.K c) (hr : Room k X.A) (ha : PE X a ta) (hb : PE X b tb) (wk : Takes X W) : PE X (.BinOp a .Mult b pos) (tMulV X.K (He.ga X.K c) sp W ta tb) := by
  obtain ⟨fd, F, ds, hd, hbd⟩ := G.ok
  cases hd
  refine ⟨fun pins s σ H Q I h => ?_⟩
  refine wpAny_BinOp (binT ha hb I h fun v u s2 x y H2 I2 rx ry q => ?_)
  obtain ⟨a, dx, fs, T, rfl, ea, hT, ty, q⟩ := q
  obtain rfl : v = Value.ref a := rx
  obtain ⟨ox, od, J⟩ := ins_at I2 ea
  obtain ⟨P, Z, p, hx⟩ := kit_of I2 ry ty
  obtain ⟨⟨fo, h1⟩, ⟨ro, h2⟩, h3, _⟩ := U.ty T hT
  exact PySem.W.ksp_binL (op := .Mult) (rc := some (.ref (He.ma X.K (He.ga X.K c) "__rmul__"))) I2.kIn J (Z.ty _ _ I2.kIn p) U.sf G.meth.at_ G.meth.fn U.ar (.inr ⟨_, rfl⟩) h1 h2 h3 (run_W2 F hr hbd wk I2 (show RelV (.ref a) (.ref a) from rfl) ry q)
/-- value * own -/
theorem pe_rmulV (G : DfM X.prog X.w X.K X.mg X.base k c "__rmul__" ps [] sp) (U : MuC X.K c) (hr : Room k X.A) (ha : PE X a ta) (hb : PE X b tb) (wk : Takes X W) : PE X (.BinOp a .Mult b pos) (tRMulV X.K (He.ga X.K c) sp W ta tb) := by
  obtain ⟨fd, F, ds, hd, hbd⟩ := G.ok
  cases hd
  refine ⟨fun pins s σ H Q I h => ?_⟩
  refine wpAny_BinOp (binT ha hb I h fun v u s2 x y H2 I2 rx ry q => ?_)
  obtain ⟨a, dx, fs, rfl, ea, hx, q⟩ := q
  obtain rfl : u = Value.ref a := ry
  obtain ⟨ox, od, J⟩ := ins_at I2 ea
  obtain ⟨_, _, _, hg, _⟩ := (show ObjOk X.prog X.w H2 s2.heap a (.ins (He.ga X.K c) dx fs) from I2.hok a _ ea)
  have fin := run_W2 F hr hbd wk I2 (show RelV (.ref a) (.ref a) from rfl) rx q
  rcases hx with ⟨i, rfl⟩ | ⟨b, rfl⟩ | rfl
  · obtain ⟨t, rfl⟩ := (show ∃ t, v = Value.int i t from rx)
    obtain ⟨⟨fo, h1⟩, ⟨ro, h2⟩, _, h4⟩ := U.ty "int" (by decide)
    exact PySem.W.ksp_rmulL I2.kIn J (PySem.W.Looks.of_pure rfl) U.sf U.am G.meth.at_ G.meth.fn h1 h2 h4 (int_decl i t hg) fin
  · obtain rfl : v = Value.bool b := rx
    obtain ⟨⟨fo, h1⟩, ⟨ro, h2⟩, _, h4⟩ := U.ty "bool" (by decide)
    exact PySem.W.ksp_rmulL I2.kIn J (PySem.W.Looks.of_pure rfl) U.sf U.am G.meth.at_ G.meth.fn h1 h2 h4 (bool_decl b hg) fin
  · obtain rfl : v = Value.none := rx
    obtain ⟨⟨fo, h1⟩, ⟨ro, h2⟩, _, h4⟩ := U.ty "NoneType" (by decide)
    exact PySem.W.ksp_rmulL I2.kIn J (PySem.W.Looks.of_pure rfl) U.sf U.am G.meth.at_ G.meth.fn h1 h2 h4 none_decl fin
theorem sx_mulV {σ : L2.St} {H : Hp} {Q : VK} {K : PySem.W.Frag} {C : Addr} (h : ta σ H fun x H1 => tb σ H1 fun y H2 => ∃ (a dx : Addr) (fs : List (Str × V)) (T : String), x = .ref a ∧ H2 a = some (.ins C dx fs) ∧ T ∈ mulTys ∧ TyX K H2 y (.type T) ∧ sp [x, y] H2 Q (WE W σ)) : tMulV K C sp W ta tb σ H Q := h
theorem sx_rmulV {σ : L2.St} {H : Hp} {Q : VK} {K : PySem.W.Frag} {C : Addr} (h : ta σ H fun x H1 => tb σ H1 fun y H2 => ∃ (a dx : Addr) (fs : List (Str × V)), y = .ref a ∧ H2 a = some (.ins C dx fs) ∧ ((∃ i, x = .int i) ∨ (∃ b, x = .bl b) ∨ x = .non) ∧ sp [y, x] H2 Q (WE W σ)) : tRMulV K C sp W ta tb σ H Q := h
theorem sx_bits {to : TE} {σ : L2.St} {H : Hp} {Q : VK} (h : to σ H fun x H1 => ∃ i, x = .int i ∧ Q (.int (Builtin.Int.intBits i : Nat)) H1) : tBits to σ H Q := h
end
end Nt

/-! sorted(pairs of a number and a text, reverse=True) -/
namespace Nt
open PySem PySem.Spec PyProof.Rows L2
section
open PySem.W
abbrev eR (p : Nat × List Nat) : D := .tup [.int (p.1 : Nat), .str (T p.2)]
abbrev dR (p : Nat × List Nat) : PyData := PyData.tuple [.int (p.1 : Nat), .str (T p.2)]
def lePR : Nat × List Nat → Nat × List Nat → Bool := PySem.W.dataLe true dR
def rSortPR (K : PySem.W.Frag) : List V → List V → Hp → VK → Prop := fun vs zs H Q => ∃ (M : Addr → Prop) (I : Hp → Prop) (x : V) (L : List (Nat × List Nat)), Wf M I ∧ I H ∧ vs = [x] ∧ zs = [.bl true] ∧ Rep K M H x (.lst (L.map eR)) ∧ L.length ≤ 1000 ∧ (∀ p ∈ L, ∀ c ∈ p.2, c < 128) ∧
  ∀ y H', Ex M H H' → I H' → Rep K M H' y (.lst ((L.mergeSort lePR).map eR)) → Q y H'
theorem cr_sortPR {X : Cx} (hu : X.A.units + 65 < cLine) : CallRK X (.builtin "sorted") [Str.ofString "reverse"] (rSortPR X.K) := by
  intro pins s σ H vs zs us ws Q I r rz h
  obtain ⟨M, J, x, L, hw, hJ, rfl, rfl, hx, few, hc, q⟩ := h
  obtain ⟨w1, rfl, e1⟩ := vals1 rz
  obtain rfl : w1 = Value.bool true := e1
  cases hx with
  | @lst a xs _ ha na rs =>
    obtain ⟨its, rv, hl, _⟩ := I.list (SqL.of ha)
    rw [Vals.ref1 r]
    let R : Value → Nat × List Nat → Prop := fun v p => (∃ x : V, RelV x v ∧ Rep X.K M H x (eR p)) ∧ p ∈ L
    have each : EachIs R its L ∧ EachIs (fun v p => ∃ as, Reads s.heap v (dR p) as) its L := by
      have key : ∀ {L0 : List (Nat × List Nat)} {xs : List V} {its : List Value}, (∀ l ∈ L0, l ∈ L) → Vals xs its → Reps X.K M H xs (L0.map eR) → EachIs R its L0 ∧ EachIs (fun v p => ∃ as, Reads s.heap v (dR p) as) its L0 := by
        intro L0
        induction L0 with
        | nil =>
          intro xs its _ rv rs
          cases rs
          cases rv
          exact ⟨.nil, .nil⟩
        | cons l L0 ih =>
          intro xs its hin rv rs
          cases rs with
          | cons r1 r2 =>
            cases rv with
            | cons v1 v2 =>
              obtain ⟨i1, i2⟩ := ih (fun l hl => hin l (List.mem_cons_of_mem _ hl)) v2 r2
              have hl := hin l List.mem_cons_self
              have ok : eqOk 1 (eR l) = true := by simp only [eqOk, eqAll, ok_T (hc l hl), Bool.and_self]
              obtain ⟨as, ra⟩ := Dp.reads I _ _ _ (dp_D r1 ok).1 v1
              exact ⟨.cons ⟨⟨_, v1, r1⟩, hl⟩ i1, .cons ⟨as, ra⟩ i2⟩
      exact key (fun _ h => h) rv rs
    refine sorted_rev_data (enc := dR) hl.isList each.1 each.2 (AllAlike.of fun _ _ => by simp [alike, alikeAll]) (Sortable.tuples fun _ => ⟨_, _, rfl⟩) (by rw [sizeLine_eq]; omega) (fun l _ => ?_) fun out ho eo => ?_
    · have e : (dR l).depth = 1 := by simp [PyData.depth, PyData.depthAll]
      omega
    · have back : ∃ ys, Vals ys out ∧ Reps X.K M H ys ((L.mergeSort lePR).map eR) := by
        have key : ∀ {Z : List (Nat × List Nat)} {out : List Value}, EachIs R out Z → ∃ ys, Vals ys out ∧ Reps X.K M H ys (Z.map eR) := by
          intro Z out h
          induction h with
          | nil => exact ⟨[], .nil, .nil⟩
          | cons h _ ih =>
            obtain ⟨ys, h1, h2⟩ := ih
            obtain ⟨⟨y, h3, h4⟩, _⟩ := h
            exact ⟨y :: ys, .cons h3 h1, .cons h4 h2⟩
        exact key eo
      obtain ⟨ys, v1, r1⟩ := back
      have hlen : ys.length ≤ sizeLine := by rw [r1.length, List.length_map, List.length_mergeSort, sizeLine_eq]; omega
      obtain ⟨ep, he'⟩ := PyProof.Rows.sortedAll_at s.heap its (List.toArray out)
      have hp : H (s.heap.objs.size + 1) = none := I.hok.fresh (Nat.le_succ _)
      have sm := same_upd (o := .lst ys) hp
      exact ⟨.ref _, upd H (s.heap.objs.size + 1) (.lst ys), I.laid (t' := s.toks) (fun _ _ => PyProof.Rows.sortedAll_old) (Nat.le_succ _) ⟨hlen, out, ep, v1, he'⟩, rfl, q _ _ (Ex.of sm) (hw.same sm hJ) (.lst upd_same (hw.fresh hJ hp) (r1.same sm))⟩
theorem lePR_ne {a b : Nat × List Nat} (h : a.1 ≠ b.1) : lePR a b = decide (b.1 < a.1) := by
  show (!PySem.W.dataLt (dR a) (dR b)) = _
  rw [PySem.W.dataLt_pair (by simp [PySem.W.alike]) (by simp [PySem.W.alike]), PySem.W.dataLt_int, PySem.W.dataLt_str]
  simp only [PyData.eqv, beq_iff_eq]
  rw [if_neg (by omega), Bool.eq_iff_iff]
  simp
  omega
theorem sort_desc {L M : List (Nat × List Nat)} (hp : L.Perm M) (hM : M.Pairwise fun a b => b.1 < a.1) : L.mergeSort lePR = M := by
  have hd : ∀ {A : List (Nat × List Nat)}, A.Pairwise (fun a b => lePR a b = true) → A.Perm M → A.Pairwise fun a b => b.1 < a.1 := fun {A} h1 h2 => by
    have n1 : (A.map (·.1)).Nodup := (h2.map (·.1)).nodup_iff.mpr (by
      rw [List.Nodup, List.pairwise_map]
      exact hM.imp fun h => by omega)
    rw [List.Nodup, List.pairwise_map] at n1
    exact (h1.and n1).imp fun ⟨h3, h4⟩ => by
      rw [lePR_ne h4] at h3
      exact of_decide_eq_true h3
  have hs : (L.mergeSort lePR).Pairwise fun a b => lePR a b = true := PySem.W.sort_pairwise (sortLe_total (listOrd itemOrd) true fun b => keyToks (dR b)) L
  have hp2 : (L.mergeSort lePR).Perm M := (List.mergeSort_perm L lePR).trans hp
  exact List.Perm.eq_of_pairwise (fun a b _ _ h1 h2 => by omega) (hd hs hp2) hM hp2
end
end Nt

/-! list(d.keys()), list(d.values()), list(d.items()) -/
namespace Nt
open PySem PySem.Spec PyProof.Rows L2
def rKeysL : V → Hp → VK → Prop := fun x H Q => ∃ d kvs, x = .ref d ∧ H d = some (.dK kvs) ∧ ∀ q, H q = none → Q (.ref q) (upd H q (.lst (kvs.map fun kv => kV kv.1)))
def rValsL : V → Hp → VK → Prop := fun x H Q => ∃ d kvs, x = .ref d ∧ H d = some (.dK kvs) ∧ ∀ q, H q = none → Q (.ref q) (upd H q (.lst (kvs.map fun kv => kv.2)))
def tListKeys (te : TE) : TE := fun σ H Q => te σ H fun x H1 => rKeysL x H1 Q
def tListVals (te : TE) : TE := fun σ H Q => te σ H fun x H1 => rValsL x H1 Q
section
variable {X : Cx} {e : Expr} {te : TE} {p apos cpos pos : Pos}
theorem keys_laid {pins : List (Addr × Obj)} {σ : L2.St} {H : Hp} {s : Shared} {kvs : List (Key × V)} {vs : List (Key × Value)} {h' : Heap} {tk S : Nat} {acc' : Array Value} {c' : Nat} {Q : VK} (I : Inv X pins σ H s) (z : kvs.length ≤ sizeLine) (rk : KV kvs vs)
    (hkeep : ∀ b o, s.heap.get? b = some o → h'.get? b = some o) (hSz : s.heap.objs.size ≤ S) (hS : h'.get? S = some { cls := .type "list", dict := none, data := .seq acc' c', slots := #[] }) (hsz : acc'.size = vs.length) (hacc : ∀ (i : Nat) (v : Value), acc'[i]? = some v → ∃ k x, vs[i]? = some (k, x) ∧ (mixKind X.prog X.w).is k v = true)
    (q : ∀ q, H q = none → Q (.ref q) (upd H q (.lst (kvs.map fun kv => kV kv.1)))) : EP X pins σ Q (.ref S) { s with heap := h', toks := tk } := by
  have hl : kvs.length = vs.length := Paired.length rk
  refine ⟨.ref S, upd H S (.lst (kvs.map fun kv => kV kv.1)), I.laid hkeep hSz (show ObjOk X.prog X.w _ _ _ (.lst (kvs.map fun kv => kV kv.1)) from ⟨?_, acc'.toList, c', ?_, ?_⟩), rfl, q _ (I.hok.fresh hSz)⟩
  · rw [List.length_map]; exact z
  · have el : acc'.toList.length = acc'.size := by simp
    refine vals_of_at (by rw [List.length_map, el, hsz, hl]) fun j x w h1 h2 => ?_
    obtain ⟨k, y, hky, hi⟩ := hacc j w (by rw [← Array.getElem?_toList]; exact h2)
    have e1 : (kvs.map (·.1))[j]? = some k := by
      rw [KV.keys rk, List.getElem?_map, hky] <;> rfl
    have e2 : (kvs.map fun kv => kV kv.1)[j]? = some (kV k) := by
      have e3 : (kvs.map fun kv => kV kv.1) = (kvs.map (·.1)).map kV := by rw [List.map_map] <;> rfl
      rw [e3, List.getElem?_map, e1] <;> rfl
    rw [e2] at h1
    cases h1
    exact relV_key (show keyIs k w = true from hi)
  · rw [Array.toArray_toList]
    exact hS
/-- list(e.keys()) -/
theorem pe_listKeys (hc : X.calm = true) (he : PE X e te) (hg : Gl X "list") (hm : X.mg "list" = none) (hv : bootBuiltins "list" = some (.type "list")) (hbase : attributeBase e "keys" X.env (eval e X.env) = eval e X.env := by rfl) (hline : (apos.endLine == cpos.line) = true := by rfl)
    (hs : starEach [.Call (.Attribute e "keys" apos) [] [] cpos] X.env = (false, eval (.Call (.Attribute e "keys" apos) [] [] cpos) X.env) :: starEach [] X.env := by rfl) :
    PE X (.Call (.Name "list" p) [.Call (.Attribute e "keys" apos) [] [] cpos] [] pos) (tListKeys te) := by
  refine ⟨fun pins s σ H Q I hq => ?_⟩
  refine wpAny_Call_Name_kw (ld_blt I hg hm hv ?_)
  refine PyProof.Rows.callWith_type1 ?_ hs rfl
  rw [hs]
  show wpAny _ _ (spliced ((false, eval (.Call (.Attribute e "keys" apos) [] [] cpos) X.env) :: backTo pos (starEach [] X.env))) _ _ s
  refine Calls.spliced_cons ?_
  refine wpAny_Call_method (T := "dict") (id := "dict.keys") hbase rfl hline F.plainAttrs_dict F.slot_dict_keys F.type_dict_keys (thn (he.run pins s σ H _ I hq) fun u s1 ⟨x, H1, I1, rx, d, kvs, ex, hd, q⟩ => ?_)
  subst ex
  obtain rfl : u = Value.ref d := rx
  obtain ⟨hz, hs0, vs, kv, hdo⟩ := I1.hok d _ hd
  obtain ⟨ep, hat⟩ := hdo.dictAt
  have lk : kvs.length = vs.length := Paired.length kv
  have I2 : Inv X pins σ H1 { s1 with heap := s1.heap.push { cls := .type "dict_keys", data := .fields #[.ref d] } } := I1.kept (t' := s1.toks) fun b ob q => Heap.get?_push_of_some _ q
  refine ⟨hdo.typeIs, hdo.mapOf.noDict, ?_⟩
  show wpAny _ _ (callWith cpos (.builtin "dict.keys") [.ref d] [] []) _ X.xe s1
  refine method_meetsIn F.slot_dict_keys F.entry_dict_keys rfl (PySem.evalArgs_none ⟨rfl, hdo.typeIs, F.args_dict_keys_1 _, _, PySem.W.kdl_meets_keys (mixKind X.prog X.w) d hs0, ⟨vs, hdo⟩, ?_⟩)
  refine Calls.spliced_nil ?_
  refine PySem.W.kdl_call (PySem.W.kdl_keys (knd := mixKind X.prog X.w) (kvs := vs) (ep := ep)) (I1.ok.hd hc) ⟨⟨_, Heap.get?_push_size _ rfl, rfl, rfl⟩, hat.push _⟩ (by omega) fun h' tk acc c hk hS hacc => ?_
  exact keys_laid I2 hz kv hk (Nat.le_refl _) hS hacc.1 hacc.2 q
end
section
variable {K : PySem.W.Frag} {M : Addr → Prop} {I : Hp → Prop} {H : Hp} {x : V} {Q : VK}
theorem lkeys_R {ds : List (Key × D)} (hw : Wf M I) (hI : I H) (hx : Rep K M H x (.dct ds)) (q : ∀ v H', Ex M H H' → I H' → Rep K M H' v (.lst (ds.map fun kv => keyD kv.1)) → Q v H') : rKeysL x H Q := by
  cases hx with
  | dct h n k r =>
    refine ⟨_, _, rfl, h, fun p hp => ?_⟩
    exact q _ _ (Ex.of (same_upd hp)) (hw.same (same_upd hp) hI) (.lst upd_same (hw.fresh hI hp) (reps_keys _ _ _ k))
theorem items_reps {H' : Hp} (e : L2.Same H H') (hn : ∀ t : Addr, H t = none → ¬ M t) : ∀ {ts : List Addr} {kvs : List (Key × V)} {ds : List (Key × D)}, Paired (fun (t : Addr) (q : Key × V) => H' t = some (.tup [kV q.1, q.2])) ts kvs → (∀ t ∈ ts, H t = none) → kvs.map (·.1) = ds.map (·.1) → Reps K M H (kvs.map (·.2)) (ds.map (·.2)) → Reps K M H' (ts.map V.ref) (ds.map fun kv => .tup [keyD kv.1, kv.2])
  | [], [], [], _, _, _, _ => .nil
  | t :: ts, (k, v) :: kvs, (k2, d) :: ds, .cons p1 p2, hf, hk, hr => by
    simp only [List.map_cons, List.cons.injEq] at hk
    obtain ⟨rfl, hk⟩ := hk
    cases hr with
    | cons r1 r2 =>
      exact .cons (.tup p1 (hn t (hf t List.mem_cons_self)) (.cons (rep_key k) (.cons (r1.same e) .nil))) (items_reps e hn p2 (fun t ht => hf t (List.mem_cons_of_mem _ ht)) hk r2)
  | [], [], _ :: _, _, _, h, _ => by simp at h
  | _ :: _, _ :: _, [], _, _, h, _ => by simp at h
theorem litems_R {ds : List (Key × D)} (hw : Wf M I) (hI : I H) (hx : Rep K M H x (.dct ds)) (q : ∀ v H', Ex M H H' → I H' → Rep K M H' v (.lst (ds.map fun kv => .tup [keyD kv.1, kv.2])) → Q v H') : LiI.rItemsL x H Q := by
  cases hx with
  | dct h n k r =>
    refine ⟨_, _, rfl, h, fun H' p ts e hp ht hpt hl pr => ?_⟩
    have sm : L2.Same H H' := fun b o hb => e b o hb
    exact q _ _ (Ex.of sm) (hw.same sm hI) (.lst hl (hw.fresh hI hp) (items_reps sm (fun t ht => hw.fresh hI ht) pr ht k r))
end
/-! ### < of data -/
def rLtD (K : PySem.W.Frag) : R2 := fun x y H Q => ∃ d e, Dp K H x d ∧ Dp K H y e ∧ PySem.W.alike d e = true ∧ d ≠ .none ∧ d.depth ≤ 60 ∧ Q (.bl (PySem.W.dataLt d e)) H
theorem op_ltD {X : Cx} (hu : X.A.units + 64 < cLine) : OpR X (compareOp .Lt) (rLtD X.K) := by
  intro pins s σ H x y v u Q I rx ry h
  obtain ⟨d, e, hd, he, al, hn, dp, q⟩ := h
  obtain ⟨as, r1⟩ := Dp.reads I d x v hd rx
  obtain ⟨bs, r2⟩ := Dp.reads I e y u he ry
  exact PySem.W.lt_data r1 r2 al hn (by omega) ⟨.bl _, H, I, rfl, q⟩
theorem lt_D {K : PySem.W.Frag} {M : Addr → Prop} {H : Hp} {x y : V} {d e : D} {n m : Nat} {Q : VK} (hx : Rep K M H x d) (hy : Rep K M H y e) (fd : eqOk n d = true) (fe : eqOk m e = true) (al : PySem.W.alike (pyD d) (pyD e) = true) (hn : pyD d ≠ .none) (hz : n ≤ 60) (q : Q (.bl (PySem.W.dataLt (pyD d) (pyD e))) H) : rLtD K x y H Q := by
  obtain ⟨a1, _, a3⟩ := dp_D hx fd
  obtain ⟨b1, _, _⟩ := dp_D hy fe
  exact ⟨_, _, a1, b1, al, hn, by omega, q⟩
section
variable {te : TE}
theorem sx_listKeys {σ : L2.St} {H : Hp} {Q : VK} (h : te σ H fun x H1 => rKeysL x H1 Q) : tListKeys te σ H Q := h
theorem sx_listItems {σ : L2.St} {H : Hp} {Q : VK} (h : te σ H fun x H1 => LiI.rItemsL x H1 Q) : LiI.tListItems te σ H Q := h
end
end Nt

/-! how often a sign stands in a text -/
namespace Nt
open PySem PySem.Spec PyProof.Rows
open L2 hiding rLen
theorem countT_nil (c : Nat) : Txt.count (T []) (T [c]) = 0 := PyProof.Rows.count_is (T []) c
theorem countT_cons (c a : Nat) (l : List Nat) : Txt.count (T (a :: l)) (T [c]) = (if a = c then 1 else 0) + Txt.count (T l) (T [c]) := by
  have h1 : Txt.count (T (a :: l)) (T [c]) = PyProof.Rows.cnt c (T (a :: l)).cps.toList := PyProof.Rows.count_is _ c
  have h2 : Txt.count (T l) (T [c]) = PyProof.Rows.cnt c (T l).cps.toList := PyProof.Rows.count_is _ c
  rw [h1, h2, T_cps, T_cps, PyProof.Rows.cnt_cons]
end Nt

set_option maxHeartbeats 2000000
namespace G48
open PySem PySem.Spec PyProof.Rows Nt
open L2 hiding rLen

theorem units1 {k : Nat} {A : Around} (r : Room k A) : A.units + 1 < cLine := by have := r.un; omega

def top (i : Nat) : Stmt := PySem.Challenge.pw_newesttells_k48_whole_lots_of_bands.main.body.getD i (.Pass ⟨0, 0, 0, 0⟩)

structure Bl (mg : Str → Option Value) : Prop where
  f_all : mg "all" = none
  f_any : mg "any" = none
  f_bool : mg "bool" = none
  f_dict : mg "dict" = none
  f_enumerate : mg "enumerate" = none
  f_int : mg "int" = none
  f_isinstance : mg "isinstance" = none
  f_len : mg "len" = none
  f_list : mg "list" = none
  f_range : mg "range" = none
  f_reversed : mg "reversed" = none
  f_set : mg "set" = none
  f_sorted : mg "sorted" = none
  f_str : mg "str" = none
  f_sum : mg "sum" = none
  f_tuple : mg "tuple" = none
  f_zip : mg "zip" = none
  c_LETTERS : ∃ t, mg "LETTERS" = some (.str (T [97, 98, 99, 100, 101, 102, 103, 104, 105, 106, 107, 108, 109, 110, 111, 112, 113, 114, 115, 116, 117, 118, 119, 120, 121, 122]) t)
  c_MOST_ROWS : ∃ t, mg "MOST_ROWS" = some (.int 800 t)
  c_MOST_SEEDS : ∃ t, mg "MOST_SEEDS" = some (.int 30 t)
  c_MOST_CELLS : ∃ t, mg "MOST_CELLS" = some (.int 12 t)
  c_MOST_VALUES : ∃ t, mg "MOST_VALUES" = some (.int 4 t)

abbrev fl_Band : List Str := ["cell_list", "seed_list", "row_list", "known_rows", "lot_list"]

abbrev s_mask_of : Stmt := top 2
abbrev n_mask_of : List Str := ["row", "mask", "sign"]
theorem sc_mask_of : FnScope n_mask_of ["row"] (defScope s_mask_of) := ⟨rfl, rfl, rfl, by decide +kernel, rfl, by decide +kernel, by decide +kernel⟩

abbrev s_is_name : Stmt := top 18
abbrev n_is_name : List Str := ["value", "sign"]
theorem sc_is_name : FnScope n_is_name ["value"] (defScope s_is_name) := ⟨rfl, rfl, rfl, by decide +kernel, rfl, by decide +kernel, by decide +kernel⟩

abbrev s_is_number : Stmt := top 19
abbrev n_is_number : List Str := ["value", "least", "most"]
theorem sc_is_number : FnScope n_is_number ["value", "least", "most"] (defScope s_is_number) := ⟨rfl, rfl, rfl, by decide +kernel, rfl, by decide +kernel, by decide +kernel⟩

abbrev s_check_cells : Stmt := top 25
abbrev n_check_cells : List Str := ["cells", "names", "at", "cell", "name", "many"]
theorem sc_check_cells : FnScope n_check_cells ["cells"] (defScope s_check_cells) := ⟨rfl, rfl, rfl, by decide +kernel, rfl, by decide +kernel, by decide +kernel⟩

abbrev s_is_row : Stmt := top 26
abbrev n_is_row : List Str := ["cells", "value", "sign", "cell"]
theorem sc_is_row : FnScope n_is_row ["cells", "value"] (defScope s_is_row) := ⟨rfl, rfl, rfl, by decide +kernel, rfl, by decide +kernel, by decide +kernel⟩

abbrev s_over : Stmt := top 27
abbrev n_over : List Str := ["newer", "older", "sign", "below"]
theorem sc_over : FnScope n_over ["newer", "older"] (defScope s_over) := ⟨rfl, rfl, rfl, by decide +kernel, rfl, by decide +kernel, by decide +kernel⟩

abbrev s_lot_of : Stmt := top 28
abbrev n_lot_of : List Str := ["row", "sign"]
theorem sc_lot_of : FnScope n_lot_of ["row"] (defScope s_lot_of) := ⟨rfl, rfl, rfl, by decide +kernel, rfl, by decide +kernel, by decide +kernel⟩

abbrev s_blank : Stmt := top 29
abbrev n_blank : List Str := ["many"]
theorem sc_blank : FnScope n_blank ["many"] (defScope s_blank) := ⟨rfl, rfl, rfl, by decide +kernel, rfl, by decide +kernel, by decide +kernel⟩

abbrev s_within : Stmt := top 30
abbrev n_within : List Str := ["one", "other", "sign", "outer"]
theorem sc_within : FnScope n_within ["one", "other"] (defScope s_within) := ⟨rfl, rfl, rfl, by decide +kernel, rfl, by decide +kernel, by decide +kernel⟩

abbrev s_union : Stmt := top 31
abbrev n_union : List Str := ["one", "other", "sign", "second"]
theorem sc_union : FnScope n_union ["one", "other"] (defScope s_union) := ⟨rfl, rfl, rfl, by decide +kernel, rfl, by decide +kernel, by decide +kernel⟩

abbrev s_cut : Stmt := top 32
abbrev n_cut : List Str := ["row", "places", "place"]
theorem sc_cut : FnScope n_cut ["row", "places"] (defScope s_cut) := ⟨rfl, rfl, rfl, by decide +kernel, rfl, by decide +kernel, by decide +kernel⟩

abbrev s_lot_size : Stmt := top 33
abbrev n_lot_size : List Str := ["lot"]
theorem sc_lot_size : FnScope n_lot_size ["lot"] (defScope s_lot_size) := ⟨rfl, rfl, rfl, by decide +kernel, rfl, by decide +kernel, by decide +kernel⟩

abbrev s_ordered_lots : Stmt := top 34
abbrev n_ordered_lots : List Str := ["lots"]
theorem sc_ordered_lots : FnScope n_ordered_lots ["lots"] (defScope s_ordered_lots) := ⟨rfl, rfl, rfl, by decide +kernel, rfl, by decide +kernel, by decide +kernel⟩

abbrev s_parts_of_sums : Stmt := top 36
abbrev n_parts_of_sums : List Str := ["band", "sums", "found", "done", "lot", "mask", "number", "above", "other"]
theorem sc_parts_of_sums : FnScope n_parts_of_sums ["band", "sums"] (defScope s_parts_of_sums) := ⟨rfl, rfl, rfl, by decide +kernel, rfl, by decide +kernel, by decide +kernel⟩

abbrev s_signed_counts : Stmt := top 37
abbrev n_signed_counts : List Str := ["band", "lot"]
theorem sc_signed_counts : FnScope n_signed_counts ["band"] (defScope s_signed_counts) := ⟨rfl, rfl, rfl, by decide +kernel, rfl, by decide +kernel, by decide +kernel⟩

abbrev s_check_seeds : Stmt := top 53
abbrev n_check_seeds : List Str := ["cells", "seeds", "at", "seed", "cell"]
theorem sc_check_seeds : FnScope n_check_seeds ["cells", "seeds"] (defScope s_check_seeds) := ⟨rfl, rfl, rfl, by decide +kernel, rfl, by decide +kernel, by decide +kernel⟩

abbrev s_grown_rows : Stmt := top 54
abbrev n_grown_rows : List Str := ["seeds", "first", "most", "rows", "known", "at", "seed", "row"]
theorem sc_grown_rows : FnScope n_grown_rows ["seeds", "first", "most"] (defScope s_grown_rows) := ⟨rfl, rfl, rfl, by decide +kernel, rfl, by decide +kernel, by decide +kernel⟩

abbrev s_Band___init__ : Stmt := mem (top 55) 0
abbrev n_Band___init__ : List Str := ["self", "cells", "seeds", "most", "rows", "row"]
theorem sc_Band___init__ : FnScope n_Band___init__ ["self", "cells", "seeds", "most"] (defScope s_Band___init__) := ⟨rfl, rfl, rfl, by decide +kernel, rfl, by decide +kernel, by decide +kernel⟩

abbrev s_Band_rows : Stmt := mem (top 55) 4
abbrev n_Band_rows : List Str := ["self"]
theorem sc_Band_rows : FnScope n_Band_rows ["self"] (defScope s_Band_rows) := ⟨rfl, rfl, rfl, by decide +kernel, rfl, by decide +kernel, by decide +kernel⟩

abbrev s_Band_lots : Stmt := mem (top 55) 6
abbrev n_Band_lots : List Str := ["self"]
theorem sc_Band_lots : FnScope n_Band_lots ["self"] (defScope s_Band_lots) := ⟨rfl, rfl, rfl, by decide +kernel, rfl, by decide +kernel, by decide +kernel⟩

abbrev s_cut_band : Stmt := top 56
abbrev n_cut_band : List Str := ["cells", "seeds", "places", "kept", "seed", "row", "at"]
theorem sc_cut_band : FnScope n_cut_band ["cells", "seeds", "places"] (defScope s_cut_band) := ⟨rfl, rfl, rfl, by decide +kernel, rfl, by decide +kernel, by decide +kernel⟩

abbrev s__law_start : Stmt := top 58
abbrev n__law_start : List Str := ["_law_script", "_law_mixed", "_law_cell"]
theorem sc__law_start : FnScope n__law_start ["_law_script"] (defScope s__law_start) := ⟨rfl, rfl, rfl, by decide +kernel, rfl, by decide +kernel, by decide +kernel⟩

abbrev s__law_pull : Stmt := top 59
abbrev n__law_pull : List Str := ["_law_bag", "_law_many", "_law_cell", "_law_digit", "_law_seed"]
theorem sc__law_pull : FnScope n__law_pull ["_law_bag", "_law_many"] (defScope s__law_pull) := ⟨rfl, rfl, rfl, by decide +kernel, rfl, by decide +kernel, by decide +kernel⟩

abbrev s__law_pick : Stmt := top 60
abbrev n__law_pick : List Str := ["_law_bag", "_law_some"]
theorem sc__law_pick : FnScope n__law_pick ["_law_bag", "_law_some"] (defScope s__law_pick) := ⟨rfl, rfl, rfl, by decide +kernel, rfl, by decide +kernel, by decide +kernel⟩

abbrev s__law_taken : Stmt := top 61
abbrev n__law_taken : List Str := ["_law_bag", "_law_some", "_law_many", "_law_rest", "_law_found", "_law_turn"]
theorem sc__law_taken : FnScope n__law_taken ["_law_bag", "_law_some", "_law_many"] (defScope s__law_taken) := ⟨rfl, rfl, rfl, by decide +kernel, rfl, by decide +kernel, by decide +kernel⟩

abbrev s__law_same : Stmt := top 62
abbrev n__law_same : List Str := ["_law_found", "_law_due", "_law_one", "_law_other"]
theorem sc__law_same : FnScope n__law_same ["_law_found", "_law_due"] (defScope s__law_same) := ⟨rfl, rfl, rfl, by decide +kernel, rfl, by decide +kernel, by decide +kernel⟩

abbrev s__law_number : Stmt := top 63
abbrev n__law_number : List Str := ["_law_value"]
theorem sc__law_number : FnScope n__law_number ["_law_value"] (defScope s__law_number) := ⟨rfl, rfl, rfl, by decide +kernel, rfl, by decide +kernel, by decide +kernel⟩

abbrev s__law_ordered : Stmt := top 64
abbrev n__law_ordered : List Str := ["_law_some", "_law_found", "_law_item", "_law_other"]
theorem sc__law_ordered : FnScope n__law_ordered ["_law_some"] (defScope s__law_ordered) := ⟨rfl, rfl, rfl, by decide +kernel, rfl, by decide +kernel, by decide +kernel⟩

abbrev s__law_over : Stmt := top 65
abbrev n__law_over : List Str := ["_law_newer", "_law_older", "_law_a", "_law_b"]
theorem sc__law_over : FnScope n__law_over ["_law_newer", "_law_older"] (defScope s__law_over) := ⟨rfl, rfl, rfl, by decide +kernel, rfl, by decide +kernel, by decide +kernel⟩

abbrev s__law_lot : Stmt := top 66
abbrev n__law_lot : List Str := ["_law_row", "_law_sign"]
theorem sc__law_lot : FnScope n__law_lot ["_law_row"] (defScope s__law_lot) := ⟨rfl, rfl, rfl, by decide +kernel, rfl, by decide +kernel, by decide +kernel⟩

abbrev s__law_within : Stmt := top 67
abbrev n__law_within : List Str := ["_law_one", "_law_other", "_law_a", "_law_b"]
theorem sc__law_within : FnScope n__law_within ["_law_one", "_law_other"] (defScope s__law_within) := ⟨rfl, rfl, rfl, by decide +kernel, rfl, by decide +kernel, by decide +kernel⟩

abbrev s__law_lots_of : Stmt := top 68
abbrev n__law_lots_of : List Str := ["_law_some", "_law_keyed", "_law_row", "_law_one"]
theorem sc__law_lots_of : FnScope n__law_lots_of ["_law_some"] (defScope s__law_lots_of) := ⟨rfl, rfl, rfl, by decide +kernel, rfl, by decide +kernel, by decide +kernel⟩

abbrev s__law_closure : Stmt := top 69
abbrev n__law_closure : List Str := ["_law_size", "_law_given", "_law_limit", "_law_found", "_law_known", "_law_at", "_law_seed", "_law_row"]
theorem sc__law_closure : FnScope n__law_closure ["_law_size", "_law_given", "_law_limit"] (defScope s__law_closure) := ⟨rfl, rfl, rfl, by decide +kernel, rfl, by decide +kernel, by decide +kernel⟩

abbrev s__law_told_all : Stmt := top 70
abbrev n__law_told_all : List Str := ["_law_given", "_law_filler", "_law_place", "_law_found", "_law_last", "_law_signs", "_law_row", "_law_at", "_law_k"]
theorem sc__law_told_all : FnScope n__law_told_all ["_law_given", "_law_filler", "_law_place"] (defScope s__law_told_all) := ⟨rfl, rfl, rfl, by decide +kernel, rfl, by decide +kernel, by decide +kernel⟩

abbrev s__law_draw_name : Stmt := top 71
abbrev n__law_draw_name : List Str := ["_law_bag", "_law_names", "_law_letters", "_law_found", "_law_size", "_law_turn", "_law_number_here", "_law_name", "_law_letter"]
theorem sc__law_draw_name : FnScope n__law_draw_name ["_law_bag", "_law_names"] (defScope s__law_draw_name) := ⟨rfl, rfl, rfl, by decide +kernel, rfl, by decide +kernel, by decide +kernel⟩

abbrev s__law_draw_cells : Stmt := top 72
abbrev n__law_draw_cells : List Str := ["_law_bag", "_law_size", "_law_taken_here", "_law_names", "_law_found", "_law_turn"]
theorem sc__law_draw_cells : FnScope n__law_draw_cells ["_law_bag", "_law_size", "_law_taken_here"] (defScope s__law_draw_cells) := ⟨rfl, rfl, rfl, by decide +kernel, rfl, by decide +kernel, by decide +kernel⟩

abbrev s__law_draw_band : Stmt := top 73
abbrev n__law_draw_band : List Str := ["_law_bag", "_law_size", "_law_taken_here", "_law_limit", "_law_few", "_law_cells", "_law_filler", "_law_place", "_law_dots", "_law_given", "_law_turn", "_law_digits", "_law_told", "_law_some", "_law_cell", "_law_digit"]
theorem sc__law_draw_band : FnScope n__law_draw_band ["_law_bag", "_law_size", "_law_taken_here", "_law_limit", "_law_few"] (defScope s__law_draw_band) := ⟨rfl, rfl, rfl, by decide +kernel, rfl, by decide +kernel, by decide +kernel⟩

abbrev s__law_draw_world : Stmt := top 74
abbrev n__law_draw_world : List Str := ["_law_bag"]
theorem sc__law_draw_world : FnScope n__law_draw_world ["_law_bag"] (defScope s__law_draw_world) := ⟨rfl, rfl, rfl, by decide +kernel, rfl, by decide +kernel, by decide +kernel⟩

abbrev s__law_in_order : Stmt := top 75
abbrev n__law_in_order : List Str := ["_law_lots", "_law_table", "_law_found", "_law_lot_here"]
theorem sc__law_in_order : FnScope n__law_in_order ["_law_lots", "_law_table"] (defScope s__law_in_order) := ⟨rfl, rfl, rfl, by decide +kernel, rfl, by decide +kernel, by decide +kernel⟩

abbrev s__law_union : Stmt := top 76
abbrev n__law_union : List Str := ["_law_one", "_law_other", "_law_a", "_law_b"]
theorem sc__law_union : FnScope n__law_union ["_law_one", "_law_other"] (defScope s__law_union) := ⟨rfl, rfl, rfl, by decide +kernel, rfl, by decide +kernel, by decide +kernel⟩

abbrev s__law_lots_right : Stmt := top 77
abbrev n__law_lots_right : List Str := ["_law_bag", "_law_band", "_law_some", "_law_lots", "_law_one", "_law_other", "_law_mixed", "_law_told", "_law_row"]
theorem sc__law_lots_right : FnScope n__law_lots_right ["_law_bag", "_law_band", "_law_some", "_law_lots"] (defScope s__law_lots_right) := ⟨rfl, rfl, rfl, by decide +kernel, rfl, by decide +kernel, by decide +kernel⟩

abbrev s__law_signed : Stmt := top 78
abbrev n__law_signed : List Str := ["_law_lots", "_law_found", "_law_lot_here", "_law_above", "_law_other"]
theorem sc__law_signed : FnScope n__law_signed ["_law_lots"] (defScope s__law_signed) := ⟨rfl, rfl, rfl, by decide +kernel, rfl, by decide +kernel, by decide +kernel⟩

abbrev s__law_signed_right : Stmt := top 79
abbrev n__law_signed_right : List Str := ["_law_band", "_law_lots", "_law_told", "_law_due", "_law_lot_here", "_law_other"]
theorem sc__law_signed_right : FnScope n__law_signed_right ["_law_band", "_law_lots"] (defScope s__law_signed_right) := ⟨rfl, rfl, rfl, by decide +kernel, rfl, by decide +kernel, by decide +kernel⟩

abbrev s_law : Stmt := top 80
abbrev n_law : List Str := ["_law_script", "_law_bag", "_law_pair", "_law_turn", "_law_cells", "_law_given", "_law_some", "_law_lots", "_law_band"]
theorem sc_law : FnScope n_law ["_law_script"] (defScope s_law) := ⟨rfl, rfl, rfl, by decide +kernel, rfl, by decide +kernel, by decide +kernel⟩

section
variable {P : Program} {w : World} {K : PySem.W.Frag} {mg : Str → Option Value} {base : Heap}

def t_mask_of (K : PySem.W.Frag) : TS := (tSeq (tAsg (tC (.int 0)) (gName 1))
    (tSeq (tFor (iSrc K (tVar 0)) (gName 2)
    (tSeq (tAsg (tOp rMulU (tVar 1) (tC (.int 8))) (gName 1))
    (tIfS (tTest (tOp (rNeU K) (tVar 2) (tC (.str (T [46]))))) (tAsg (tOp (rAddU K) (tVar 1) (tC (.int 7))) (gName 1)) tNext)))
    (tRet (tVar 1))))

theorem w_mask_of (B : Bl mg)      {f : Addr} {cdv : Value} {A : Around} {outer : List Env} {s : Shared} {H : Hp} {E : XK} (hr : Room 0 (A.deeper (envOfC "mask_of" (defScope s_mask_of) s.heap.objs.size f cdv))) :
    PSs (cxOf (L2.CX P w) P w K mg base n_mask_of "mask_of" (defScope s_mask_of) f cdv A outer s H E).nox (defBody s_mask_of) (t_mask_of K ) := by
  have nd := sc_mask_of.nd
  have hu := hr.units
  have hv := units5 hr
  have h1 := units1 hr
  exact (pss_cons (ps_set (i := 1) nd rfl (Or.inl rfl) pe_int)
    (pss_cons (ps_for PassesOwn.never rfl (pi_src (pv 0)) (pg_name (i := 2) nd rfl (Or.inl rfl))
    (pss_cons (ps_set (i := 1) nd rfl (Or.inl rfl) (pe_op op_mulU (pv 1) pe_int))
    (pss_one (ps_if (pt_cmpR (op_neU hu) (pv 2) (pe_strT (by decide +kernel)) (nomark _)) (pss_one (ps_set (i := 1) nd rfl (Or.inl rfl) (pe_op op_addU (pv 1) pe_int))) pss_nil))))
    (pss_one (ps_ret (pv 1)))))

def t_is_name (K : PySem.W.Frag) : TS := (tSeq (tIfS (tOr (tNot (tB (tCB (rIsi K) (tCons (tVar 0) (tCons (tC (.ty "str")) tNil))))) (tNot (tTest (tChain rLeU rLeU (tC (.int 1)) (tCB (rLen K) (tCons (tVar 0) tNil)) (tC (.int 6)))))) (tRet (tC (.bl false))) tNext)
    (tRet (tCB (rAll K) (tCons (tLc (iSrc K (tVar 0)) (gName 1) tYes (tOp (rInU K) (tVar 1) (tC (.str (T [97, 98, 99, 100, 101, 102, 103, 104, 105, 106, 107, 108, 109, 110, 111, 112, 113, 114, 115, 116, 117, 118, 119, 120, 121, 122])))) [1]) tNil))))

theorem w_is_name (B : Bl mg)      {f : Addr} {cdv : Value} {A : Around} {outer : List Env} {s : Shared} {H : Hp} {E : XK} (hr : Room 0 (A.deeper (envOfC "is_name" (defScope s_is_name) s.heap.objs.size f cdv))) :
    PSs (cxOf (L2.CX P w) P w K mg base n_is_name "is_name" (defScope s_is_name) f cdv A outer s H E).nox (defBody s_is_name) (t_is_name K ) := by
  have nd := sc_is_name.nd
  have hu := hr.units
  have hv := units5 hr
  have h1 := units1 hr
  exact (pss_cons (ps_if (PW.pt (pw_or (pt_not (pt_val (pe_callB call_isi (by rfl) B.f_isinstance (by decide +kernel) (pa_cons (pv 0) (pa_cons (pe_bltn (by rfl) B.f_str (by decide +kernel) rfl) pa_nil))))) (pw_or1 (pt_not (pt_chain op_leU op_leU pe_int (pe_callB call_lenU (by rfl) B.f_len (by decide +kernel) (pa_cons (pv 0) pa_nil)) pe_int))))) (pss_one (ps_ret pe_bl)) pss_nil)
    (pss_one (ps_ret (pe_callB (cr_all rfl) (by rfl) B.f_all (by decide +kernel) (pa_cons (pe_lc (own := [("sign", 1)]) rfl nd (pi_src (pv 0)) (blkOk_by (own := [("sign", 1)]) (N := n_is_name) (sc := defScope s_is_name) (by decide +kernel)) (fun _ _ _ _ _ => (pg_name (i := 1) nd rfl (Or.inl rfl))) (fun _ _ _ _ _ => pts_nil) (fun _ _ _ _ _ => (pe_cmpR (op_inU hv) (pv 1) (pe_globS rfl B.c_LETTERS) (by rfl)))) pa_nil)))))

def t_is_number (K : PySem.W.Frag) : TS := (tRet (tAndV (tCB (rIsi K) (tCons (tVar 0) (tCons (tC (.ty "int")) tNil))) (tAndV (tNotV (tCB (rIsi K) (tCons (tVar 0) (tCons (tC (.ty "bool")) tNil)))) (tChain rLeU rLeU (tVar 1) (tVar 0) (tVar 2)))))

theorem w_is_number (B : Bl mg)      {f : Addr} {cdv : Value} {A : Around} {outer : List Env} {s : Shared} {H : Hp} {E : XK} (hr : Room 0 (A.deeper (envOfC "is_number" (defScope s_is_number) s.heap.objs.size f cdv))) :
    PSs (cxOf (L2.CX P w) P w K mg base n_is_number "is_number" (defScope s_is_number) f cdv A outer s H E).nox (defBody s_is_number) (t_is_number K ) := by
  have nd := sc_is_number.nd
  have hu := hr.units
  have hv := units5 hr
  have h1 := units1 hr
  exact (pss_one (ps_ret (pe_and (pe_callB call_isi (by rfl) B.f_isinstance (by decide +kernel) (pa_cons (pv 0) (pa_cons (pe_bltn (by rfl) B.f_int (by decide +kernel) rfl) pa_nil))) (pe_and (pe_not (pe_callB call_isi (by rfl) B.f_isinstance (by decide +kernel) (pa_cons (pv 0) (pa_cons (pe_bltn (by rfl) B.f_bool (by decide +kernel) rfl) pa_nil)))) (pe_one (pe_chain op_leU op_leU (pv 1) (pv 0) (pv 2)))))))

def t_check_cells (K : PySem.W.Frag) (sp_is_name sp_is_number : Sp) : TS := (tSeq (tIfS (tOr (tNot (tB (tCB (rIsiT K) (tCons (tVar 0) (tCons (tTup (tCons (tC (.ty "list")) (tCons (tC (.ty "tuple")) tNil))) tNil))))) (tNot (tTest (tChain rLeU rLeU (tC (.int 1)) (tCB (rLen K) (tCons (tVar 0) tNil)) (tC (.int 12)))))) tNever tNext)
    (tSeq (tAsg (tLst tNil) (gName 1))
    (tFor (iEnumS K (tCons (tVar 0) tNil)) (gTup K 2 (gCons (gName 2) (gCons (gName 3) gNil)))
    (tSeq (tIfS (tOr (tNot (tB (tCB (rIsi K) (tCons (tVar 3) (tCons (tC (.ty "tuple")) tNil))))) (tTest (tOp (rNeU K) (tCB (rLen K) (tCons (tVar 3) tNil)) (tC (.int 2))))) tNever tNext)
    (tSeq (tAsg (tVar 3) (gTup K 2 (gCons (gName 4) (gCons (gName 5) gNil))))
    (tSeq (tIfS (tOr (tNot (tB (tCall sp_is_name (([] : List V).drop 0) E0 (tCons (tVar 4) tNil)))) (tOr (tNot (tB (tCall sp_is_number (([] : List V).drop 0) E0 (tCons (tVar 5) (tCons (tC (.int 1)) (tCons (tC (.int 4)) tNil)))))) (tTest (tOp (rInU K) (tVar 4) (tVar 1))))) tNever tNext)
    (tDrop (tBM K "list" rAppend (tVar 1) (tCons (tVar 4) tNil)))))))))

theorem w_check_cells (B : Bl mg)     {sp_is_name : Sp} (G_is_name : Df P w K mg base 1 "is_name" ["value"] [] sp_is_name) {sp_is_number : Sp} (G_is_number : Df P w K mg base 1 "is_number" ["value", "least", "most"] [] sp_is_number) {f : Addr} {cdv : Value} {A : Around} {outer : List Env} {s : Shared} {H : Hp} {E : XK} (hr : Room 1 (A.deeper (envOfC "check_cells" (defScope s_check_cells) s.heap.objs.size f cdv))) :
    PSs (cxOf (L2.CX P w) P w K mg base n_check_cells "check_cells" (defScope s_check_cells) f cdv A outer s H E).nox (defBody s_check_cells) (t_check_cells K sp_is_name sp_is_number) := by
  have nd := sc_check_cells.nd
  have hu := hr.units
  have hv := units5 hr
  have h1 := units1 hr
  exact (pss_cons (ps_if (PW.pt (pw_or (pt_not (pt_val (pe_callB call_isiT (by rfl) B.f_isinstance (by decide +kernel) (pa_cons (pv 0) (pa_cons (pe_tup (pa_cons (pe_bltn (by rfl) B.f_list (by decide +kernel) rfl) (pa_cons (pe_bltn (by rfl) B.f_tuple (by decide +kernel) rfl) pa_nil))) pa_nil))))) (pw_or1 (pt_not (pt_chain op_leU op_leU pe_int (pe_callB call_lenU (by rfl) B.f_len (by decide +kernel) (pa_cons (pv 0) pa_nil)) (pe_globI rfl B.c_MOST_CELLS)))))) (pss_one ps_never) pss_nil)
    (pss_cons (ps_set (i := 1) nd rfl (Or.inl rfl) (pe_lst pa_nil))
    (pss_one (ps_for PassesOwn.never rfl (pi_enumS (by rfl) B.f_enumerate (pa_cons (pv 0) pa_nil)) (pg_tup (by rfl) (pgs_cons (pg_name (i := 2) nd rfl (Or.inl rfl)) (pgs_cons (pg_name (i := 3) nd rfl (Or.inl rfl)) pgs_nil)))
    (pss_cons (ps_if (PW.pt (pw_or (pt_not (pt_val (pe_callB call_isi (by rfl) B.f_isinstance (by decide +kernel) (pa_cons (pv 3) (pa_cons (pe_bltn (by rfl) B.f_tuple (by decide +kernel) rfl) pa_nil))))) (pw_or1 (pt_cmpR (op_neU hu) (pe_callB call_lenU (by rfl) B.f_len (by decide +kernel) (pa_cons (pv 3) pa_nil)) pe_int (nomark _))))) (pss_one ps_never) pss_nil)
    (pss_cons (ps_asg (pv 3) (pg_tup (by rfl) (pgs_cons (pg_name (i := 4) nd rfl (Or.inl rfl)) (pgs_cons (pg_name (i := 5) nd rfl (Or.inl rfl)) pgs_nil))))
    (pss_cons (ps_if (PW.pt (pw_or (pt_not (pt_val (pe_df 0 G_is_name (hr.mono (by decide)) (by rfl) (pa_cons (pv 4) pa_nil)))) (pw_or (pt_not (pt_val (pe_df 0 G_is_number (hr.mono (by decide)) (by rfl) (pa_cons (pv 5) (pa_cons pe_int (pa_cons (pe_globI rfl B.c_MOST_VALUES) pa_nil)))))) (pw_or1 (pt_cmpR (op_inU hv) (pv 4) (pv 1) (by rfl)))))) (pss_one ps_never) pss_nil)
    (pss_one (ps_expr (pe_bm PySem.F.plainAttrs_list PySem.F.slot_list_append PySem.F.type_list_append mt_append (pv 1) (pa_cons (pv 4) pa_nil)))))))))))

def t_is_row (K : PySem.W.Frag) : TS := (tSeq (tIfS (tOr (tNot (tB (tCB (rIsi K) (tCons (tVar 1) (tCons (tC (.ty "str")) tNil))))) (tTest (tOp (rNeU K) (tCB (rLen K) (tCons (tVar 1) tNil)) (tCB (rLen K) (tCons (tVar 0) tNil))))) (tRet (tC (.bl false))) tNext)
    (tRet (tCB (rAll K) (tCons (tLc (iZipS K (tCons (tVar 1) (tCons (tVar 0) tNil))) (gTup K 2 (gCons (gName 2) (gCons (gName 3) gNil))) tYes (tOp (rInU K) (tVar 2) (tSl (rSlU K) (tC (.str (T [46, 48, 49, 50, 51]))) tNoPart (tPart (tOp (rAddU K) (tOp (rIx K) (tVar 3) (tC (.int 1))) (tC (.int 1)))))) [2, 3]) tNil))))

theorem w_is_row (B : Bl mg)      {f : Addr} {cdv : Value} {A : Around} {outer : List Env} {s : Shared} {H : Hp} {E : XK} (hr : Room 0 (A.deeper (envOfC "is_row" (defScope s_is_row) s.heap.objs.size f cdv))) :
    PSs (cxOf (L2.CX P w) P w K mg base n_is_row "is_row" (defScope s_is_row) f cdv A outer s H E).nox (defBody s_is_row) (t_is_row K ) := by
  have nd := sc_is_row.nd
  have hu := hr.units
  have hv := units5 hr
  have h1 := units1 hr
  exact (pss_cons (ps_if (PW.pt (pw_or (pt_not (pt_val (pe_callB call_isi (by rfl) B.f_isinstance (by decide +kernel) (pa_cons (pv 1) (pa_cons (pe_bltn (by rfl) B.f_str (by decide +kernel) rfl) pa_nil))))) (pw_or1 (pt_cmpR (op_neU hu) (pe_callB call_lenU (by rfl) B.f_len (by decide +kernel) (pa_cons (pv 1) pa_nil)) (pe_callB call_lenU (by rfl) B.f_len (by decide +kernel) (pa_cons (pv 0) pa_nil)) (nomark _))))) (pss_one (ps_ret pe_bl)) pss_nil)
    (pss_one (ps_ret (pe_callB (cr_all rfl) (by rfl) B.f_all (by decide +kernel) (pa_cons (pe_lc (own := [("sign", 2), ("cell", 3)]) rfl nd (pi_zipS (by rfl) B.f_zip (pa_cons (pv 1) (pa_cons (pv 0) pa_nil))) (blkOk_by (own := [("sign", 2), ("cell", 3)]) (N := n_is_row) (sc := defScope s_is_row) (by decide +kernel)) (fun _ _ _ _ _ => (pg_tup (by rfl) (pgs_cons (pg_name (i := 2) nd rfl (Or.inl rfl)) (pgs_cons (pg_name (i := 3) nd rfl (Or.inl rfl)) pgs_nil)))) (fun _ _ _ _ _ => pts_nil) (fun _ _ _ _ _ => (pe_cmpR (op_inU hv) (pv 2) (pe_slice sl_U (pe_strT (by decide +kernel)) po_none (po_some (pe_op op_addU (pe_ix ix_seq (pv 3) pe_int (fun _ _ => rfl)) pe_int))) (by rfl)))) pa_nil)))))

def t_over (K : PySem.W.Frag) : TS := (tRet (tM1 (rJoin K) (tC (.str (T []))) (tLc (iZipS K (tCons (tVar 0) (tCons (tVar 1) tNil))) (gTup K 2 (gCons (gName 2) (gCons (gName 3) gNil))) tYes (tIf (tTest (tOp (rEqU K) (tVar 2) (tC (.str (T [46]))))) (tVar 3) (tVar 2)) [2, 3])))

theorem w_over (B : Bl mg)      {f : Addr} {cdv : Value} {A : Around} {outer : List Env} {s : Shared} {H : Hp} {E : XK} (hr : Room 0 (A.deeper (envOfC "over" (defScope s_over) s.heap.objs.size f cdv))) :
    PSs (cxOf (L2.CX P w) P w K mg base n_over "over" (defScope s_over) f cdv A outer s H E).nox (defBody s_over) (t_over K ) := by
  have nd := sc_over.nd
  have hu := hr.units
  have hv := units5 hr
  have h1 := units1 hr
  exact (pss_one (ps_ret (pe_joinU (pe_strT (by decide +kernel)) (pe_lc (own := [("sign", 2), ("below", 3)]) rfl nd (pi_zipS (by rfl) B.f_zip (pa_cons (pv 0) (pa_cons (pv 1) pa_nil))) (blkOk_by (own := [("sign", 2), ("below", 3)]) (N := n_over) (sc := defScope s_over) (by decide +kernel)) (fun _ _ _ _ _ => (pg_tup (by rfl) (pgs_cons (pg_name (i := 2) nd rfl (Or.inl rfl)) (pgs_cons (pg_name (i := 3) nd rfl (Or.inl rfl)) pgs_nil)))) (fun _ _ _ _ _ => pts_nil) (fun _ _ _ _ _ => (pe_ifExp (pt_cmpR (op_eqU hu) (pv 2) (pe_strT (by decide +kernel)) (nomark _)) (pv 3) (pv 2)))))))

def t_lot_of (K : PySem.W.Frag) : TS := (tRet (tM1 (rJoin K) (tC (.str (T []))) (tLc (iSrc K (tVar 0)) (gName 1) tYes (tIf (tTest (tOp (rEqU K) (tVar 1) (tC (.str (T [46]))))) (tC (.str (T [46]))) (tC (.str (T [43])))) [1])))

theorem w_lot_of (B : Bl mg)      {f : Addr} {cdv : Value} {A : Around} {outer : List Env} {s : Shared} {H : Hp} {E : XK} (hr : Room 0 (A.deeper (envOfC "lot_of" (defScope s_lot_of) s.heap.objs.size f cdv))) :
    PSs (cxOf (L2.CX P w) P w K mg base n_lot_of "lot_of" (defScope s_lot_of) f cdv A outer s H E).nox (defBody s_lot_of) (t_lot_of K ) := by
  have nd := sc_lot_of.nd
  have hu := hr.units
  have hv := units5 hr
  have h1 := units1 hr
  exact (pss_one (ps_ret (pe_joinU (pe_strT (by decide +kernel)) (pe_lc (own := [("sign", 1)]) rfl nd (pi_src (pv 0)) (blkOk_by (own := [("sign", 1)]) (N := n_lot_of) (sc := defScope s_lot_of) (by decide +kernel)) (fun _ _ _ _ _ => (pg_name (i := 1) nd rfl (Or.inl rfl))) (fun _ _ _ _ _ => pts_nil) (fun _ _ _ _ _ => (pe_ifExp (pt_cmpR (op_eqU hu) (pv 1) (pe_strT (by decide +kernel)) (nomark _)) (pe_strT (by decide +kernel)) (pe_strT (by decide +kernel))))))))

def t_blank (K : PySem.W.Frag) : TS := (tRet (tOp rMulU (tC (.str (T [46]))) (tVar 0)))

theorem w_blank (B : Bl mg)      {f : Addr} {cdv : Value} {A : Around} {outer : List Env} {s : Shared} {H : Hp} {E : XK} (hr : Room 0 (A.deeper (envOfC "blank" (defScope s_blank) s.heap.objs.size f cdv))) :
    PSs (cxOf (L2.CX P w) P w K mg base n_blank "blank" (defScope s_blank) f cdv A outer s H E).nox (defBody s_blank) (t_blank K ) := by
  have nd := sc_blank.nd
  have hu := hr.units
  have hv := units5 hr
  have h1 := units1 hr
  exact (pss_one (ps_ret (pe_op op_mulU (pe_strT (by decide +kernel)) (pv 0))))

def t_within (K : PySem.W.Frag) : TS := (tRet (tCB (rAll K) (tCons (tLc (iZipS K (tCons (tVar 0) (tCons (tVar 1) tNil))) (gTup K 2 (gCons (gName 2) (gCons (gName 3) gNil))) tYes (tOrV (tOp (rEqU K) (tVar 2) (tC (.str (T [46])))) (tOp (rEqU K) (tVar 3) (tC (.str (T [43]))))) [2, 3]) tNil)))

theorem w_within (B : Bl mg)      {f : Addr} {cdv : Value} {A : Around} {outer : List Env} {s : Shared} {H : Hp} {E : XK} (hr : Room 0 (A.deeper (envOfC "within" (defScope s_within) s.heap.objs.size f cdv))) :
    PSs (cxOf (L2.CX P w) P w K mg base n_within "within" (defScope s_within) f cdv A outer s H E).nox (defBody s_within) (t_within K ) := by
  have nd := sc_within.nd
  have hu := hr.units
  have hv := units5 hr
  have h1 := units1 hr
  exact (pss_one (ps_ret (pe_callB (cr_all rfl) (by rfl) B.f_all (by decide +kernel) (pa_cons (pe_lc (own := [("sign", 2), ("outer", 3)]) rfl nd (pi_zipS (by rfl) B.f_zip (pa_cons (pv 0) (pa_cons (pv 1) pa_nil))) (blkOk_by (own := [("sign", 2), ("outer", 3)]) (N := n_within) (sc := defScope s_within) (by decide +kernel)) (fun _ _ _ _ _ => (pg_tup (by rfl) (pgs_cons (pg_name (i := 2) nd rfl (Or.inl rfl)) (pgs_cons (pg_name (i := 3) nd rfl (Or.inl rfl)) pgs_nil)))) (fun _ _ _ _ _ => pts_nil) (fun _ _ _ _ _ => (pe_or (pe_cmpR (op_eqU hu) (pv 2) (pe_strT (by decide +kernel)) (nomark _)) (pe_one (pe_cmpR (op_eqU hu) (pv 3) (pe_strT (by decide +kernel)) (nomark _)))))) pa_nil))))

def t_union (K : PySem.W.Frag) : TS := (tRet (tM1 (rJoin K) (tC (.str (T []))) (tLc (iZipS K (tCons (tVar 0) (tCons (tVar 1) tNil))) (gTup K 2 (gCons (gName 2) (gCons (gName 3) gNil))) tYes (tIf (tTest (tOp (rInU K) (tC (.str (T [43]))) (tTup (tCons (tVar 2) (tCons (tVar 3) tNil))))) (tC (.str (T [43]))) (tC (.str (T [46])))) [2, 3])))

theorem w_union (B : Bl mg)      {f : Addr} {cdv : Value} {A : Around} {outer : List Env} {s : Shared} {H : Hp} {E : XK} (hr : Room 0 (A.deeper (envOfC "union" (defScope s_union) s.heap.objs.size f cdv))) :
    PSs (cxOf (L2.CX P w) P w K mg base n_union "union" (defScope s_union) f cdv A outer s H E).nox (defBody s_union) (t_union K ) := by
  have nd := sc_union.nd
  have hu := hr.units
  have hv := units5 hr
  have h1 := units1 hr
  exact (pss_one (ps_ret (pe_joinU (pe_strT (by decide +kernel)) (pe_lc (own := [("sign", 2), ("second", 3)]) rfl nd (pi_zipS (by rfl) B.f_zip (pa_cons (pv 0) (pa_cons (pv 1) pa_nil))) (blkOk_by (own := [("sign", 2), ("second", 3)]) (N := n_union) (sc := defScope s_union) (by decide +kernel)) (fun _ _ _ _ _ => (pg_tup (by rfl) (pgs_cons (pg_name (i := 2) nd rfl (Or.inl rfl)) (pgs_cons (pg_name (i := 3) nd rfl (Or.inl rfl)) pgs_nil)))) (fun _ _ _ _ _ => pts_nil) (fun _ _ _ _ _ => (pe_ifExp (pt_cmpR (op_inU hv) (pe_strT (by decide +kernel)) (pe_tup (pa_cons (pv 2) (pa_cons (pv 3) pa_nil))) (by rfl)) (pe_strT (by decide +kernel)) (pe_strT (by decide +kernel))))))))

def t_cut (K : PySem.W.Frag) : TS := (tRet (tM1 (rJoin K) (tC (.str (T []))) (tLc (iSrc K (tVar 1)) (gName 2) tYes (tOp (rIx K) (tVar 0) (tVar 2)) [2])))

theorem w_cut (B : Bl mg)      {f : Addr} {cdv : Value} {A : Around} {outer : List Env} {s : Shared} {H : Hp} {E : XK} (hr : Room 0 (A.deeper (envOfC "cut" (defScope s_cut) s.heap.objs.size f cdv))) :
    PSs (cxOf (L2.CX P w) P w K mg base n_cut "cut" (defScope s_cut) f cdv A outer s H E).nox (defBody s_cut) (t_cut K ) := by
  have nd := sc_cut.nd
  have hu := hr.units
  have hv := units5 hr
  have h1 := units1 hr
  exact (pss_one (ps_ret (pe_joinU (pe_strT (by decide +kernel)) (pe_lc (own := [("place", 2)]) rfl nd (pi_src (pv 1)) (blkOk_by (own := [("place", 2)]) (N := n_cut) (sc := defScope s_cut) (by decide +kernel)) (fun _ _ _ _ _ => (pg_name (i := 2) nd rfl (Or.inl rfl))) (fun _ _ _ _ _ => pts_nil) (fun _ _ _ _ _ => (pe_ix ix_seq (pv 0) (pv 2) (fun _ _ => rfl)))))))

def t_lot_size (K : PySem.W.Frag) : TS := (tRet (tM1 rCount (tVar 0) (tC (.str (T [43])))))

theorem w_lot_size (B : Bl mg)      {f : Addr} {cdv : Value} {A : Around} {outer : List Env} {s : Shared} {H : Hp} {E : XK} (hr : Room 0 (A.deeper (envOfC "lot_size" (defScope s_lot_size) s.heap.objs.size f cdv))) :
    PSs (cxOf (L2.CX P w) P w K mg base n_lot_size "lot_size" (defScope s_lot_size) f cdv A outer s H E).nox (defBody s_lot_size) (t_lot_size K ) := by
  have nd := sc_lot_size.nd
  have hu := hr.units
  have hv := units5 hr
  have h1 := units1 hr
  exact (pss_one (ps_ret (pe_countU (pv 0) (pe_strT (by decide +kernel)))))

def t_parts_of_sums (K : PySem.W.Frag) (sp_Band_lots sp_mask_of : Sp) : TS := (tSeq (tAsg tDNewK (gName 2))
    (tSeq (tAsg (tLst tNil) (gName 3))
    (tSeq (tFor (iRev K (tCons (tCB (rList1 K) (tCons (tMeth (He.ga K "Band") "lots" sp_Band_lots ([] : List V) E0 (tVar 0) tNil) tNil)) tNil)) (gName 4)
    (tSeq (tAsg (tCall sp_mask_of (([] : List V).drop 0) E0 (tCons (tVar 4) tNil)) (gName 5))
    (tSeq (tAsg (tOp rSubU (tDGet (tVar 1) (tVar 4)) (tCB (rSum K) (tCons (tLc (iSrc K (tVar 3)) (gTup K 2 (gCons (gName 7) (gCons (gName 8) gNil))) (tTest (tOp (rEqU K) (tOp rAndU (tVar 7) (tVar 5)) (tVar 5))) (tVar 8) [7, 8]) tNil))) (gName 6))
    (tSeq (tDrop (tBM K "list" rAppend (tVar 3) (tCons (tTup (tCons (tVar 5) (tCons (tVar 6) tNil))) tNil)))
    (sDPut (tVar 2) (tVar 4) (tVar 6))))))
    (tRet (tDc (iSrc K (tMeth (He.ga K "Band") "lots" sp_Band_lots ([] : List V) E0 (tVar 0) tNil)) (gName 4) tYes (tVar 4) (tDGet (tVar 2) (tVar 4)) [4])))))

theorem w_parts_of_sums (B : Bl mg)  (C_Band : ClsF K "Band" fl_Band)   {sp_Band_lots : Sp} (G_Band_lots : DfM P w K mg base 1 "Band" "lots" ["self"] ([] : List V) sp_Band_lots) {sp_mask_of : Sp} (G_mask_of : Df P w K mg base 1 "mask_of" ["row"] [] sp_mask_of) {f : Addr} {cdv : Value} {A : Around} {outer : List Env} {s : Shared} {H : Hp} {E : XK} (hr : Room 1 (A.deeper (envOfC "parts_of_sums" (defScope s_parts_of_sums) s.heap.objs.size f cdv))) :
    PSs (cxOf (L2.CX P w) P w K mg base n_parts_of_sums "parts_of_sums" (defScope s_parts_of_sums) f cdv A outer s H E).nox (defBody s_parts_of_sums) (t_parts_of_sums K sp_Band_lots sp_mask_of) := by
  have nd := sc_parts_of_sums.nd
  have hu := hr.units
  have hv := units5 hr
  have h1 := units1 hr
  exact (pss_cons (ps_set (i := 2) nd rfl (Or.inr rfl) pe_dnewK)
    (pss_cons (ps_set (i := 3) nd rfl (Or.inl rfl) (pe_lst pa_nil))
    (pss_cons (ps_for PassesOwn.never rfl (pi_reversed (by rfl) B.f_reversed (pa_cons (pe_callTy (call_listU rfl) (by rfl) B.f_list (by decide +kernel) (pa_cons (pe_dm0 G_Band_lots C_Band (hr.mono (by decide)) (pv 0)) pa_nil)) pa_nil)) (pg_name (i := 4) nd rfl (Or.inl rfl))
    (pss_cons (ps_set (i := 5) nd rfl (Or.inr rfl) (pe_df 0 G_mask_of (hr.mono (by decide)) (by rfl) (pa_cons (pv 4) pa_nil)))
    (pss_cons (ps_set (i := 6) nd rfl (Or.inl rfl) (pe_op op_subU (pe_dget h1 (pv 1) (pv 4) (fun _ _ => rfl)) (pe_callB (cr_sum rfl) (by rfl) B.f_sum (by decide +kernel) (pa_cons (pe_lc (own := [("above", 7), ("other", 8)]) rfl nd (pi_src (pv 3)) (blkOk_by (own := [("above", 7), ("other", 8)]) (N := n_parts_of_sums) (sc := defScope s_parts_of_sums) (by decide +kernel)) (fun _ _ _ _ _ => (pg_tup (by rfl) (pgs_cons (pg_name (i := 7) nd rfl (Or.inl rfl)) (pgs_cons (pg_name (i := 8) nd rfl (Or.inl rfl)) pgs_nil)))) (fun _ _ _ _ _ => (pts_one (pt_cmpR (op_eqU hu) (pe_op op_andU (pv 7) (pv 5)) (pv 5) (nomark _)))) (fun _ _ _ _ _ => (pv 8))) pa_nil))))
    (pss_cons (ps_expr (pe_bm PySem.F.plainAttrs_list PySem.F.slot_list_append PySem.F.type_list_append mt_append (pv 3) (pa_cons (pe_tup (pa_cons (pv 5) (pa_cons (pv 6) pa_nil))) pa_nil)))
    (pss_one (ps_dput h1 (pv 2) (pv 4) (pv 6) rfl))))))
    (pss_one (ps_ret (pe_dc (own := [("lot", 4)]) rfl nd (pi_src (pe_dm0 G_Band_lots C_Band (hr.mono (by decide)) (pv 0))) (blkOk_by (own := [("lot", 4)]) (N := n_parts_of_sums) (sc := defScope s_parts_of_sums) (by decide +kernel)) (fun _ _ _ _ _ => (pg_name (i := 4) nd rfl (Or.inl rfl))) (fun _ _ _ _ _ => pts_nil) (fun _ _ _ _ _ => (pv 4)) (fun _ _ _ _ _ => (pe_dget h1 (pv 2) (pv 4) (fun _ _ => rfl)))))))))

def t_signed_counts (K : PySem.W.Frag) (sp_Band_lots sp_parts_of_sums : Sp) : TS := (tRet (tCall sp_parts_of_sums (([] : List V).drop 0) E0 (tCons (tVar 0) (tCons (tDc (iSrc K (tMeth (He.ga K "Band") "lots" sp_Band_lots ([] : List V) E0 (tVar 0) tNil)) (gName 1) tYes (tVar 1) (tIf (tTest (tOp (rInU K) (tC (.str (T [46]))) (tVar 1))) (tC (.int 0)) (tC (.int 1))) [1]) tNil))))

theorem w_signed_counts (B : Bl mg)  (C_Band : ClsF K "Band" fl_Band)   {sp_Band_lots : Sp} (G_Band_lots : DfM P w K mg base 1 "Band" "lots" ["self"] ([] : List V) sp_Band_lots) {sp_parts_of_sums : Sp} (G_parts_of_sums : Df P w K mg base 2 "parts_of_sums" ["band", "sums"] [] sp_parts_of_sums) {f : Addr} {cdv : Value} {A : Around} {outer : List Env} {s : Shared} {H : Hp} {E : XK} (hr : Room 2 (A.deeper (envOfC "signed_counts" (defScope s_signed_counts) s.heap.objs.size f cdv))) :
    PSs (cxOf (L2.CX P w) P w K mg base n_signed_counts "signed_counts" (defScope s_signed_counts) f cdv A outer s H E).nox (defBody s_signed_counts) (t_signed_counts K sp_Band_lots sp_parts_of_sums) := by
  have nd := sc_signed_counts.nd
  have hu := hr.units
  have hv := units5 hr
  have h1 := units1 hr
  exact (pss_one (ps_ret (pe_df 0 G_parts_of_sums (hr.mono (by decide)) (by rfl) (pa_cons (pv 0) (pa_cons (pe_dc (own := [("lot", 1)]) rfl nd (pi_src (pe_dm0 G_Band_lots C_Band (hr.mono (by decide)) (pv 0))) (blkOk_by (own := [("lot", 1)]) (N := n_signed_counts) (sc := defScope s_signed_counts) (by decide +kernel)) (fun _ _ _ _ _ => (pg_name (i := 1) nd rfl (Or.inl rfl))) (fun _ _ _ _ _ => pts_nil) (fun _ _ _ _ _ => (pv 1)) (fun _ _ _ _ _ => (pe_ifExp (pt_cmpR (op_inU hv) (pe_strT (by decide +kernel)) (pv 1) (by rfl)) pe_int pe_int))) pa_nil)))))

def t_check_seeds (K : PySem.W.Frag) (sp_blank sp_is_row : Sp) : TS := (tSeq (tIfS (tNot (tB (tCB (rIsiT K) (tCons (tVar 1) (tCons (tTup (tCons (tC (.ty "list")) (tCons (tC (.ty "tuple")) tNil))) tNil))))) tNever tNext)
    (tSeq (tIfS (tTest (tOp rGtU (tCB (rLen K) (tCons (tVar 1) tNil)) (tC (.int 30)))) tNever tNext)
    (tSeq (tFor (iEnumS K (tCons (tVar 1) tNil)) (gTup K 2 (gCons (gName 2) (gCons (gName 3) gNil)))
    (tIfS (tOr (tNot (tB (tCall sp_is_row (([] : List V).drop 0) E0 (tCons (tVar 0) (tCons (tVar 3) tNil))))) (tOr (tTest (tOp (rEqU K) (tVar 3) (tCall sp_blank (([] : List V).drop 0) E0 (tCons (tCB (rLen K) (tCons (tVar 0) tNil)) tNil)))) (tTest (tOp (rInU K) (tVar 3) (tSl (rSlU K) (tVar 1) tNoPart (tPart (tVar 2))))))) tNever tNext))
    (tFor (iEnumS K (tCons (tVar 0) tNil)) (gTup K 2 (gCons (gName 2) (gCons (gName 4) gNil)))
    (tIfS (tB (tCB (rAll K) (tCons (tLc (iSrc K (tVar 1)) (gName 3) tYes (tOp (rEqU K) (tOp (rIx K) (tVar 3) (tVar 2)) (tC (.str (T [46])))) [3]) tNil))) tNever tNext)))))

theorem w_check_seeds (B : Bl mg)     {sp_blank : Sp} (G_blank : Df P w K mg base 1 "blank" ["many"] [] sp_blank) {sp_is_row : Sp} (G_is_row : Df P w K mg base 1 "is_row" ["cells", "value"] [] sp_is_row) {f : Addr} {cdv : Value} {A : Around} {outer : List Env} {s : Shared} {H : Hp} {E : XK} (hr : Room 1 (A.deeper (envOfC "check_seeds" (defScope s_check_seeds) s.heap.objs.size f cdv))) :
    PSs (cxOf (L2.CX P w) P w K mg base n_check_seeds "check_seeds" (defScope s_check_seeds) f cdv A outer s H E).nox (defBody s_check_seeds) (t_check_seeds K sp_blank sp_is_row) := by
  have nd := sc_check_seeds.nd
  have hu := hr.units
  have hv := units5 hr
  have h1 := units1 hr
  exact (pss_cons (ps_if (pt_not (pt_val (pe_callB call_isiT (by rfl) B.f_isinstance (by decide +kernel) (pa_cons (pv 1) (pa_cons (pe_tup (pa_cons (pe_bltn (by rfl) B.f_list (by decide +kernel) rfl) (pa_cons (pe_bltn (by rfl) B.f_tuple (by decide +kernel) rfl) pa_nil))) pa_nil))))) (pss_one ps_never) pss_nil)
    (pss_cons (ps_if (pt_cmpR op_gtU (pe_callB call_lenU (by rfl) B.f_len (by decide +kernel) (pa_cons (pv 1) pa_nil)) (pe_globI rfl B.c_MOST_SEEDS) (nomark _)) (pss_one ps_never) pss_nil)
    (pss_cons (ps_for PassesOwn.never rfl (pi_enumS (by rfl) B.f_enumerate (pa_cons (pv 1) pa_nil)) (pg_tup (by rfl) (pgs_cons (pg_name (i := 2) nd rfl (Or.inr rfl)) (pgs_cons (pg_name (i := 3) nd rfl (Or.inl rfl)) pgs_nil)))
    (pss_one (ps_if (PW.pt (pw_or (pt_not (pt_val (pe_df 0 G_is_row (hr.mono (by decide)) (by rfl) (pa_cons (pv 0) (pa_cons (pv 3) pa_nil))))) (pw_or (pt_cmpR (op_eqU hu) (pv 3) (pe_df 0 G_blank (hr.mono (by decide)) (by rfl) (pa_cons (pe_callB call_lenU (by rfl) B.f_len (by decide +kernel) (pa_cons (pv 0) pa_nil)) pa_nil)) (nomark _)) (pw_or1 (pt_cmpR (op_inU hv) (pv 3) (pe_slice sl_U (pv 1) po_none (po_some (pv 2))) (by rfl)))))) (pss_one ps_never) pss_nil)))
    (pss_one (ps_for PassesOwn.never rfl (pi_enumS (by rfl) B.f_enumerate (pa_cons (pv 0) pa_nil)) (pg_tup (by rfl) (pgs_cons (pg_name (i := 2) nd rfl (Or.inr rfl)) (pgs_cons (pg_name (i := 4) nd rfl (Or.inl rfl)) pgs_nil)))
    (pss_one (ps_if (pt_val (pe_callB (cr_all rfl) (by rfl) B.f_all (by decide +kernel) (pa_cons (pe_lc (own := [("seed", 3)]) rfl nd (pi_src (pv 1)) (blkOk_by (own := [("seed", 3)]) (N := n_check_seeds) (sc := defScope s_check_seeds) (by decide +kernel)) (fun _ _ _ _ _ => (pg_name (i := 3) nd rfl (Or.inl rfl))) (fun _ _ _ _ _ => pts_nil) (fun _ _ _ _ _ => (pe_cmpR (op_eqU hu) (pe_ix ix_seq (pv 3) (pv 2) (fun _ _ => rfl)) (pe_strT (by decide +kernel)) (nomark _)))) pa_nil))) (pss_one ps_never) pss_nil)))))))

def t_grown_rows (K : PySem.W.Frag) (sp_over : Sp) : TS := (tSeq (tAsg (tLst (tCons (tVar 1) tNil)) (gName 3))
    (tSeq (tAsg (tDisp [((tVar 1), (tC (.bl true)))]) (gName 4))
    (tSeq (tAsg (tC (.int 0)) (gName 5))
    (tSeq (tWhile (tAnd (tTest (tOp rLtU (tVar 5) (tCB (rLen K) (tCons (tVar 3) tNil)))) (tTest (tOp rLeU (tCB (rLen K) (tCons (tVar 3) tNil)) (tVar 2)))) (tSeq (tFor (iSrc K (tVar 0)) (gName 6)
    (tSeq (tAsg (tCall sp_over (([] : List V).drop 0) E0 (tCons (tVar 6) (tCons (tOp (rIx K) (tVar 3) (tVar 5)) tNil))) (gName 7))
    (tIfS (tB (tDNotIn (tVar 7) (tVar 4))) (tSeq (sDPut (tVar 4) (tVar 7) (tC (.bl true)))
    (tDrop (tBM K "list" rAppend (tVar 3) (tCons (tVar 7) tNil)))) tNext)))
    (tAsg (tOp (rAddU K) (tVar 5) (tC (.int 1))) (gName 5))))
    (tRet (tVar 3))))))

theorem w_grown_rows (B : Bl mg)     {sp_over : Sp} (G_over : Df P w K mg base 1 "over" ["newer", "older"] [] sp_over) {f : Addr} {cdv : Value} {A : Around} {outer : List Env} {s : Shared} {H : Hp} {E : XK} (hr : Room 1 (A.deeper (envOfC "grown_rows" (defScope s_grown_rows) s.heap.objs.size f cdv))) :
    PSs (cxOf (L2.CX P w) P w K mg base n_grown_rows "grown_rows" (defScope s_grown_rows) f cdv A outer s H E).nox (defBody s_grown_rows) (t_grown_rows K sp_over) := by
  have nd := sc_grown_rows.nd
  have hu := hr.units
  have hv := units5 hr
  have h1 := units1 hr
  exact (pss_cons (ps_set (i := 3) nd rfl (Or.inl rfl) (pe_lst (pa_cons (pv 1) pa_nil)))
    (pss_cons (ps_set (i := 4) nd rfl (Or.inl rfl) (pe_disp (pps_cons (pv 1) pe_bl pps_nil) (by rfl) (by rfl) nofun (by decide)))
    (pss_cons (ps_set (i := 5) nd rfl (Or.inl rfl) pe_int)
    (pss_cons (ps_while PassesOwn.never (PW.pt (pw_and (pt_cmpR op_ltU (pv 5) (pe_callB call_lenU (by rfl) B.f_len (by decide +kernel) (pa_cons (pv 3) pa_nil)) (nomark _)) (pw_and1 (pt_cmpR op_leU (pe_callB call_lenU (by rfl) B.f_len (by decide +kernel) (pa_cons (pv 3) pa_nil)) (pv 2) (nomark _))))) (pss_cons (ps_for PassesOwn.never rfl (pi_src (pv 0)) (pg_name (i := 6) nd rfl (Or.inl rfl))
    (pss_cons (ps_set (i := 7) nd rfl (Or.inl rfl) (pe_df 0 G_over (hr.mono (by decide)) (by rfl) (pa_cons (pv 6) (pa_cons (pe_ix ix_seq (pv 3) (pv 5) (fun _ _ => rfl)) pa_nil))))
    (pss_one (ps_if (pt_cmp (pc_dnotin h1 (pv 7) (pv 4)) (by rfl)) (pss_cons (ps_dput h1 (pv 4) (pv 7) pe_bl rfl)
    (pss_one (ps_expr (pe_bm PySem.F.plainAttrs_list PySem.F.slot_list_append PySem.F.type_list_append mt_append (pv 3) (pa_cons (pv 7) pa_nil))))) pss_nil))))
    (pss_one (ps_set (i := 5) nd rfl (Or.inl rfl) (pe_op op_addU (pv 5) pe_int)))))
    (pss_one (ps_ret (pv 3)))))))

def t_Band___init__ (K : PySem.W.Frag) (sp_blank sp_check_cells sp_check_seeds sp_grown_rows sp_is_number sp_lot_of sp_ordered_lots : Sp) : TS := (tSeq (tDrop (tCall sp_check_cells (([] : List V).drop 0) E0 (tCons (tVar 1) tNil)))
    (tSeq (tDrop (tCall sp_check_seeds (([] : List V).drop 0) E0 (tCons (tVar 1) (tCons (tVar 2) tNil))))
    (tSeq (tIfS (tNot (tB (tCall sp_is_number (([] : List V).drop 0) E0 (tCons (tVar 3) (tCons (tC (.int 1)) (tCons (tC (.int 800)) tNil)))))) tNever tNext)
    (tSeq (tAsg (tCall sp_grown_rows (([] : List V).drop 0) E0 (tCons (tVar 2) (tCons (tCall sp_blank (([] : List V).drop 0) E0 (tCons (tCB (rLen K) (tCons (tVar 1) tNil)) tNil)) (tCons (tVar 3) tNil)))) (gName 4))
    (tSeq (tIfS (tTest (tOp rGtU (tCB (rLen K) (tCons (tVar 4) tNil)) (tVar 3))) tNever tNext)
    (tSeq (sFld K (tVar 0) (tCB (rList1 K) (tCons (tVar 1) tNil)) "cell_list")
    (tSeq (sFld K (tVar 0) (tCB (rList1 K) (tCons (tVar 2) tNil)) "seed_list")
    (tSeq (sFld K (tVar 0) (tCB ((rSortedS K)) (tCons (tVar 4) tNil)) "row_list")
    (tSeq (sFld K (tVar 0) (tDc (iSrc K (tVar 4)) (gName 5) tYes (tVar 5) (tC (.bl true)) [5]) "known_rows")
    (sFld K (tVar 0) (tCall sp_ordered_lots (([] : List V).drop 0) E0 (tCons (tLc (iSrc K (tVar 4)) (gName 5) tYes (tCall sp_lot_of (([] : List V).drop 0) E0 (tCons (tVar 5) tNil)) [5]) tNil)) "lot_list"))))))))))

theorem w_Band___init__ (B : Bl mg)  (C_Band : ClsF K "Band" fl_Band)   {sp_blank : Sp} (G_blank : Df P w K mg base 1 "blank" ["many"] [] sp_blank) {sp_check_cells : Sp} (G_check_cells : Df P w K mg base 2 "check_cells" ["cells"] [] sp_check_cells) {sp_check_seeds : Sp} (G_check_seeds : Df P w K mg base 2 "check_seeds" ["cells", "seeds"] [] sp_check_seeds) {sp_grown_rows : Sp} (G_grown_rows : Df P w K mg base 2 "grown_rows" ["seeds", "first", "most"] [] sp_grown_rows) {sp_is_number : Sp} (G_is_number : Df P w K mg base 1 "is_number" ["value", "least", "most"] [] sp_is_number) {sp_lot_of : Sp} (G_lot_of : Df P w K mg base 1 "lot_of" ["row"] [] sp_lot_of) {sp_ordered_lots : Sp} (G_ordered_lots : Df P w K mg base 4 "ordered_lots" ["lots"] [] sp_ordered_lots) {f : Addr} {cdv : Value} {A : Around} {outer : List Env} {s : Shared} {H : Hp} {E : XK} (hr : Room 4 (A.deeper (envOfC "Band.__init__" (defScope s_Band___init__) s.heap.objs.size f cdv))) :
    PSs (cxOf (L2.CX P w) P w K mg base n_Band___init__ "Band.__init__" (defScope s_Band___init__) f cdv A outer s H E).nox (defBody s_Band___init__) (t_Band___init__ K sp_blank sp_check_cells sp_check_seeds sp_grown_rows sp_is_number sp_lot_of sp_ordered_lots) := by
  have nd := sc_Band___init__.nd
  have hu := hr.units
  have hv := units5 hr
  have h1 := units1 hr
  exact (pss_cons (ps_expr (pe_df 0 G_check_cells (hr.mono (by decide)) (by rfl) (pa_cons (pv 1) pa_nil)))
    (pss_cons (ps_expr (pe_df 0 G_check_seeds (hr.mono (by decide)) (by rfl) (pa_cons (pv 1) (pa_cons (pv 2) pa_nil))))
    (pss_cons (ps_if (pt_not (pt_val (pe_df 0 G_is_number (hr.mono (by decide)) (by rfl) (pa_cons (pv 3) (pa_cons pe_int (pa_cons (pe_globI rfl B.c_MOST_ROWS) pa_nil)))))) (pss_one ps_never) pss_nil)
    (pss_cons (ps_set (i := 4) nd rfl (Or.inl rfl) (pe_df 0 G_grown_rows (hr.mono (by decide)) (by rfl) (pa_cons (pv 2) (pa_cons (pe_df 0 G_blank (hr.mono (by decide)) (by rfl) (pa_cons (pe_callB call_lenU (by rfl) B.f_len (by decide +kernel) (pa_cons (pv 1) pa_nil)) pa_nil)) (pa_cons (pv 3) pa_nil)))))
    (pss_cons (ps_if (pt_cmpR op_gtU (pe_callB call_lenU (by rfl) B.f_len (by decide +kernel) (pa_cons (pv 4) pa_nil)) (pv 3) (nomark _)) (pss_one ps_never) pss_nil)
    (pss_cons (ps_fld (pv 0) (pe_callTy (call_listU rfl) (by rfl) B.f_list (by decide +kernel) (pa_cons (pv 1) pa_nil)) (by rfl))
    (pss_cons (ps_fld (pv 0) (pe_callTy (call_listU rfl) (by rfl) B.f_list (by decide +kernel) (pa_cons (pv 2) pa_nil)) (by rfl))
    (pss_cons (ps_fld (pv 0) (pe_callB cr_sortedS (by rfl) B.f_sorted (by decide +kernel) (pa_cons (pv 4) pa_nil)) (by rfl))
    (pss_cons (ps_fld (pv 0) (pe_dc (own := [("row", 5)]) rfl nd (pi_src (pv 4)) (blkOk_by (own := [("row", 5)]) (N := n_Band___init__) (sc := defScope s_Band___init__) (by decide +kernel)) (fun _ _ _ _ _ => (pg_name (i := 5) nd rfl (Or.inl rfl))) (fun _ _ _ _ _ => pts_nil) (fun _ _ _ _ _ => (pv 5)) (fun _ _ _ _ _ => pe_bl)) (by rfl))
    (pss_one (ps_fld (pv 0) (pe_df 0 G_ordered_lots (hr.mono (by decide)) (by rfl) (pa_cons (pe_lc (own := [("row", 5)]) rfl nd (pi_src (pv 4)) (blkOk_by (own := [("row", 5)]) (N := n_Band___init__) (sc := defScope s_Band___init__) (by decide +kernel)) (fun _ _ _ _ _ => (pg_name (i := 5) nd rfl (Or.inl rfl))) (fun _ _ _ _ _ => pts_nil) (fun _ _ _ _ _ => (pe_df 0 G_lot_of (hr.mono (by decide)) (by rfl) (pa_cons (pv 5) pa_nil)))) pa_nil)) (by rfl))))))))))))

def t_Band_rows (K : PySem.W.Frag) : TS := (tRet (tCB (rList1 K) (tCons (tFld K (tVar 0) "row_list") tNil)))

theorem w_Band_rows (B : Bl mg)  (C_Band : ClsF K "Band" fl_Band)    {f : Addr} {cdv : Value} {A : Around} {outer : List Env} {s : Shared} {H : Hp} {E : XK} (hr : Room 0 (A.deeper (envOfC "Band.rows" (defScope s_Band_rows) s.heap.objs.size f cdv))) :
    PSs (cxOf (L2.CX P w) P w K mg base n_Band_rows "Band.rows" (defScope s_Band_rows) f cdv A outer s H E).nox (defBody s_Band_rows) (t_Band_rows K ) := by
  have nd := sc_Band_rows.nd
  have hu := hr.units
  have hv := units5 hr
  have h1 := units1 hr
  exact (pss_one (ps_ret (pe_callTy (call_listU rfl) (by rfl) B.f_list (by decide +kernel) (pa_cons (pe_fld (pv 0) (by rfl)) pa_nil))))

def t_Band_lots (K : PySem.W.Frag) : TS := (tRet (tCB (rList1 K) (tCons (tFld K (tVar 0) "lot_list") tNil)))

theorem w_Band_lots (B : Bl mg)  (C_Band : ClsF K "Band" fl_Band)    {f : Addr} {cdv : Value} {A : Around} {outer : List Env} {s : Shared} {H : Hp} {E : XK} (hr : Room 0 (A.deeper (envOfC "Band.lots" (defScope s_Band_lots) s.heap.objs.size f cdv))) :
    PSs (cxOf (L2.CX P w) P w K mg base n_Band_lots "Band.lots" (defScope s_Band_lots) f cdv A outer s H E).nox (defBody s_Band_lots) (t_Band_lots K ) := by
  have nd := sc_Band_lots.nd
  have hu := hr.units
  have hv := units5 hr
  have h1 := units1 hr
  exact (pss_one (ps_ret (pe_callTy (call_listU rfl) (by rfl) B.f_list (by decide +kernel) (pa_cons (pe_fld (pv 0) (by rfl)) pa_nil))))

def t_cut_band (K : PySem.W.Frag) (sp_Band___init__ sp_blank sp_cut : Sp) : TS := (tSeq (tAsg (tLst tNil) (gName 3))
    (tSeq (tFor (iSrc K (tVar 1)) (gName 4)
    (tSeq (tAsg (tCall sp_cut (([] : List V).drop 0) E0 (tCons (tVar 4) (tCons (tVar 2) tNil))) (gName 5))
    (tIfS (tAnd (tTest (tOp (rNeU K) (tVar 5) (tCall sp_blank (([] : List V).drop 0) E0 (tCons (tCB (rLen K) (tCons (tVar 2) tNil)) tNil)))) (tTest (tOp (rNiU K) (tVar 5) (tVar 3)))) (tDrop (tBM K "list" rAppend (tVar 3) (tCons (tVar 5) tNil))) tNext)))
    (tRet (tMake (He.ga K "Band") sp_Band___init__ ([.int 800] : List V) E0 (tCons (tLc (iSrc K (tVar 2)) (gName 6) tYes (tOp (rIx K) (tVar 0) (tVar 6)) [6]) (tCons (tVar 3) tNil))))))

theorem w_cut_band (B : Bl mg)  (C_Band : ClsF K "Band" fl_Band)   {sp_Band___init__ : Sp} (G_Band___init__ : DfI P w K mg base 5 "Band" ["self", "cells", "seeds", "most"] ([.int 800] : List V) sp_Band___init__) {sp_blank : Sp} (G_blank : Df P w K mg base 1 "blank" ["many"] [] sp_blank) {sp_cut : Sp} (G_cut : Df P w K mg base 1 "cut" ["row", "places"] [] sp_cut) {f : Addr} {cdv : Value} {A : Around} {outer : List Env} {s : Shared} {H : Hp} {E : XK} (hr : Room 6 (A.deeper (envOfC "cut_band" (defScope s_cut_band) s.heap.objs.size f cdv))) :
    PSs (cxOf (L2.CX P w) P w K mg base n_cut_band "cut_band" (defScope s_cut_band) f cdv A outer s H E).nox (defBody s_cut_band) (t_cut_band K sp_Band___init__ sp_blank sp_cut) := by
  have nd := sc_cut_band.nd
  have hu := hr.units
  have hv := units5 hr
  have h1 := units1 hr
  exact (pss_cons (ps_set (i := 3) nd rfl (Or.inl rfl) (pe_lst pa_nil))
    (pss_cons (ps_for PassesOwn.never rfl (pi_src (pv 1)) (pg_name (i := 4) nd rfl (Or.inl rfl))
    (pss_cons (ps_set (i := 5) nd rfl (Or.inl rfl) (pe_df 0 G_cut (hr.mono (by decide)) (by rfl) (pa_cons (pv 4) (pa_cons (pv 2) pa_nil))))
    (pss_one (ps_if (PW.pt (pw_and (pt_cmpR (op_neU hu) (pv 5) (pe_df 0 G_blank (hr.mono (by decide)) (by rfl) (pa_cons (pe_callB call_lenU (by rfl) B.f_len (by decide +kernel) (pa_cons (pv 2) pa_nil)) pa_nil)) (nomark _)) (pw_and1 (pt_cmpR (op_niU hv) (pv 5) (pv 3) (by rfl))))) (pss_one (ps_expr (pe_bm PySem.F.plainAttrs_list PySem.F.slot_list_append PySem.F.type_list_append mt_append (pv 3) (pa_cons (pv 5) pa_nil)))) pss_nil))))
    (pss_one (ps_ret (pe_di G_Band___init__ (hr.mono (by decide)) (by rfl) (pa_cons (pe_lc (own := [("at", 6)]) rfl nd (pi_src (pv 2)) (blkOk_by (own := [("at", 6)]) (N := n_cut_band) (sc := defScope s_cut_band) (by decide +kernel)) (fun _ _ _ _ _ => (pg_name (i := 6) nd rfl (Or.inl rfl))) (fun _ _ _ _ _ => pts_nil) (fun _ _ _ _ _ => (pe_ix ix_seq (pv 0) (pv 6) (fun _ _ => rfl)))) (pa_cons (pv 3) pa_nil)))))))

def t__law_start (K : PySem.W.Frag) : TS := (tSeq (tAsg (tC (.int 420307)) (gName 1))
    (tSeq (tFor (iSrc K (tSl (rSlU K) (tVar 0) tNoPart (tPart (tC (.int 63))))) (gName 2)
    (tAsg (tOp rModU (tCB (rInt1) (tCons (tOp (rAddU K) (tOp (rAddU K) (tOp rMulU (tVar 1) (tC (.int 49297))) (tOp rModU (tCB (rInt1) (tCons (tVar 2) tNil)) (tC (.int 2147483587)))) (tC (.int 61))) tNil)) (tC (.int 2147483549))) (gName 1)))
    (tRet (tLst (tCons (tCB (rList1 K) (tCons (tSl (rSlU K) (tVar 0) tNoPart (tPart (tC (.int 63)))) tNil)) (tCons (tC (.int 0)) (tCons (tC (.int 0)) (tCons (tVar 1) (tCons (tC (.int 0)) tNil)))))))))

theorem w__law_start (B : Bl mg)      {f : Addr} {cdv : Value} {A : Around} {outer : List Env} {s : Shared} {H : Hp} {E : XK} (hr : Room 0 (A.deeper (envOfC "_law_start" (defScope s__law_start) s.heap.objs.size f cdv))) :
    PSs (cxOf (L2.CX P w) P w K mg base n__law_start "_law_start" (defScope s__law_start) f cdv A outer s H E).nox (defBody s__law_start) (t__law_start K ) := by
  have nd := sc__law_start.nd
  have hu := hr.units
  have hv := units5 hr
  have h1 := units1 hr
  exact (pss_cons (ps_set (i := 1) nd rfl (Or.inl rfl) pe_int)
    (pss_cons (ps_for PassesOwn.never rfl (pi_src (pe_slice sl_U (pv 0) po_none (po_some pe_int))) (pg_name (i := 2) nd rfl (Or.inl rfl))
    (pss_one (ps_set (i := 1) nd rfl (Or.inl rfl) (pe_op op_modU (pe_callTy call_intU (by rfl) B.f_int (by decide +kernel) (pa_cons (pe_op op_addU (pe_op op_addU (pe_op op_mulU (pv 1) pe_int) (pe_op op_modU (pe_callTy call_intU (by rfl) B.f_int (by decide +kernel) (pa_cons (pv 2) pa_nil)) pe_int)) pe_int) pa_nil)) pe_int))))
    (pss_one (ps_ret (pe_lst (pa_cons (pe_callTy (call_listU rfl) (by rfl) B.f_list (by decide +kernel) (pa_cons (pe_slice sl_U (pv 0) po_none (po_some pe_int)) pa_nil)) (pa_cons pe_int (pa_cons pe_int (pa_cons (pv 1) (pa_cons pe_int pa_nil))))))))))

def t__law_pull (K : PySem.W.Frag) : TS := (tSeq (tAsg (tOp (rAddU K) (tOp (rIx K) (tVar 0) (tC (.int 4))) (tC (.int 1))) (gSub (tVar 0) (tC (.int 4)) rSetL))
    (tSeq (tIfS (tAnd (tTest (tOp (rEqU K) (tOp (rIx K) (tVar 0) (tC (.int 2))) (tC (.int 0)))) (tTest (tOp rLtU (tOp (rIx K) (tVar 0) (tC (.int 1))) (tCB (rLen K) (tCons (tOp (rIx K) (tVar 0) (tC (.int 0))) tNil))))) (tSeq (tAsg (tTup (tCons (tOp (rIx K) (tOp (rIx K) (tVar 0) (tC (.int 0))) (tOp (rIx K) (tVar 0) (tC (.int 1)))) (tCons (tOp (rAddU K) (tOp (rIx K) (tVar 0) (tC (.int 1))) (tC (.int 1))) tNil))) (gTup K 2 (gCons (gName 2) (gCons (gSub (tVar 0) (tC (.int 1)) rSetL) gNil))))
    (tIfS (tTest (tOp rGeU (tVar 2) (tOp rPowU (tC (.int 10)) (tC (.int 18))))) (tAsg (tVar 2) (gSub (tVar 0) (tC (.int 2)) rSetL)) (tAsg (tOp rModU (tCB (rInt1) (tCons (tOp (rAddU K) (tOp (rAddU K) (tOp rMulU (tOp (rIx K) (tVar 0) (tC (.int 3))) (tC (.int 40343))) (tOp rMulU (tOp rModU (tCB (rInt1) (tCons (tVar 2) tNil)) (tC (.int 2147483579))) (tC (.int 587)))) (tC (.int 89))) tNil)) (tC (.int 2147483563))) (gSub (tVar 0) (tC (.int 3)) rSetL)))) tNext)
    (tSeq (tIfS (tTest (tOp rGtU (tOp (rIx K) (tVar 0) (tC (.int 2))) (tC (.int 0)))) (tSeq (tAsg (tTup (tCons (tOp rModU (tCB (rInt1) (tCons (tOp (rIx K) (tVar 0) (tC (.int 2))) tNil)) (tVar 1)) (tCons (tOp rDivU (tOp (rIx K) (tVar 0) (tC (.int 2))) (tVar 1)) tNil))) (gTup K 2 (gCons (gName 3) (gCons (gSub (tVar 0) (tC (.int 2)) rSetL) gNil))))
    (tRet (tVar 3))) tNext)
    (tSeq (tAsg (tCB (rInt1) (tCons (tOp (rIx K) (tVar 0) (tC (.int 3))) tNil)) (gName 4))
    (tSeq (tAsg (tOp rModU (tCB (rInt1) (tCons (tOp (rAddU K) (tOp (rAddU K) (tOp (rAddU K) (tOp rPowU (tVar 4) (tC (.int 3))) (tOp rMulU (tVar 4) (tC (.int 32003)))) (tOp rMulU (tOp (rIx K) (tVar 0) (tC (.int 4))) (tC (.int 1299721)))) (tC (.int 70001))) tNil)) (tC (.int 2147483563))) (gSub (tVar 0) (tC (.int 3)) rSetL))
    (tRet (tOp rModU (tCB (rInt1) (tCons (tOp (rAddU K) (tOp rDivU (tOp (rIx K) (tVar 0) (tC (.int 3))) (tC (.int 73))) (tOp rMulU (tOp rModU (tCB (rInt1) (tCons (tOp (rIx K) (tVar 0) (tC (.int 3))) tNil)) (tC (.int 8219))) (tC (.int 71)))) tNil)) (tVar 1))))))))

theorem w__law_pull (B : Bl mg)      {f : Addr} {cdv : Value} {A : Around} {outer : List Env} {s : Shared} {H : Hp} {E : XK} (hr : Room 0 (A.deeper (envOfC "_law_pull" (defScope s__law_pull) s.heap.objs.size f cdv))) :
    PSs (cxOf (L2.CX P w) P w K mg base n__law_pull "_law_pull" (defScope s__law_pull) f cdv A outer s H E).nox (defBody s__law_pull) (t__law_pull K ) := by
  have nd := sc__law_pull.nd
  have hu := hr.units
  have hv := units5 hr
  have h1 := units1 hr
  exact (pss_cons (ps_asg (pe_op op_addU (pe_ix ix_seq (pv 0) pe_int (fun _ _ => rfl)) pe_int) (pg_sub (pv 0) pe_int set_list))
    (pss_cons (ps_if (PW.pt (pw_and (pt_cmpR (op_eqU hu) (pe_ix ix_seq (pv 0) pe_int (fun _ _ => rfl)) pe_int (nomark _)) (pw_and1 (pt_cmpR op_ltU (pe_ix ix_seq (pv 0) pe_int (fun _ _ => rfl)) (pe_callB call_lenU (by rfl) B.f_len (by decide +kernel) (pa_cons (pe_ix ix_seq (pv 0) pe_int (fun _ _ => rfl)) pa_nil)) (nomark _))))) (pss_cons (ps_asg (pe_tup (pa_cons (pe_ix ix_seq (pe_ix ix_seq (pv 0) pe_int (fun _ _ => rfl)) (pe_ix ix_seq (pv 0) pe_int (fun _ _ => rfl)) (fun _ _ => rfl)) (pa_cons (pe_op op_addU (pe_ix ix_seq (pv 0) pe_int (fun _ _ => rfl)) pe_int) pa_nil))) (pg_tup (by rfl) (pgs_cons (pg_name (i := 2) nd rfl (Or.inl rfl)) (pgs_cons (pg_sub (pv 0) pe_int set_list) pgs_nil))))
    (pss_one (ps_if (pt_cmpR op_geU (pv 2) (pe_op op_powU pe_int pe_int) (nomark _)) (pss_one (ps_asg (pv 2) (pg_sub (pv 0) pe_int set_list))) (pss_one (ps_asg (pe_op op_modU (pe_callTy call_intU (by rfl) B.f_int (by decide +kernel) (pa_cons (pe_op op_addU (pe_op op_addU (pe_op op_mulU (pe_ix ix_seq (pv 0) pe_int (fun _ _ => rfl)) pe_int) (pe_op op_mulU (pe_op op_modU (pe_callTy call_intU (by rfl) B.f_int (by decide +kernel) (pa_cons (pv 2) pa_nil)) pe_int) pe_int)) pe_int) pa_nil)) pe_int) (pg_sub (pv 0) pe_int set_list)))))) pss_nil)
    (pss_cons (ps_if (pt_cmpR op_gtU (pe_ix ix_seq (pv 0) pe_int (fun _ _ => rfl)) pe_int (nomark _)) (pss_cons (ps_asg (pe_tup (pa_cons (pe_op op_modU (pe_callTy call_intU (by rfl) B.f_int (by decide +kernel) (pa_cons (pe_ix ix_seq (pv 0) pe_int (fun _ _ => rfl)) pa_nil)) (pv 1)) (pa_cons (pe_op op_divU (pe_ix ix_seq (pv 0) pe_int (fun _ _ => rfl)) (pv 1)) pa_nil))) (pg_tup (by rfl) (pgs_cons (pg_name (i := 3) nd rfl (Or.inl rfl)) (pgs_cons (pg_sub (pv 0) pe_int set_list) pgs_nil))))
    (pss_one (ps_ret (pv 3)))) pss_nil)
    (pss_cons (ps_set (i := 4) nd rfl (Or.inl rfl) (pe_callTy call_intU (by rfl) B.f_int (by decide +kernel) (pa_cons (pe_ix ix_seq (pv 0) pe_int (fun _ _ => rfl)) pa_nil)))
    (pss_cons (ps_asg (pe_op op_modU (pe_callTy call_intU (by rfl) B.f_int (by decide +kernel) (pa_cons (pe_op op_addU (pe_op op_addU (pe_op op_addU (pe_op op_powU (pv 4) pe_int) (pe_op op_mulU (pv 4) pe_int)) (pe_op op_mulU (pe_ix ix_seq (pv 0) pe_int (fun _ _ => rfl)) pe_int)) pe_int) pa_nil)) pe_int) (pg_sub (pv 0) pe_int set_list))
    (pss_one (ps_ret (pe_op op_modU (pe_callTy call_intU (by rfl) B.f_int (by decide +kernel) (pa_cons (pe_op op_addU (pe_op op_divU (pe_ix ix_seq (pv 0) pe_int (fun _ _ => rfl)) pe_int) (pe_op op_mulU (pe_op op_modU (pe_callTy call_intU (by rfl) B.f_int (by decide +kernel) (pa_cons (pe_ix ix_seq (pv 0) pe_int (fun _ _ => rfl)) pa_nil)) pe_int) pe_int)) pa_nil)) (pv 1)))))))))

def t__law_pick (K : PySem.W.Frag) (sp__law_pull : Sp) : TS := (tRet (tOp (rIx K) (tVar 1) (tCall sp__law_pull (([] : List V).drop 0) E0 (tCons (tVar 0) (tCons (tCB (rLen K) (tCons (tVar 1) tNil)) tNil)))))

theorem w__law_pick (B : Bl mg)     {sp__law_pull : Sp} (G__law_pull : Df P w K mg base 1 "_law_pull" ["_law_bag", "_law_many"] [] sp__law_pull) {f : Addr} {cdv : Value} {A : Around} {outer : List Env} {s : Shared} {H : Hp} {E : XK} (hr : Room 1 (A.deeper (envOfC "_law_pick" (defScope s__law_pick) s.heap.objs.size f cdv))) :
    PSs (cxOf (L2.CX P w) P w K mg base n__law_pick "_law_pick" (defScope s__law_pick) f cdv A outer s H E).nox (defBody s__law_pick) (t__law_pick K sp__law_pull) := by
  have nd := sc__law_pick.nd
  have hu := hr.units
  have hv := units5 hr
  have h1 := units1 hr
  exact (pss_one (ps_ret (pe_ix ix_seq (pv 1) (pe_df 0 G__law_pull (hr.mono (by decide)) (by rfl) (pa_cons (pv 0) (pa_cons (pe_callB call_lenU (by rfl) B.f_len (by decide +kernel) (pa_cons (pv 1) pa_nil)) pa_nil))) (fun _ _ => rfl))))

def t__law_taken (K : PySem.W.Frag) (sp__law_pull : Sp) : TS := (tSeq (tPar 3 4 (tCons (tCB (rList1 K) (tCons (tVar 1) tNil)) (tCons (tLst tNil) tNil)))
    (tSeq (tFor (iRng1 (tCons (tVar 2) tNil)) (gName 5)
    (tIfS (tTest (tOp (rNeU K) (tVar 3) (tLst tNil))) (tDrop (tBM K "list" rAppend (tVar 4) (tCons (tBM K "list" rPopAt (tVar 3) (tCons (tCall sp__law_pull (([] : List V).drop 0) E0 (tCons (tVar 0) (tCons (tCB (rLen K) (tCons (tVar 3) tNil)) tNil))) tNil)) tNil))) tNext))
    (tRet (tVar 4))))

theorem w__law_taken (B : Bl mg)     {sp__law_pull : Sp} (G__law_pull : Df P w K mg base 1 "_law_pull" ["_law_bag", "_law_many"] [] sp__law_pull) {f : Addr} {cdv : Value} {A : Around} {outer : List Env} {s : Shared} {H : Hp} {E : XK} (hr : Room 1 (A.deeper (envOfC "_law_taken" (defScope s__law_taken) s.heap.objs.size f cdv))) :
    PSs (cxOf (L2.CX P w) P w K mg base n__law_taken "_law_taken" (defScope s__law_taken) f cdv A outer s H E).nox (defBody s__law_taken) (t__law_taken K sp__law_pull) := by
  have nd := sc__law_taken.nd
  have hu := hr.units
  have hv := units5 hr
  have h1 := units1 hr
  exact (pss_cons (ps_par (i := 3) (j := 4) (by rfl) nd rfl rfl (by decide) rfl rfl (pa_cons (pe_callTy (call_listU rfl) (by rfl) B.f_list (by decide +kernel) (pa_cons (pv 1) pa_nil)) (pa_cons (pe_lst pa_nil) pa_nil)) (by rfl))
    (pss_cons (ps_for PassesOwn.never rfl (pi_range1 (by rfl) B.f_range (pa_cons (pv 2) pa_nil)) (pg_name (i := 5) nd rfl (Or.inl rfl))
    (pss_one (ps_if (pt_cmpR (op_neU hu) (pv 3) (pe_lst pa_nil) (nomark _)) (pss_one (ps_expr (pe_bm PySem.F.plainAttrs_list PySem.F.slot_list_append PySem.F.type_list_append mt_append (pv 4) (pa_cons (pe_bm PySem.F.plainAttrs_list PySem.F.slot_list_pop PySem.F.type_list_pop mt_popAt (pv 3) (pa_cons (pe_df 0 G__law_pull (hr.mono (by decide)) (by rfl) (pa_cons (pv 0) (pa_cons (pe_callB call_lenU (by rfl) B.f_len (by decide +kernel) (pa_cons (pv 3) pa_nil)) pa_nil))) pa_nil)) pa_nil)))) pss_nil)))
    (pss_one (ps_ret (pv 4)))))

def t__law_same (K : PySem.W.Frag) (sp__law_same : Sp) : TS := (tSeq (tIfS (tOr (tTest (tOp rIsN (tVar 1) (tC .non))) (tTest (tOp rIsN (tVar 0) (tC .non)))) (tRet (tAndV (tOp rIsN (tVar 1) (tC .non)) (tOp rIsN (tVar 0) (tC .non)))) tNext)
    (tSeq (tIfS (tOr (tB (tCB (rIsi K) (tCons (tVar 1) (tCons (tC (.ty "dict")) tNil)))) (tB (tCB (rIsi K) (tCons (tVar 0) (tCons (tC (.ty "dict")) tNil))))) (tSeq (tIfS (tOr (tNot (tB (tCB (rIsi K) (tCons (tVar 1) (tCons (tC (.ty "dict")) tNil))))) (tNot (tB (tCB (rIsi K) (tCons (tVar 0) (tCons (tC (.ty "dict")) tNil)))))) (tRet (tC (.bl false))) tNext)
    (tRet (tCall sp__law_same (([] : List V).drop 0) E0 (tCons (LiI.tListItems (tVar 0)) (tCons (LiI.tListItems (tVar 1)) tNil))))) tNext)
    (tSeq (tIfS (tB (tCB (rIsiT K) (tCons (tVar 1) (tCons (tTup (tCons (tC (.ty "list")) (tCons (tC (.ty "tuple")) tNil))) tNil)))) (tSeq (tIfS (tOr (tTest (tOp (rNeU K) (tCB (rIsi K) (tCons (tVar 0) (tCons (tC (.ty "list")) tNil))) (tCB (rIsi K) (tCons (tVar 1) (tCons (tC (.ty "list")) tNil))))) (tTest (tOp (rNeU K) (tCB (rIsi K) (tCons (tVar 0) (tCons (tC (.ty "tuple")) tNil))) (tCB (rIsi K) (tCons (tVar 1) (tCons (tC (.ty "tuple")) tNil)))))) (tRet (tC (.bl false))) tNext)
    (tRet (tAndV (tOp (rEqU K) (tCB (rLen K) (tCons (tVar 0) tNil)) (tCB (rLen K) (tCons (tVar 1) tNil))) (tCB (rAll K) (tCons (tLc (iZipS K (tCons (tVar 0) (tCons (tVar 1) tNil))) (gTup K 2 (gCons (gName 2) (gCons (gName 3) gNil))) tYes (tCall sp__law_same (([] : List V).drop 0) E0 (tCons (tVar 2) (tCons (tVar 3) tNil))) [2, 3]) tNil))))) tNext)
    (tSeq (tIfS (tOr (tB (tCB (rIsiT K) (tCons (tVar 0) (tCons (tTup (tCons (tC (.ty "list")) (tCons (tC (.ty "tuple")) tNil))) tNil)))) (tTest (tOp (rNeU K) (tCB (rIsi K) (tCons (tVar 0) (tCons (tC (.ty "bool")) tNil))) (tCB (rIsi K) (tCons (tVar 1) (tCons (tC (.ty "bool")) tNil)))))) (tRet (tC (.bl false))) tNext)
    (tSeq (tIfS (tOr (tTest (tOp (rNeU K) (tCB (rIsi K) (tCons (tVar 0) (tCons (tC (.ty "int")) tNil))) (tCB (rIsi K) (tCons (tVar 1) (tCons (tC (.ty "int")) tNil))))) (tTest (tOp (rNeU K) (tCB (rIsi K) (tCons (tVar 0) (tCons (tC (.ty "str")) tNil))) (tCB (rIsi K) (tCons (tVar 1) (tCons (tC (.ty "str")) tNil)))))) (tRet (tC (.bl false))) tNext)
    (tRet (tOp (rEqU K) (tVar 0) (tVar 1))))))))

theorem w__law_same {kk : Nat} (B : Bl mg)     {sp__law_same : Sp} (G__law_same : Df P w K mg base kk "_law_same" ["_law_found", "_law_due"] [] sp__law_same) {f : Addr} {cdv : Value} {A : Around} {outer : List Env} {s : Shared} {H : Hp} {E : XK} (hr : Room kk (A.deeper (envOfC "_law_same" (defScope s__law_same) s.heap.objs.size f cdv))) :
    PSs (cxOf (L2.CX P w) P w K mg base n__law_same "_law_same" (defScope s__law_same) f cdv A outer s H E).nox (defBody s__law_same) (t__law_same K sp__law_same) := by
  have nd := sc__law_same.nd
  have hu := hr.units
  have hv := units5 hr
  have h1 := units1 hr
  exact (pss_cons (ps_if (PW.pt (pw_or (pt_cmpR op_isN1 (pv 1) pe_non (nomark _)) (pw_or1 (pt_cmpR op_isN1 (pv 0) pe_non (nomark _))))) (pss_one (ps_ret (pe_and (pe_cmpR op_isN1 (pv 1) pe_non (nomark _)) (pe_one (pe_cmpR op_isN1 (pv 0) pe_non (nomark _)))))) pss_nil)
    (pss_cons (ps_if (PW.pt (pw_or (pt_val (pe_callB call_isi (by rfl) B.f_isinstance (by decide +kernel) (pa_cons (pv 1) (pa_cons (pe_bltn (by rfl) B.f_dict (by decide +kernel) rfl) pa_nil)))) (pw_or1 (pt_val (pe_callB call_isi (by rfl) B.f_isinstance (by decide +kernel) (pa_cons (pv 0) (pa_cons (pe_bltn (by rfl) B.f_dict (by decide +kernel) rfl) pa_nil))))))) (pss_cons (ps_if (PW.pt (pw_or (pt_not (pt_val (pe_callB call_isi (by rfl) B.f_isinstance (by decide +kernel) (pa_cons (pv 1) (pa_cons (pe_bltn (by rfl) B.f_dict (by decide +kernel) rfl) pa_nil))))) (pw_or1 (pt_not (pt_val (pe_callB call_isi (by rfl) B.f_isinstance (by decide +kernel) (pa_cons (pv 0) (pa_cons (pe_bltn (by rfl) B.f_dict (by decide +kernel) rfl) pa_nil)))))))) (pss_one (ps_ret pe_bl)) pss_nil)
    (pss_one (ps_ret (pe_df 0 G__law_same (hr.mono (Nat.le_refl _)) (by rfl) (pa_cons (LiI.pe_listItems rfl (pv 0) (by rfl) B.f_list (by decide +kernel)) (pa_cons (LiI.pe_listItems rfl (pv 1) (by rfl) B.f_list (by decide +kernel)) pa_nil)))))) pss_nil)
    (pss_cons (ps_if (pt_val (pe_callB call_isiT (by rfl) B.f_isinstance (by decide +kernel) (pa_cons (pv 1) (pa_cons (pe_tup (pa_cons (pe_bltn (by rfl) B.f_list (by decide +kernel) rfl) (pa_cons (pe_bltn (by rfl) B.f_tuple (by decide +kernel) rfl) pa_nil))) pa_nil)))) (pss_cons (ps_if (PW.pt (pw_or (pt_cmpR (op_neU hu) (pe_callB call_isi (by rfl) B.f_isinstance (by decide +kernel) (pa_cons (pv 0) (pa_cons (pe_bltn (by rfl) B.f_list (by decide +kernel) rfl) pa_nil))) (pe_callB call_isi (by rfl) B.f_isinstance (by decide +kernel) (pa_cons (pv 1) (pa_cons (pe_bltn (by rfl) B.f_list (by decide +kernel) rfl) pa_nil))) (nomark _)) (pw_or1 (pt_cmpR (op_neU hu) (pe_callB call_isi (by rfl) B.f_isinstance (by decide +kernel) (pa_cons (pv 0) (pa_cons (pe_bltn (by rfl) B.f_tuple (by decide +kernel) rfl) pa_nil))) (pe_callB call_isi (by rfl) B.f_isinstance (by decide +kernel) (pa_cons (pv 1) (pa_cons (pe_bltn (by rfl) B.f_tuple (by decide +kernel) rfl) pa_nil))) (nomark _))))) (pss_one (ps_ret pe_bl)) pss_nil)
    (pss_one (ps_ret (pe_and (pe_cmpR (op_eqU hu) (pe_callB call_lenU (by rfl) B.f_len (by decide +kernel) (pa_cons (pv 0) pa_nil)) (pe_callB call_lenU (by rfl) B.f_len (by decide +kernel) (pa_cons (pv 1) pa_nil)) (nomark _)) (pe_one (pe_callB (cr_all rfl) (by rfl) B.f_all (by decide +kernel) (pa_cons (pe_lc (own := [("_law_one", 2), ("_law_other", 3)]) rfl nd (pi_zipS (by rfl) B.f_zip (pa_cons (pv 0) (pa_cons (pv 1) pa_nil))) (blkOk_by (own := [("_law_one", 2), ("_law_other", 3)]) (N := n__law_same) (sc := defScope s__law_same) (by decide +kernel)) (fun _ _ _ _ _ => (pg_tup (by rfl) (pgs_cons (pg_name (i := 2) nd rfl (Or.inl rfl)) (pgs_cons (pg_name (i := 3) nd rfl (Or.inl rfl)) pgs_nil)))) (fun _ _ _ _ _ => pts_nil) (fun _ _ _ _ _ => (pe_df 0 G__law_same (hr.mono (Nat.le_refl _)) (by rfl) (pa_cons (pv 2) (pa_cons (pv 3) pa_nil))))) pa_nil))))))) pss_nil)
    (pss_cons (ps_if (PW.pt (pw_or (pt_val (pe_callB call_isiT (by rfl) B.f_isinstance (by decide +kernel) (pa_cons (pv 0) (pa_cons (pe_tup (pa_cons (pe_bltn (by rfl) B.f_list (by decide +kernel) rfl) (pa_cons (pe_bltn (by rfl) B.f_tuple (by decide +kernel) rfl) pa_nil))) pa_nil)))) (pw_or1 (pt_cmpR (op_neU hu) (pe_callB call_isi (by rfl) B.f_isinstance (by decide +kernel) (pa_cons (pv 0) (pa_cons (pe_bltn (by rfl) B.f_bool (by decide +kernel) rfl) pa_nil))) (pe_callB call_isi (by rfl) B.f_isinstance (by decide +kernel) (pa_cons (pv 1) (pa_cons (pe_bltn (by rfl) B.f_bool (by decide +kernel) rfl) pa_nil))) (nomark _))))) (pss_one (ps_ret pe_bl)) pss_nil)
    (pss_cons (ps_if (PW.pt (pw_or (pt_cmpR (op_neU hu) (pe_callB call_isi (by rfl) B.f_isinstance (by decide +kernel) (pa_cons (pv 0) (pa_cons (pe_bltn (by rfl) B.f_int (by decide +kernel) rfl) pa_nil))) (pe_callB call_isi (by rfl) B.f_isinstance (by decide +kernel) (pa_cons (pv 1) (pa_cons (pe_bltn (by rfl) B.f_int (by decide +kernel) rfl) pa_nil))) (nomark _)) (pw_or1 (pt_cmpR (op_neU hu) (pe_callB call_isi (by rfl) B.f_isinstance (by decide +kernel) (pa_cons (pv 0) (pa_cons (pe_bltn (by rfl) B.f_str (by decide +kernel) rfl) pa_nil))) (pe_callB call_isi (by rfl) B.f_isinstance (by decide +kernel) (pa_cons (pv 1) (pa_cons (pe_bltn (by rfl) B.f_str (by decide +kernel) rfl) pa_nil))) (nomark _))))) (pss_one (ps_ret pe_bl)) pss_nil)
    (pss_one (ps_ret (pe_cmpR (op_eqU hu) (pv 0) (pv 1) (nomark _)))))))))

def t__law_number (K : PySem.W.Frag) : TS := (tRet (tAndV (tCB (rIsi K) (tCons (tVar 0) (tCons (tC (.ty "int")) tNil))) (tNotV (tCB (rIsi K) (tCons (tVar 0) (tCons (tC (.ty "bool")) tNil))))))

theorem w__law_number (B : Bl mg)      {f : Addr} {cdv : Value} {A : Around} {outer : List Env} {s : Shared} {H : Hp} {E : XK} (hr : Room 0 (A.deeper (envOfC "_law_number" (defScope s__law_number) s.heap.objs.size f cdv))) :
    PSs (cxOf (L2.CX P w) P w K mg base n__law_number "_law_number" (defScope s__law_number) f cdv A outer s H E).nox (defBody s__law_number) (t__law_number K ) := by
  have nd := sc__law_number.nd
  have hu := hr.units
  have hv := units5 hr
  have h1 := units1 hr
  exact (pss_one (ps_ret (pe_and (pe_callB call_isi (by rfl) B.f_isinstance (by decide +kernel) (pa_cons (pv 0) (pa_cons (pe_bltn (by rfl) B.f_int (by decide +kernel) rfl) pa_nil))) (pe_one (pe_not (pe_callB call_isi (by rfl) B.f_isinstance (by decide +kernel) (pa_cons (pv 0) (pa_cons (pe_bltn (by rfl) B.f_bool (by decide +kernel) rfl) pa_nil))))))))

def t__law_ordered (K : PySem.W.Frag) : TS := (tSeq (tAsg (tLst tNil) (gName 1))
    (tSeq (tFor (iSrc K (tVar 0)) (gName 2)
    (tIfS (tTest (tOp (rNiU K) (tVar 2) (tVar 1))) (tDrop (tBM K "list" rInsert (tVar 1) (tCons (tCB (rLen K) (tCons (tLc (iSrc K (tVar 1)) (gName 3) (tTest (tOp (rLtD K) (tVar 3) (tVar 2))) (tVar 3) [3]) tNil)) (tCons (tVar 2) tNil)))) tNext))
    (tRet (tVar 1))))

theorem w__law_ordered (B : Bl mg)      {f : Addr} {cdv : Value} {A : Around} {outer : List Env} {s : Shared} {H : Hp} {E : XK} (hr : Room 0 (A.deeper (envOfC "_law_ordered" (defScope s__law_ordered) s.heap.objs.size f cdv))) :
    PSs (cxOf (L2.CX P w) P w K mg base n__law_ordered "_law_ordered" (defScope s__law_ordered) f cdv A outer s H E).nox (defBody s__law_ordered) (t__law_ordered K ) := by
  have nd := sc__law_ordered.nd
  have hu := hr.units
  have hv := units5 hr
  have h1 := units1 hr
  exact (pss_cons (ps_set (i := 1) nd rfl (Or.inl rfl) (pe_lst pa_nil))
    (pss_cons (ps_for PassesOwn.never rfl (pi_src (pv 0)) (pg_name (i := 2) nd rfl (Or.inr rfl))
    (pss_one (ps_if (pt_cmpR (op_niU hv) (pv 2) (pv 1) (by rfl)) (pss_one (ps_expr (pe_bm PySem.F.plainAttrs_list PySem.F.slot_list_insert PySem.F.type_list_insert mt_insertN (pv 1) (pa_cons (pe_callB call_lenU (by rfl) B.f_len (by decide +kernel) (pa_cons (pe_lc (own := [("_law_other", 3)]) rfl nd (pi_src (pv 1)) (blkOk_by (own := [("_law_other", 3)]) (N := n__law_ordered) (sc := defScope s__law_ordered) (by decide +kernel)) (fun _ _ _ _ _ => (pg_name (i := 3) nd rfl (Or.inl rfl))) (fun _ _ _ _ _ => (pts_one (pt_cmpR (op_ltD hu) (pv 3) (pv 2) (nomark _)))) (fun _ _ _ _ _ => (pv 3))) pa_nil)) (pa_cons (pv 2) pa_nil))))) pss_nil)))
    (pss_one (ps_ret (pv 1)))))

def t__law_over (K : PySem.W.Frag) : TS := (tRet (tM1 (rJoin K) (tC (.str (T []))) (tLc (iZipS K (tCons (tVar 0) (tCons (tVar 1) tNil))) (gTup K 2 (gCons (gName 2) (gCons (gName 3) gNil))) tYes (tIf (tTest (tOp (rNeU K) (tVar 2) (tC (.str (T [46]))))) (tVar 2) (tVar 3)) [2, 3])))

theorem w__law_over (B : Bl mg)      {f : Addr} {cdv : Value} {A : Around} {outer : List Env} {s : Shared} {H : Hp} {E : XK} (hr : Room 0 (A.deeper (envOfC "_law_over" (defScope s__law_over) s.heap.objs.size f cdv))) :
    PSs (cxOf (L2.CX P w) P w K mg base n__law_over "_law_over" (defScope s__law_over) f cdv A outer s H E).nox (defBody s__law_over) (t__law_over K ) := by
  have nd := sc__law_over.nd
  have hu := hr.units
  have hv := units5 hr
  have h1 := units1 hr
  exact (pss_one (ps_ret (pe_joinU (pe_strT (by decide +kernel)) (pe_lc (own := [("_law_a", 2), ("_law_b", 3)]) rfl nd (pi_zipS (by rfl) B.f_zip (pa_cons (pv 0) (pa_cons (pv 1) pa_nil))) (blkOk_by (own := [("_law_a", 2), ("_law_b", 3)]) (N := n__law_over) (sc := defScope s__law_over) (by decide +kernel)) (fun _ _ _ _ _ => (pg_tup (by rfl) (pgs_cons (pg_name (i := 2) nd rfl (Or.inl rfl)) (pgs_cons (pg_name (i := 3) nd rfl (Or.inl rfl)) pgs_nil)))) (fun _ _ _ _ _ => pts_nil) (fun _ _ _ _ _ => (pe_ifExp (pt_cmpR (op_neU hu) (pv 2) (pe_strT (by decide +kernel)) (nomark _)) (pv 2) (pv 3)))))))

def t__law_lot (K : PySem.W.Frag) : TS := (tRet (tM1 (rJoin K) (tC (.str (T []))) (tLc (iSrc K (tVar 0)) (gName 1) tYes (tIf (tTest (tOp (rEqU K) (tVar 1) (tC (.str (T [46]))))) (tC (.str (T [46]))) (tC (.str (T [43])))) [1])))

theorem w__law_lot (B : Bl mg)      {f : Addr} {cdv : Value} {A : Around} {outer : List Env} {s : Shared} {H : Hp} {E : XK} (hr : Room 0 (A.deeper (envOfC "_law_lot" (defScope s__law_lot) s.heap.objs.size f cdv))) :
    PSs (cxOf (L2.CX P w) P w K mg base n__law_lot "_law_lot" (defScope s__law_lot) f cdv A outer s H E).nox (defBody s__law_lot) (t__law_lot K ) := by
  have nd := sc__law_lot.nd
  have hu := hr.units
  have hv := units5 hr
  have h1 := units1 hr
  exact (pss_one (ps_ret (pe_joinU (pe_strT (by decide +kernel)) (pe_lc (own := [("_law_sign", 1)]) rfl nd (pi_src (pv 0)) (blkOk_by (own := [("_law_sign", 1)]) (N := n__law_lot) (sc := defScope s__law_lot) (by decide +kernel)) (fun _ _ _ _ _ => (pg_name (i := 1) nd rfl (Or.inl rfl))) (fun _ _ _ _ _ => pts_nil) (fun _ _ _ _ _ => (pe_ifExp (pt_cmpR (op_eqU hu) (pv 1) (pe_strT (by decide +kernel)) (nomark _)) (pe_strT (by decide +kernel)) (pe_strT (by decide +kernel))))))))

def t__law_within (K : PySem.W.Frag) : TS := (tRet (tCB (rAll K) (tCons (tLc (iZipS K (tCons (tVar 0) (tCons (tVar 1) tNil))) (gTup K 2 (gCons (gName 2) (gCons (gName 3) gNil))) tYes (tOrV (tOp (rEqU K) (tVar 2) (tC (.str (T [46])))) (tOp (rEqU K) (tVar 3) (tC (.str (T [43]))))) [2, 3]) tNil)))

theorem w__law_within (B : Bl mg)      {f : Addr} {cdv : Value} {A : Around} {outer : List Env} {s : Shared} {H : Hp} {E : XK} (hr : Room 0 (A.deeper (envOfC "_law_within" (defScope s__law_within) s.heap.objs.size f cdv))) :
    PSs (cxOf (L2.CX P w) P w K mg base n__law_within "_law_within" (defScope s__law_within) f cdv A outer s H E).nox (defBody s__law_within) (t__law_within K ) := by
  have nd := sc__law_within.nd
  have hu := hr.units
  have hv := units5 hr
  have h1 := units1 hr
  exact (pss_one (ps_ret (pe_callB (cr_all rfl) (by rfl) B.f_all (by decide +kernel) (pa_cons (pe_lc (own := [("_law_a", 2), ("_law_b", 3)]) rfl nd (pi_zipS (by rfl) B.f_zip (pa_cons (pv 0) (pa_cons (pv 1) pa_nil))) (blkOk_by (own := [("_law_a", 2), ("_law_b", 3)]) (N := n__law_within) (sc := defScope s__law_within) (by decide +kernel)) (fun _ _ _ _ _ => (pg_tup (by rfl) (pgs_cons (pg_name (i := 2) nd rfl (Or.inl rfl)) (pgs_cons (pg_name (i := 3) nd rfl (Or.inl rfl)) pgs_nil)))) (fun _ _ _ _ _ => pts_nil) (fun _ _ _ _ _ => (pe_or (pe_cmpR (op_eqU hu) (pv 2) (pe_strT (by decide +kernel)) (nomark _)) (pe_one (pe_cmpR (op_eqU hu) (pv 3) (pe_strT (by decide +kernel)) (nomark _)))))) pa_nil))))

def t__law_lots_of (K : PySem.W.Frag) (sp__law_lot sp__law_ordered : Sp) : TS := (tSeq (tAsg (tLc (iSrc K (tVar 0)) (gName 2) tYes (tTup (tCons (tM1 rCount (tCall sp__law_lot (([] : List V).drop 0) E0 (tCons (tVar 2) tNil)) (tC (.str (T [43])))) (tCons (tCall sp__law_lot (([] : List V).drop 0) E0 (tCons (tVar 2) tNil)) tNil))) [2]) (gName 1))
    (tRet (tLc (iSrc K (tCall sp__law_ordered (([] : List V).drop 0) E0 (tCons (tVar 1) tNil))) (gName 3) tYes (tOp (rIx K) (tVar 3) (tC (.int 1))) [3])))

theorem w__law_lots_of (B : Bl mg)     {sp__law_lot : Sp} (G__law_lot : Df P w K mg base 1 "_law_lot" ["_law_row"] [] sp__law_lot) {sp__law_ordered : Sp} (G__law_ordered : Df P w K mg base 1 "_law_ordered" ["_law_some"] [] sp__law_ordered) {f : Addr} {cdv : Value} {A : Around} {outer : List Env} {s : Shared} {H : Hp} {E : XK} (hr : Room 1 (A.deeper (envOfC "_law_lots_of" (defScope s__law_lots_of) s.heap.objs.size f cdv))) :
    PSs (cxOf (L2.CX P w) P w K mg base n__law_lots_of "_law_lots_of" (defScope s__law_lots_of) f cdv A outer s H E).nox (defBody s__law_lots_of) (t__law_lots_of K sp__law_lot sp__law_ordered) := by
  have nd := sc__law_lots_of.nd
  have hu := hr.units
  have hv := units5 hr
  have h1 := units1 hr
  exact (pss_cons (ps_setLc (i := 1) (own := [("_law_row", 2)]) rfl nd rfl rfl (sw_true rfl rfl rfl (by decide +kernel)) (pi_src (pv 0)) (blkOk_by (own := [("_law_row", 2)]) (N := n__law_lots_of) (sc := defScope s__law_lots_of) (by decide +kernel)) (fun _ _ _ _ _ => (pg_name (i := 2) nd rfl (Or.inl rfl))) (fun _ _ _ _ _ => pts_nil) (fun _ _ _ _ _ => (pe_tup (pa_cons (pe_countU (pe_df 0 G__law_lot (hr.mono (by decide)) (by rfl) (pa_cons (pv 2) pa_nil)) (pe_strT (by decide +kernel))) (pa_cons (pe_df 0 G__law_lot (hr.mono (by decide)) (by rfl) (pa_cons (pv 2) pa_nil)) pa_nil)))))
    (pss_one (ps_ret (pe_lc (own := [("_law_one", 3)]) rfl nd (pi_src (pe_df 0 G__law_ordered (hr.mono (by decide)) (by rfl) (pa_cons (pv 1) pa_nil))) (blkOk_by (own := [("_law_one", 3)]) (N := n__law_lots_of) (sc := defScope s__law_lots_of) (by decide +kernel)) (fun _ _ _ _ _ => (pg_name (i := 3) nd rfl (Or.inl rfl))) (fun _ _ _ _ _ => pts_nil) (fun _ _ _ _ _ => (pe_ix ix_seq (pv 3) pe_int (fun _ _ => rfl)))))))

def t__law_closure (K : PySem.W.Frag) (sp__law_ordered sp__law_over : Sp) : TS := (tSeq (tPar 3 4 (tCons (tLst (tCons (tOp rMulU (tC (.str (T [46]))) (tVar 0)) tNil)) (tCons (tDisp [((tOp rMulU (tC (.str (T [46]))) (tVar 0)), (tC (.bl true)))]) tNil)))
    (tSeq (tFor (iRng1 (tCons (tVar 2) tNil)) (gName 5)
    (tSeq (tIfS (tTest (tOp rGeU (tVar 5) (tCB (rLen K) (tCons (tVar 3) tNil)))) tBreak tNext)
    (tFor (iSrc K (tVar 1)) (gName 6)
    (tSeq (tAsg (tCall sp__law_over (([] : List V).drop 0) E0 (tCons (tVar 6) (tCons (tOp (rIx K) (tVar 3) (tVar 5)) tNil))) (gName 7))
    (tIfS (tB (tDNotIn (tVar 7) (tVar 4))) (tSeq (sDPut (tVar 4) (tVar 7) (tC (.bl true)))
    (tDrop (tBM K "list" rAppend (tVar 3) (tCons (tVar 7) tNil)))) tNext)))))
    (tRet (tIf (tTest (tOp rLeU (tCB (rLen K) (tCons (tVar 3) tNil)) (tVar 2))) (tCall sp__law_ordered (([] : List V).drop 0) E0 (tCons (tVar 3) tNil)) (tC .non)))))

theorem w__law_closure (B : Bl mg)     {sp__law_ordered : Sp} (G__law_ordered : Df P w K mg base 1 "_law_ordered" ["_law_some"] [] sp__law_ordered) {sp__law_over : Sp} (G__law_over : Df P w K mg base 1 "_law_over" ["_law_newer", "_law_older"] [] sp__law_over) {f : Addr} {cdv : Value} {A : Around} {outer : List Env} {s : Shared} {H : Hp} {E : XK} (hr : Room 1 (A.deeper (envOfC "_law_closure" (defScope s__law_closure) s.heap.objs.size f cdv))) :
    PSs (cxOf (L2.CX P w) P w K mg base n__law_closure "_law_closure" (defScope s__law_closure) f cdv A outer s H E).nox (defBody s__law_closure) (t__law_closure K sp__law_ordered sp__law_over) := by
  have nd := sc__law_closure.nd
  have hu := hr.units
  have hv := units5 hr
  have h1 := units1 hr
  exact (pss_cons (ps_par (i := 3) (j := 4) (by rfl) nd rfl rfl (by decide) rfl rfl (pa_cons (pe_lst (pa_cons (pe_op op_mulU (pe_strT (by decide +kernel)) (pv 0)) pa_nil)) (pa_cons (pe_disp (pps_cons (pe_op op_mulU (pe_strT (by decide +kernel)) (pv 0)) pe_bl pps_nil) (by rfl) (by rfl) nofun (by decide)) pa_nil)) (by rfl))
    (pss_cons (ps_for PassesOwn.never rfl (pi_range1 (by rfl) B.f_range (pa_cons (pv 2) pa_nil)) (pg_name (i := 5) nd rfl (Or.inl rfl))
    (pss_cons (ps_if (pt_cmpR op_geU (pv 5) (pe_callB call_lenU (by rfl) B.f_len (by decide +kernel) (pa_cons (pv 3) pa_nil)) (nomark _)) (pss_one ps_break) pss_nil)
    (pss_one (ps_for PassesOwn.never rfl (pi_src (pv 1)) (pg_name (i := 6) nd rfl (Or.inl rfl))
    (pss_cons (ps_set (i := 7) nd rfl (Or.inl rfl) (pe_df 0 G__law_over (hr.mono (by decide)) (by rfl) (pa_cons (pv 6) (pa_cons (pe_ix ix_seq (pv 3) (pv 5) (fun _ _ => rfl)) pa_nil))))
    (pss_one (ps_if (pt_cmp (pc_dnotin h1 (pv 7) (pv 4)) (by rfl)) (pss_cons (ps_dput h1 (pv 4) (pv 7) pe_bl rfl)
    (pss_one (ps_expr (pe_bm PySem.F.plainAttrs_list PySem.F.slot_list_append PySem.F.type_list_append mt_append (pv 3) (pa_cons (pv 7) pa_nil))))) pss_nil)))))))
    (pss_one (ps_ret (pe_ifExp (pt_cmpR op_leU (pe_callB call_lenU (by rfl) B.f_len (by decide +kernel) (pa_cons (pv 3) pa_nil)) (pv 2) (nomark _)) (pe_df 0 G__law_ordered (hr.mono (by decide)) (by rfl) (pa_cons (pv 3) pa_nil)) pe_non)))))

def t__law_told_all (K : PySem.W.Frag) : TS := (tSeq (tAsg (tLc (iSrc K (tVar 0)) (gName 6) tYes (tIf (tTest (tOp (rNeU K) (tVar 6) (tOp rMulU (tC (.str (T [46]))) (tCB (rLen K) (tCons (tVar 6) tNil))))) (tVar 6) (tOp (rAddU K) (tOp (rAddU K) (tSl (rSlU K) (tVar 6) tNoPart (tPart (tVar 2))) (tOp (rIx K) (tVar 1) (tVar 2))) (tSl (rSlU K) (tVar 6) (tPart (tOp (rAddU K) (tVar 2) (tC (.int 1)))) tNoPart))) [6]) (gName 3))
    (tSeq (tAsg (tOp (rIx K) (tVar 3) (tUn rNegU (tC (.int 1)))) (gName 4))
    (tSeq (tAsg (tLc (iRng1 (tCons (tCB (rLen K) (tCons (tVar 4) tNil)) tNil)) (gName 7) tYes (tIf (tB (tCB (rAny K) (tCons (tLc (iSrc K (tVar 3)) (gName 6) tYes (tOp (rNeU K) (tOp (rIx K) (tVar 6) (tVar 7)) (tC (.str (T [46])))) [6]) tNil))) (tOp (rIx K) (tVar 4) (tVar 7)) (tOp (rIx K) (tVar 1) (tVar 7))) [7]) (gName 5))
    (tSeq (tAsg (tM1 (rJoin K) (tC (.str (T []))) (tVar 5)) (gSub (tVar 3) (tUn rNegU (tC (.int 1))) rSetL))
    (tRet (tLc (iRng1 (tCons (tCB (rLen K) (tCons (tVar 3) tNil)) tNil)) (gName 8) (tTest (tOp (rNiU K) (tOp (rIx K) (tVar 3) (tVar 8)) (tSl (rSlU K) (tVar 3) tNoPart (tPart (tVar 8))))) (tOp (rIx K) (tVar 3) (tVar 8)) [8]))))))

theorem w__law_told_all (B : Bl mg)      {f : Addr} {cdv : Value} {A : Around} {outer : List Env} {s : Shared} {H : Hp} {E : XK} (hr : Room 0 (A.deeper (envOfC "_law_told_all" (defScope s__law_told_all) s.heap.objs.size f cdv))) :
    PSs (cxOf (L2.CX P w) P w K mg base n__law_told_all "_law_told_all" (defScope s__law_told_all) f cdv A outer s H E).nox (defBody s__law_told_all) (t__law_told_all K ) := by
  have nd := sc__law_told_all.nd
  have hu := hr.units
  have hv := units5 hr
  have h1 := units1 hr
  exact (pss_cons (ps_set (i := 3) nd rfl (Or.inr rfl) (pe_lc (own := [("_law_row", 6)]) rfl nd (pi_src (pv 0)) (blkOk_by (own := [("_law_row", 6)]) (N := n__law_told_all) (sc := defScope s__law_told_all) (by decide +kernel)) (fun _ _ _ _ _ => (pg_name (i := 6) nd rfl (Or.inl rfl))) (fun _ _ _ _ _ => pts_nil) (fun _ _ _ _ _ => (pe_ifExp (pt_cmpR (op_neU hu) (pv 6) (pe_op op_mulU (pe_strT (by decide +kernel)) (pe_callB call_lenU (by rfl) B.f_len (by decide +kernel) (pa_cons (pv 6) pa_nil))) (nomark _)) (pv 6) (pe_op op_addU (pe_op op_addU (pe_slice sl_U (pv 6) po_none (po_some (pv 2))) (pe_ix ix_seq (pv 1) (pv 2) (fun _ _ => rfl))) (pe_slice sl_U (pv 6) (po_some (pe_op op_addU (pv 2) pe_int)) po_none))))))
    (pss_cons (ps_set (i := 4) nd rfl (Or.inr rfl) (pe_ix ix_seq (pv 3) (pe_un un_negU pe_int) (fun _ _ => rfl)))
    (pss_cons (ps_setLc (i := 5) (own := [("_law_at", 7)]) rfl nd rfl rfl (sw_true rfl rfl rfl (by decide +kernel)) (pi_range1 (by rfl) B.f_range (pa_cons (pe_callB call_lenU (by rfl) B.f_len (by decide +kernel) (pa_cons (pv 4) pa_nil)) pa_nil)) (blkOk_by (own := [("_law_at", 7)]) (N := n__law_told_all) (sc := defScope s__law_told_all) (by decide +kernel)) (fun _ _ _ _ _ => (pg_name (i := 7) nd rfl (Or.inr rfl))) (fun _ _ _ _ _ => pts_nil) (fun _ _ _ _ _ => (pe_ifExp (pt_val (pe_callB (cr_any rfl) (by rfl) B.f_any (by decide +kernel) (pa_cons (pe_lc (own := [("_law_row", 6)]) rfl nd (pi_src (pv 3)) (by refine blkOk_by (own := [("_law_row", 6)]) (N := n__law_told_all) ?_; kernel_rfl) (fun _ _ _ _ _ => (pg_name (i := 6) nd rfl (Or.inl rfl))) (fun _ _ _ _ _ => pts_nil) (fun _ _ _ _ _ => (pe_cmpR (op_neU hu) (pe_ix ix_seq (pv 6) (pv 7) (fun _ _ => rfl)) (pe_strT (by decide +kernel)) (nomark _)))) pa_nil))) (pe_ix ix_seq (pv 4) (pv 7) (fun _ _ => rfl)) (pe_ix ix_seq (pv 1) (pv 7) (fun _ _ => rfl)))))
    (pss_cons (ps_asg (pe_joinU (pe_strT (by decide +kernel)) (pv 5)) (pg_sub (pv 3) (pe_un un_negU pe_int) set_list))
    (pss_one (ps_ret (pe_lc (own := [("_law_k", 8)]) rfl nd (pi_range1 (by rfl) B.f_range (pa_cons (pe_callB call_lenU (by rfl) B.f_len (by decide +kernel) (pa_cons (pv 3) pa_nil)) pa_nil)) (blkOk_by (own := [("_law_k", 8)]) (N := n__law_told_all) (sc := defScope s__law_told_all) (by decide +kernel)) (fun _ _ _ _ _ => (pg_name (i := 8) nd rfl (Or.inl rfl))) (fun _ _ _ _ _ => (pts_one (pt_cmpR (op_niU hv) (pe_ix ix_seq (pv 3) (pv 8) (fun _ _ => rfl)) (pe_slice sl_U (pv 3) po_none (po_some (pv 8))) (by rfl)))) (fun _ _ _ _ _ => (pe_ix ix_seq (pv 3) (pv 8) (fun _ _ => rfl))))))))))

def t__law_draw_name (K : PySem.W.Frag) (sp__law_pull : Sp) : TS := (tSeq (tAsg (tTup (tCons (tC (.str (T [113, 104, 122, 98, 109, 120, 101, 111, 107, 97, 117, 118, 114, 115, 100, 116, 103, 112, 119, 121, 102, 106, 110, 108, 99, 105]))) (tCons (tC (.str (T []))) tNil))) (gTup K 2 (gCons (gName 2) (gCons (gName 3) gNil))))
    (tSeq (tAsg (tOp (rAddU K) (tC (.int 1)) (tCall sp__law_pull (([] : List V).drop 0) E0 (tCons (tVar 0) (tCons (tC (.int 6)) tNil)))) (gName 4))
    (tSeq (tFor (iRng1 (tCons (tC (.int 2)) tNil)) (gName 5)
    (tSeq (tAsg (tCall sp__law_pull (([] : List V).drop 0) E0 (tCons (tVar 0) (tCons (tC (.int 17576)) tNil))) (gName 6))
    (tAsg (tOp (rAddU K) (tOp (rAddU K) (tOp (rAddU K) (tVar 3) (tOp (rIx K) (tVar 2) (tOp rModU (tCB (rInt1) (tCons (tVar 6) tNil)) (tC (.int 26))))) (tOp (rIx K) (tVar 2) (tOp rModU (tCB (rInt1) (tCons (tOp rDivU (tVar 6) (tC (.int 26))) tNil)) (tC (.int 26))))) (tOp (rIx K) (tVar 2) (tOp rModU (tCB (rInt1) (tCons (tOp rDivU (tVar 6) (tC (.int 676))) tNil)) (tC (.int 26))))) (gName 3))))
    (tSeq (tAsg (tSl (rSlU K) (tVar 3) tNoPart (tPart (tVar 4))) (gName 3))
    (tRet (tOp (rIx K) (tLc (iSrc K (tOp (rAddU K) (tLst (tCons (tVar 3) tNil)) (tLc (iSrc K (tVar 2)) (gName 8) tYes (tOp (rAddU K) (tVar 8) (tSl (rSlU K) (tVar 3) (tPart (tC (.int 1))) tNoPart)) [8]))) (gName 7) (tTest (tOp (rNiU K) (tVar 7) (tVar 1))) (tVar 7) [7]) (tC (.int 0))))))))

theorem w__law_draw_name (B : Bl mg)     {sp__law_pull : Sp} (G__law_pull : Df P w K mg base 1 "_law_pull" ["_law_bag", "_law_many"] [] sp__law_pull) {f : Addr} {cdv : Value} {A : Around} {outer : List Env} {s : Shared} {H : Hp} {E : XK} (hr : Room 1 (A.deeper (envOfC "_law_draw_name" (defScope s__law_draw_name) s.heap.objs.size f cdv))) :
    PSs (cxOf (L2.CX P w) P w K mg base n__law_draw_name "_law_draw_name" (defScope s__law_draw_name) f cdv A outer s H E).nox (defBody s__law_draw_name) (t__law_draw_name K sp__law_pull) := by
  have nd := sc__law_draw_name.nd
  have hu := hr.units
  have hv := units5 hr
  have h1 := units1 hr
  exact (pss_cons (ps_asg (pe_tup (pa_cons (pe_strT (by decide +kernel)) (pa_cons (pe_strT (by decide +kernel)) pa_nil))) (pg_tup (by rfl) (pgs_cons (pg_name (i := 2) nd rfl (Or.inl rfl)) (pgs_cons (pg_name (i := 3) nd rfl (Or.inr rfl)) pgs_nil))))
    (pss_cons (ps_set (i := 4) nd rfl (Or.inl rfl) (pe_op op_addU pe_int (pe_df 0 G__law_pull (hr.mono (by decide)) (by rfl) (pa_cons (pv 0) (pa_cons pe_int pa_nil)))))
    (pss_cons (ps_for PassesOwn.never rfl (pi_range1 (by rfl) B.f_range (pa_cons pe_int pa_nil)) (pg_name (i := 5) nd rfl (Or.inl rfl))
    (pss_cons (ps_set (i := 6) nd rfl (Or.inl rfl) (pe_df 0 G__law_pull (hr.mono (by decide)) (by rfl) (pa_cons (pv 0) (pa_cons pe_int pa_nil))))
    (pss_one (ps_set (i := 3) nd rfl (Or.inr rfl) (pe_op op_addU (pe_op op_addU (pe_op op_addU (pv 3) (pe_ix ix_seq (pv 2) (pe_op op_modU (pe_callTy call_intU (by rfl) B.f_int (by decide +kernel) (pa_cons (pv 6) pa_nil)) pe_int) (fun _ _ => rfl))) (pe_ix ix_seq (pv 2) (pe_op op_modU (pe_callTy call_intU (by rfl) B.f_int (by decide +kernel) (pa_cons (pe_op op_divU (pv 6) pe_int) pa_nil)) pe_int) (fun _ _ => rfl))) (pe_ix ix_seq (pv 2) (pe_op op_modU (pe_callTy call_intU (by rfl) B.f_int (by decide +kernel) (pa_cons (pe_op op_divU (pv 6) pe_int) pa_nil)) pe_int) (fun _ _ => rfl)))))))
    (pss_cons (ps_set (i := 3) nd rfl (Or.inr rfl) (pe_slice sl_U (pv 3) po_none (po_some (pv 4))))
    (pss_one (ps_ret (pe_ix ix_seq (pe_lc (own := [("_law_name", 7)]) rfl nd (pi_src (pe_op op_addU (pe_lst (pa_cons (pv 3) pa_nil)) (pe_lc (own := [("_law_letter", 8)]) rfl nd (pi_src (pv 2)) (blkOk_by (own := [("_law_letter", 8)]) (N := n__law_draw_name) (sc := defScope s__law_draw_name) (by decide +kernel)) (fun _ _ _ _ _ => (pg_name (i := 8) nd rfl (Or.inl rfl))) (fun _ _ _ _ _ => pts_nil) (fun _ _ _ _ _ => (pe_op op_addU (pv 8) (pe_slice sl_U (pv 3) (po_some pe_int) po_none)))))) (blkOk_by (own := [("_law_name", 7)]) (N := n__law_draw_name) (sc := defScope s__law_draw_name) (by decide +kernel)) (fun _ _ _ _ _ => (pg_name (i := 7) nd rfl (Or.inl rfl))) (fun _ _ _ _ _ => (pts_one (pt_cmpR (op_niU hv) (pv 7) (pv 1) (by rfl)))) (fun _ _ _ _ _ => (pv 7))) pe_int (fun _ _ => rfl))))))))

def t__law_draw_cells (K : PySem.W.Frag) (sp__law_draw_name sp__law_pick : Sp) : TS := (tSeq (tPar 3 4 (tCons (tCB (rList1 K) (tCons (tVar 2) tNil)) (tCons (tLst tNil) tNil)))
    (tSeq (tFor (iRng1 (tCons (tVar 1) tNil)) (gName 5)
    (tSeq (tDrop (tBM K "list" rAppend (tVar 3) (tCons (tCall sp__law_draw_name (([] : List V).drop 0) E0 (tCons (tVar 0) (tCons (tVar 3) tNil))) tNil)))
    (tDrop (tBM K "list" rAppend (tVar 4) (tCons (tTup (tCons (tOp (rIx K) (tVar 3) (tUn rNegU (tC (.int 1)))) (tCons (tCall sp__law_pick (([] : List V).drop 0) E0 (tCons (tVar 0) (tCons (tTup (tCons (tC (.int 2)) (tCons (tC (.int 3)) (tCons (tC (.int 2)) (tCons (tC (.int 1)) (tCons (tC (.int 3)) (tCons (tC (.int 2)) (tCons (tC (.int 4)) tNil)))))))) tNil))) tNil))) tNil)))))
    (tRet (tVar 4))))

theorem w__law_draw_cells (B : Bl mg)     {sp__law_draw_name : Sp} (G__law_draw_name : Df P w K mg base 2 "_law_draw_name" ["_law_bag", "_law_names"] [] sp__law_draw_name) {sp__law_pick : Sp} (G__law_pick : Df P w K mg base 2 "_law_pick" ["_law_bag", "_law_some"] [] sp__law_pick) {f : Addr} {cdv : Value} {A : Around} {outer : List Env} {s : Shared} {H : Hp} {E : XK} (hr : Room 2 (A.deeper (envOfC "_law_draw_cells" (defScope s__law_draw_cells) s.heap.objs.size f cdv))) :
    PSs (cxOf (L2.CX P w) P w K mg base n__law_draw_cells "_law_draw_cells" (defScope s__law_draw_cells) f cdv A outer s H E).nox (defBody s__law_draw_cells) (t__law_draw_cells K sp__law_draw_name sp__law_pick) := by
  have nd := sc__law_draw_cells.nd
  have hu := hr.units
  have hv := units5 hr
  have h1 := units1 hr
  exact (pss_cons (ps_par (i := 3) (j := 4) (by rfl) nd rfl rfl (by decide) rfl rfl (pa_cons (pe_callTy (call_listU rfl) (by rfl) B.f_list (by decide +kernel) (pa_cons (pv 2) pa_nil)) (pa_cons (pe_lst pa_nil) pa_nil)) (by rfl))
    (pss_cons (ps_for PassesOwn.never rfl (pi_range1 (by rfl) B.f_range (pa_cons (pv 1) pa_nil)) (pg_name (i := 5) nd rfl (Or.inl rfl))
    (pss_cons (ps_expr (pe_bm PySem.F.plainAttrs_list PySem.F.slot_list_append PySem.F.type_list_append mt_append (pv 3) (pa_cons (pe_df 0 G__law_draw_name (hr.mono (by decide)) (by rfl) (pa_cons (pv 0) (pa_cons (pv 3) pa_nil))) pa_nil)))
    (pss_one (ps_expr (pe_bm PySem.F.plainAttrs_list PySem.F.slot_list_append PySem.F.type_list_append mt_append (pv 4) (pa_cons (pe_tup (pa_cons (pe_ix ix_seq (pv 3) (pe_un un_negU pe_int) (fun _ _ => rfl)) (pa_cons (pe_df 0 G__law_pick (hr.mono (by decide)) (by rfl) (pa_cons (pv 0) (pa_cons (pe_tup (pa_cons pe_int (pa_cons pe_int (pa_cons pe_int (pa_cons pe_int (pa_cons pe_int (pa_cons pe_int (pa_cons pe_int pa_nil)))))))) pa_nil))) pa_nil))) pa_nil))))))
    (pss_one (ps_ret (pv 4)))))

def t__law_draw_band (K : PySem.W.Frag) (sp__law_closure sp__law_draw_cells sp__law_pick sp__law_pull sp__law_told_all : Sp) : TS := (tSeq (tAsg (tCall sp__law_draw_cells (([] : List V).drop 0) E0 (tCons (tVar 0) (tCons (tVar 1) (tCons (tVar 2) tNil)))) (gName 5))
    (tSeq (tAsg (tM1 (rJoin K) (tC (.str (T []))) (tLc (iSrc K (tVar 5)) (gName 14) tYes (tCB (rStr1) (tCons (tCall sp__law_pull (([] : List V).drop 0) E0 (tCons (tVar 0) (tCons (tOp (rIx K) (tVar 14) (tC (.int 1))) tNil))) tNil)) [14])) (gName 6))
    (tSeq (tAsg (tTup (tCons (tCall sp__law_pull (([] : List V).drop 0) E0 (tCons (tVar 0) (tCons (tVar 1) tNil))) (tCons (tCall sp__law_pick (([] : List V).drop 0) E0 (tCons (tVar 0) (tCons (tTup (tCons (tC (.int 3)) (tCons (tC (.int 2)) (tCons (tC (.int 3)) (tCons (tC (.int 4)) (tCons (tC (.int 3)) (tCons (tC (.int 1)) tNil))))))) tNil))) (tCons (tLst tNil) tNil)))) (gTup K 3 (gCons (gName 7) (gCons (gName 8) (gCons (gName 9) gNil)))))
    (tSeq (tFor (iRng1 (tCons (tCall sp__law_pick (([] : List V).drop 0) E0 (tCons (tVar 0) (tCons (tTup (tCons (tC (.int 4)) (tCons (tC (.int 5)) (tCons (tC (.int 3)) (tCons (tC (.int 5)) (tCons (tC (.int 4)) (tCons (tC (.int 2)) (tCons (tC (.int 6)) (tCons (tC (.int 1)) tNil))))))))) tNil))) tNil)) (gName 10)
    (tSeq (tAsg (tLc (iSrc K (tVar 5)) (gName 14) tYes (tCall sp__law_pull (([] : List V).drop 0) E0 (tCons (tVar 0) (tCons (tOp rMulU (tC (.int 5)) (tOp (rIx K) (tVar 14) (tC (.int 1)))) tNil))) [14]) (gName 11))
    (tDrop (tBM K "list" rAppend (tVar 9) (tCons (tM1 (rJoin K) (tC (.str (T []))) (tLc (iSrc K (tVar 11)) (gName 15) tYes (tIf (tTest (tOp rLtU (tOp rModU (tCB (rInt1) (tCons (tVar 15) tNil)) (tC (.int 5))) (tVar 8))) (tC (.str (T [46]))) (tCB (rStr1) (tCons (tOp rDivU (tVar 15) (tC (.int 5))) tNil))) [15])) tNil)))))
    (tSeq (tAsg (tCall sp__law_told_all (([] : List V).drop 0) E0 (tCons (tVar 9) (tCons (tVar 6) (tCons (tVar 7) tNil)))) (gName 12))
    (tSeq (tAsg (tCall sp__law_closure (([] : List V).drop 0) E0 (tCons (tVar 1) (tCons (tVar 12) (tCons (tVar 3) tNil)))) (gName 13))
    (tSeq (tIfS (tTest (tOp rIsN (tVar 13) (tC .non))) (tSeq (tAsg (tCall sp__law_told_all (([] : List V).drop 0) E0 (tCons (tSl (rSlU K) (tVar 9) tNoPart (tPart (tVar 4))) (tCons (tVar 6) (tCons (tVar 7) tNil)))) (gName 12))
    (tAsg (tCall sp__law_closure (([] : List V).drop 0) E0 (tCons (tVar 1) (tCons (tVar 12) (tCons (tVar 3) tNil)))) (gName 13))) tNext)
    (tRet (tLst (tCons (tVar 5) (tCons (tVar 12) (tCons (tVar 13) tNil))))))))))))

theorem w__law_draw_band (B : Bl mg)     {sp__law_closure : Sp} (G__law_closure : Df P w K mg base 2 "_law_closure" ["_law_size", "_law_given", "_law_limit"] [] sp__law_closure) {sp__law_draw_cells : Sp} (G__law_draw_cells : Df P w K mg base 3 "_law_draw_cells" ["_law_bag", "_law_size", "_law_taken_here"] [] sp__law_draw_cells) {sp__law_pick : Sp} (G__law_pick : Df P w K mg base 2 "_law_pick" ["_law_bag", "_law_some"] [] sp__law_pick) {sp__law_pull : Sp} (G__law_pull : Df P w K mg base 1 "_law_pull" ["_law_bag", "_law_many"] [] sp__law_pull) {sp__law_told_all : Sp} (G__law_told_all : Df P w K mg base 1 "_law_told_all" ["_law_given", "_law_filler", "_law_place"] [] sp__law_told_all) {f : Addr} {cdv : Value} {A : Around} {outer : List Env} {s : Shared} {H : Hp} {E : XK} (hr : Room 3 (A.deeper (envOfC "_law_draw_band" (defScope s__law_draw_band) s.heap.objs.size f cdv))) :
    PSs (cxOf (L2.CX P w) P w K mg base n__law_draw_band "_law_draw_band" (defScope s__law_draw_band) f cdv A outer s H E).nox (defBody s__law_draw_band) (t__law_draw_band K sp__law_closure sp__law_draw_cells sp__law_pick sp__law_pull sp__law_told_all) := by
  have nd := sc__law_draw_band.nd
  have hu := hr.units
  have hv := units5 hr
  have h1 := units1 hr
  exact (pss_cons (ps_set (i := 5) nd rfl (Or.inl rfl) (pe_df 0 G__law_draw_cells (hr.mono (by decide)) (by rfl) (pa_cons (pv 0) (pa_cons (pv 1) (pa_cons (pv 2) pa_nil)))))
    (pss_cons (ps_set (i := 6) nd rfl (Or.inl rfl) (pe_joinU (pe_strT (by decide +kernel)) (pe_lc (own := [("_law_cell", 14)]) rfl nd (pi_src (pv 5)) (blkOk_by (own := [("_law_cell", 14)]) (N := n__law_draw_band) (sc := defScope s__law_draw_band) (by decide +kernel)) (fun _ _ _ _ _ => (pg_name (i := 14) nd rfl (Or.inl rfl))) (fun _ _ _ _ _ => pts_nil) (fun _ _ _ _ _ => (pe_callTy call_strU (by rfl) B.f_str (by decide +kernel) (pa_cons (pe_df 0 G__law_pull (hr.mono (by decide)) (by rfl) (pa_cons (pv 0) (pa_cons (pe_ix ix_seq (pv 14) pe_int (fun _ _ => rfl)) pa_nil))) pa_nil))))))
    (pss_cons (ps_asg (pe_tup (pa_cons (pe_df 0 G__law_pull (hr.mono (by decide)) (by rfl) (pa_cons (pv 0) (pa_cons (pv 1) pa_nil))) (pa_cons (pe_df 0 G__law_pick (hr.mono (by decide)) (by rfl) (pa_cons (pv 0) (pa_cons (pe_tup (pa_cons pe_int (pa_cons pe_int (pa_cons pe_int (pa_cons pe_int (pa_cons pe_int (pa_cons pe_int pa_nil))))))) pa_nil))) (pa_cons (pe_lst pa_nil) pa_nil)))) (pg_tup (by rfl) (pgs_cons (pg_name (i := 7) nd rfl (Or.inl rfl)) (pgs_cons (pg_name (i := 8) nd rfl (Or.inr rfl)) (pgs_cons (pg_name (i := 9) nd rfl (Or.inl rfl)) pgs_nil)))))
    (pss_cons (ps_for PassesOwn.never rfl (pi_range1 (by rfl) B.f_range (pa_cons (pe_df 0 G__law_pick (hr.mono (by decide)) (by rfl) (pa_cons (pv 0) (pa_cons (pe_tup (pa_cons pe_int (pa_cons pe_int (pa_cons pe_int (pa_cons pe_int (pa_cons pe_int (pa_cons pe_int (pa_cons pe_int (pa_cons pe_int pa_nil))))))))) pa_nil))) pa_nil)) (pg_name (i := 10) nd rfl (Or.inl rfl))
    (pss_cons (ps_setLc (i := 11) (own := [("_law_cell", 14)]) rfl nd rfl rfl (sw_true rfl rfl rfl (by decide +kernel)) (pi_src (pv 5)) (blkOk_by (own := [("_law_cell", 14)]) (N := n__law_draw_band) (sc := defScope s__law_draw_band) (by decide +kernel)) (fun _ _ _ _ _ => (pg_name (i := 14) nd rfl (Or.inl rfl))) (fun _ _ _ _ _ => pts_nil) (fun _ _ _ _ _ => (pe_df 0 G__law_pull (hr.mono (by decide)) (by rfl) (pa_cons (pv 0) (pa_cons (pe_op op_mulU pe_int (pe_ix ix_seq (pv 14) pe_int (fun _ _ => rfl))) pa_nil)))))
    (pss_one (ps_expr (pe_bm PySem.F.plainAttrs_list PySem.F.slot_list_append PySem.F.type_list_append mt_append (pv 9) (pa_cons (pe_joinU (pe_strT (by decide +kernel)) (pe_lc (own := [("_law_digit", 15)]) rfl nd (pi_src (pv 11)) (blkOk_by (own := [("_law_digit", 15)]) (N := n__law_draw_band) (sc := defScope s__law_draw_band) (by decide +kernel)) (fun _ _ _ _ _ => (pg_name (i := 15) nd rfl (Or.inl rfl))) (fun _ _ _ _ _ => pts_nil) (fun _ _ _ _ _ => (pe_ifExp (pt_cmpR op_ltU (pe_op op_modU (pe_callTy call_intU (by rfl) B.f_int (by decide +kernel) (pa_cons (pv 15) pa_nil)) pe_int) (pv 8) (nomark _)) (pe_strT (by decide +kernel)) (pe_callTy call_strU (by rfl) B.f_str (by decide +kernel) (pa_cons (pe_op op_divU (pv 15) pe_int) pa_nil)))))) pa_nil))))))
    (pss_cons (ps_set (i := 12) nd rfl (Or.inl rfl) (pe_df 0 G__law_told_all (hr.mono (by decide)) (by rfl) (pa_cons (pv 9) (pa_cons (pv 6) (pa_cons (pv 7) pa_nil)))))
    (pss_cons (ps_set (i := 13) nd rfl (Or.inl rfl) (pe_df 0 G__law_closure (hr.mono (by decide)) (by rfl) (pa_cons (pv 1) (pa_cons (pv 12) (pa_cons (pv 3) pa_nil)))))
    (pss_cons (ps_if (pt_cmpR op_isN1 (pv 13) pe_non (nomark _)) (pss_cons (ps_set (i := 12) nd rfl (Or.inl rfl) (pe_df 0 G__law_told_all (hr.mono (by decide)) (by rfl) (pa_cons (pe_slice sl_U (pv 9) po_none (po_some (pv 4))) (pa_cons (pv 6) (pa_cons (pv 7) pa_nil)))))
    (pss_one (ps_set (i := 13) nd rfl (Or.inl rfl) (pe_df 0 G__law_closure (hr.mono (by decide)) (by rfl) (pa_cons (pv 1) (pa_cons (pv 12) (pa_cons (pv 3) pa_nil))))))) pss_nil)
    (pss_one (ps_ret (pe_lst (pa_cons (pv 5) (pa_cons (pv 12) (pa_cons (pv 13) pa_nil)))))))))))))

def t__law_draw_world (K : PySem.W.Frag) (sp__law_draw_band sp__law_pick : Sp) : TS := (tRet (tCall sp__law_draw_band (([] : List V).drop 0) E0 (tCons (tVar 0) (tCons (tCall sp__law_pick (([] : List V).drop 0) E0 (tCons (tVar 0) (tCons (tTup (tCons (tC (.int 4)) (tCons (tC (.int 3)) (tCons (tC (.int 5)) (tCons (tC (.int 4)) (tCons (tC (.int 2)) (tCons (tC (.int 3)) (tCons (tC (.int 5)) (tCons (tC (.int 6)) (tCons (tC (.int 4)) (tCons (tC (.int 1)) tNil))))))))))) tNil))) (tCons (tLst tNil) (tCons (tC (.int 40)) (tCons (tC (.int 3)) tNil)))))))

theorem w__law_draw_world (B : Bl mg)     {sp__law_draw_band : Sp} (G__law_draw_band : Df P w K mg base 4 "_law_draw_band" ["_law_bag", "_law_size", "_law_taken_here", "_law_limit", "_law_few"] [] sp__law_draw_band) {sp__law_pick : Sp} (G__law_pick : Df P w K mg base 2 "_law_pick" ["_law_bag", "_law_some"] [] sp__law_pick) {f : Addr} {cdv : Value} {A : Around} {outer : List Env} {s : Shared} {H : Hp} {E : XK} (hr : Room 4 (A.deeper (envOfC "_law_draw_world" (defScope s__law_draw_world) s.heap.objs.size f cdv))) :
    PSs (cxOf (L2.CX P w) P w K mg base n__law_draw_world "_law_draw_world" (defScope s__law_draw_world) f cdv A outer s H E).nox (defBody s__law_draw_world) (t__law_draw_world K sp__law_draw_band sp__law_pick) := by
  have nd := sc__law_draw_world.nd
  have hu := hr.units
  have hv := units5 hr
  have h1 := units1 hr
  exact (pss_one (ps_ret (pe_df 0 G__law_draw_band (hr.mono (by decide)) (by rfl) (pa_cons (pv 0) (pa_cons (pe_df 0 G__law_pick (hr.mono (by decide)) (by rfl) (pa_cons (pv 0) (pa_cons (pe_tup (pa_cons pe_int (pa_cons pe_int (pa_cons pe_int (pa_cons pe_int (pa_cons pe_int (pa_cons pe_int (pa_cons pe_int (pa_cons pe_int (pa_cons pe_int (pa_cons pe_int pa_nil))))))))))) pa_nil))) (pa_cons (pe_lst pa_nil) (pa_cons pe_int (pa_cons pe_int pa_nil))))))))

def t__law_in_order (K : PySem.W.Frag) : TS := (tSeq (tAsg tDNewK (gName 2))
    (tSeq (tFor (iSrc K (tVar 0)) (gName 3)
    (sDPut (tVar 2) (tVar 3) (tDGet (tVar 1) (tVar 3))))
    (tRet (tVar 2))))

theorem w__law_in_order (B : Bl mg)      {f : Addr} {cdv : Value} {A : Around} {outer : List Env} {s : Shared} {H : Hp} {E : XK} (hr : Room 0 (A.deeper (envOfC "_law_in_order" (defScope s__law_in_order) s.heap.objs.size f cdv))) :
    PSs (cxOf (L2.CX P w) P w K mg base n__law_in_order "_law_in_order" (defScope s__law_in_order) f cdv A outer s H E).nox (defBody s__law_in_order) (t__law_in_order K ) := by
  have nd := sc__law_in_order.nd
  have hu := hr.units
  have hv := units5 hr
  have h1 := units1 hr
  exact (pss_cons (ps_set (i := 2) nd rfl (Or.inl rfl) pe_dnewK)
    (pss_cons (ps_for PassesOwn.never rfl (pi_src (pv 0)) (pg_name (i := 3) nd rfl (Or.inl rfl))
    (pss_one (ps_dput h1 (pv 2) (pv 3) (pe_dget h1 (pv 1) (pv 3) (fun _ _ => rfl)) rfl)))
    (pss_one (ps_ret (pv 2)))))

def t__law_union (K : PySem.W.Frag) : TS := (tRet (tM1 (rJoin K) (tC (.str (T []))) (tLc (iZipS K (tCons (tVar 0) (tCons (tVar 1) tNil))) (gTup K 2 (gCons (gName 2) (gCons (gName 3) gNil))) tYes (tIf (tTest (tOp (rInU K) (tC (.str (T [43]))) (tTup (tCons (tVar 2) (tCons (tVar 3) tNil))))) (tC (.str (T [43]))) (tC (.str (T [46])))) [2, 3])))

theorem w__law_union (B : Bl mg)      {f : Addr} {cdv : Value} {A : Around} {outer : List Env} {s : Shared} {H : Hp} {E : XK} (hr : Room 0 (A.deeper (envOfC "_law_union" (defScope s__law_union) s.heap.objs.size f cdv))) :
    PSs (cxOf (L2.CX P w) P w K mg base n__law_union "_law_union" (defScope s__law_union) f cdv A outer s H E).nox (defBody s__law_union) (t__law_union K ) := by
  have nd := sc__law_union.nd
  have hu := hr.units
  have hv := units5 hr
  have h1 := units1 hr
  exact (pss_one (ps_ret (pe_joinU (pe_strT (by decide +kernel)) (pe_lc (own := [("_law_a", 2), ("_law_b", 3)]) rfl nd (pi_zipS (by rfl) B.f_zip (pa_cons (pv 0) (pa_cons (pv 1) pa_nil))) (blkOk_by (own := [("_law_a", 2), ("_law_b", 3)]) (N := n__law_union) (sc := defScope s__law_union) (by decide +kernel)) (fun _ _ _ _ _ => (pg_tup (by rfl) (pgs_cons (pg_name (i := 2) nd rfl (Or.inl rfl)) (pgs_cons (pg_name (i := 3) nd rfl (Or.inl rfl)) pgs_nil)))) (fun _ _ _ _ _ => pts_nil) (fun _ _ _ _ _ => (pe_ifExp (pt_cmpR (op_inU hv) (pe_strT (by decide +kernel)) (pe_tup (pa_cons (pv 2) (pa_cons (pv 3) pa_nil))) (by rfl)) (pe_strT (by decide +kernel)) (pe_strT (by decide +kernel))))))))

def t__law_lots_right (K : PySem.W.Frag) (sp_Band_lots sp__law_lot sp__law_pick sp__law_same sp__law_taken sp__law_union sp__law_within sp_lot_of sp_ordered_lots sp_union sp_within : Sp) : TS := (tSeq (tIfS (tNot (tB (tCall sp__law_same (([] : List V).drop 0) E0 (tCons (tMeth (He.ga K "Band") "lots" sp_Band_lots ([] : List V) E0 (tVar 1) tNil) (tCons (tVar 3) tNil))))) (tRet (tC (.bl false))) tNext)
    (tSeq (tFor (iSrc K (tVar 3)) (gName 4)
    (tSeq (tAsg (tCall sp__law_pick (([] : List V).drop 0) E0 (tCons (tVar 0) (tCons (tVar 3) tNil))) (gName 5))
    (tSeq (tIfS (tOr (tNot (tB (tCall sp__law_same (([] : List V).drop 0) E0 (tCons (tCall sp_union (([] : List V).drop 0) E0 (tCons (tVar 4) (tCons (tVar 5) tNil))) (tCons (tCall sp__law_union (([] : List V).drop 0) E0 (tCons (tVar 4) (tCons (tVar 5) tNil))) tNil))))) (tTest (tOp (rNiU K) (tCall sp__law_union (([] : List V).drop 0) E0 (tCons (tVar 4) (tCons (tVar 5) tNil))) (tVar 3)))) (tRet (tC (.bl false))) tNext)
    (tIfS (tNot (tB (tCall sp__law_same (([] : List V).drop 0) E0 (tCons (tCall sp_within (([] : List V).drop 0) E0 (tCons (tVar 4) (tCons (tVar 5) tNil))) (tCons (tCall sp__law_within (([] : List V).drop 0) E0 (tCons (tVar 4) (tCons (tVar 5) tNil))) tNil))))) (tRet (tC (.bl false))) tNext))))
    (tSeq (tAsg (tCall sp__law_taken (([] : List V).drop 0) E0 (tCons (tVar 0) (tCons (tOp (rAddU K) (tVar 3) (tSl (rSlU K) (tVar 3) tNoPart (tPart (tC (.int 2))))) (tCons (tOp (rAddU K) (tCB (rLen K) (tCons (tVar 3) tNil)) (tC (.int 2))) tNil)))) (gName 6))
    (tSeq (tIfS (tOr (tNot (tB (tCall sp__law_same (([] : List V).drop 0) E0 (tCons (tCall sp_ordered_lots (([] : List V).drop 0) E0 (tCons (tVar 6) tNil)) (tCons (tVar 3) tNil))))) (tNot (tB (tCall sp__law_same (([] : List V).drop 0) E0 (tCons (tLc (iSrc K (tVar 2)) (gName 8) tYes (tCall sp_lot_of (([] : List V).drop 0) E0 (tCons (tVar 8) tNil)) [8]) (tCons (tLc (iSrc K (tVar 2)) (gName 8) tYes (tCall sp__law_lot (([] : List V).drop 0) E0 (tCons (tVar 8) tNil)) [8]) tNil)))))) (tRet (tC (.bl false))) tNext)
    (tSeq (tAsg (tMeth (He.ga K "Band") "lots" sp_Band_lots ([] : List V) E0 (tVar 1) tNil) (gName 7))
    (tSeq (tDrop (tBM0 K "list" rReverse (tVar 7)))
    (tSeq (tDrop (tBM K "list" rAppend (tVar 7) (tCons (tC (.str (T [120]))) tNil)))
    (tRet (tCall sp__law_same (([] : List V).drop 0) E0 (tCons (tMeth (He.ga K "Band") "lots" sp_Band_lots ([] : List V) E0 (tVar 1) tNil) (tCons (tVar 3) tNil)))))))))))

theorem w__law_lots_right (B : Bl mg)  (C_Band : ClsF K "Band" fl_Band)   {sp_Band_lots : Sp} (G_Band_lots : DfM P w K mg base 1 "Band" "lots" ["self"] ([] : List V) sp_Band_lots) {sp__law_lot : Sp} (G__law_lot : Df P w K mg base 1 "_law_lot" ["_law_row"] [] sp__law_lot) {sp__law_pick : Sp} (G__law_pick : Df P w K mg base 2 "_law_pick" ["_law_bag", "_law_some"] [] sp__law_pick) {sp__law_same : Sp} (G__law_same : Df P w K mg base 5 "_law_same" ["_law_found", "_law_due"] [] sp__law_same) {sp__law_taken : Sp} (G__law_taken : Df P w K mg base 2 "_law_taken" ["_law_bag", "_law_some", "_law_many"] [] sp__law_taken) {sp__law_union : Sp} (G__law_union : Df P w K mg base 1 "_law_union" ["_law_one", "_law_other"] [] sp__law_union) {sp__law_within : Sp} (G__law_within : Df P w K mg base 1 "_law_within" ["_law_one", "_law_other"] [] sp__law_within) {sp_lot_of : Sp} (G_lot_of : Df P w K mg base 1 "lot_of" ["row"] [] sp_lot_of) {sp_ordered_lots : Sp} (G_ordered_lots : Df P w K mg base 4 "ordered_lots" ["lots"] [] sp_ordered_lots) {sp_union : Sp} (G_union : Df P w K mg base 1 "union" ["one", "other"] [] sp_union) {sp_within : Sp} (G_within : Df P w K mg base 1 "within" ["one", "other"] [] sp_within) {f : Addr} {cdv : Value} {A : Around} {outer : List Env} {s : Shared} {H : Hp} {E : XK} (hr : Room 5 (A.deeper (envOfC "_law_lots_right" (defScope s__law_lots_right) s.heap.objs.size f cdv))) :
    PSs (cxOf (L2.CX P w) P w K mg base n__law_lots_right "_law_lots_right" (defScope s__law_lots_right) f cdv A outer s H E).nox (defBody s__law_lots_right) (t__law_lots_right K sp_Band_lots sp__law_lot sp__law_pick sp__law_same sp__law_taken sp__law_union sp__law_within sp_lot_of sp_ordered_lots sp_union sp_within) := by
  have nd := sc__law_lots_right.nd
  have hu := hr.units
  have hv := units5 hr
  have h1 := units1 hr
  exact (pss_cons (ps_if (pt_not (pt_val (pe_df 0 G__law_same (hr.mono (by decide)) (by rfl) (pa_cons (pe_dm0 G_Band_lots C_Band (hr.mono (by decide)) (pv 1)) (pa_cons (pv 3) pa_nil))))) (pss_one (ps_ret pe_bl)) pss_nil)
    (pss_cons (ps_for PassesOwn.never rfl (pi_src (pv 3)) (pg_name (i := 4) nd rfl (Or.inl rfl))
    (pss_cons (ps_set (i := 5) nd rfl (Or.inl rfl) (pe_df 0 G__law_pick (hr.mono (by decide)) (by rfl) (pa_cons (pv 0) (pa_cons (pv 3) pa_nil))))
    (pss_cons (ps_if (PW.pt (pw_or (pt_not (pt_val (pe_df 0 G__law_same (hr.mono (by decide)) (by rfl) (pa_cons (pe_df 0 G_union (hr.mono (by decide)) (by rfl) (pa_cons (pv 4) (pa_cons (pv 5) pa_nil))) (pa_cons (pe_df 0 G__law_union (hr.mono (by decide)) (by rfl) (pa_cons (pv 4) (pa_cons (pv 5) pa_nil))) pa_nil))))) (pw_or1 (pt_cmpR (op_niU hv) (pe_df 0 G__law_union (hr.mono (by decide)) (by rfl) (pa_cons (pv 4) (pa_cons (pv 5) pa_nil))) (pv 3) (by rfl))))) (pss_one (ps_ret pe_bl)) pss_nil)
    (pss_one (ps_if (pt_not (pt_val (pe_df 0 G__law_same (hr.mono (by decide)) (by rfl) (pa_cons (pe_df 0 G_within (hr.mono (by decide)) (by rfl) (pa_cons (pv 4) (pa_cons (pv 5) pa_nil))) (pa_cons (pe_df 0 G__law_within (hr.mono (by decide)) (by rfl) (pa_cons (pv 4) (pa_cons (pv 5) pa_nil))) pa_nil))))) (pss_one (ps_ret pe_bl)) pss_nil)))))
    (pss_cons (ps_set (i := 6) nd rfl (Or.inl rfl) (pe_df 0 G__law_taken (hr.mono (by decide)) (by rfl) (pa_cons (pv 0) (pa_cons (pe_op op_addU (pv 3) (pe_slice sl_U (pv 3) po_none (po_some pe_int))) (pa_cons (pe_op op_addU (pe_callB call_lenU (by rfl) B.f_len (by decide +kernel) (pa_cons (pv 3) pa_nil)) pe_int) pa_nil)))))
    (pss_cons (ps_if (PW.pt (pw_or (pt_not (pt_val (pe_df 0 G__law_same (hr.mono (by decide)) (by rfl) (pa_cons (pe_df 0 G_ordered_lots (hr.mono (by decide)) (by rfl) (pa_cons (pv 6) pa_nil)) (pa_cons (pv 3) pa_nil))))) (pw_or1 (pt_not (pt_val (pe_df 0 G__law_same (hr.mono (by decide)) (by rfl) (pa_cons (pe_lc (own := [("_law_row", 8)]) rfl nd (pi_src (pv 2)) (blkOk_by (own := [("_law_row", 8)]) (N := n__law_lots_right) (sc := defScope s__law_lots_right) (by decide +kernel)) (fun _ _ _ _ _ => (pg_name (i := 8) nd rfl (Or.inl rfl))) (fun _ _ _ _ _ => pts_nil) (fun _ _ _ _ _ => (pe_df 0 G_lot_of (hr.mono (by decide)) (by rfl) (pa_cons (pv 8) pa_nil)))) (pa_cons (pe_lc (own := [("_law_row", 8)]) rfl nd (pi_src (pv 2)) (blkOk_by (own := [("_law_row", 8)]) (N := n__law_lots_right) (sc := defScope s__law_lots_right) (by decide +kernel)) (fun _ _ _ _ _ => (pg_name (i := 8) nd rfl (Or.inl rfl))) (fun _ _ _ _ _ => pts_nil) (fun _ _ _ _ _ => (pe_df 0 G__law_lot (hr.mono (by decide)) (by rfl) (pa_cons (pv 8) pa_nil)))) pa_nil)))))))) (pss_one (ps_ret pe_bl)) pss_nil)
    (pss_cons (ps_set (i := 7) nd rfl (Or.inl rfl) (pe_dm0 G_Band_lots C_Band (hr.mono (by decide)) (pv 1)))
    (pss_cons (ps_expr (pe_bm0 PySem.F.plainAttrs_list PySem.F.slot_list_reverse PySem.F.type_list_reverse mt_reverse (pv 7)))
    (pss_cons (ps_expr (pe_bm PySem.F.plainAttrs_list PySem.F.slot_list_append PySem.F.type_list_append mt_append (pv 7) (pa_cons (pe_strT (by decide +kernel)) pa_nil)))
    (pss_one (ps_ret (pe_df 0 G__law_same (hr.mono (by decide)) (by rfl) (pa_cons (pe_dm0 G_Band_lots C_Band (hr.mono (by decide)) (pv 1)) (pa_cons (pv 3) pa_nil))))))))))))

def t__law_signed (K : PySem.W.Frag) (sp__law_within : Sp) : TS := (tSeq (tAsg tDNewK (gName 1))
    (tSeq (tFor (iSrc K (tRevL K (tVar 0))) (gName 2)
    (tSeq (tLock (tAsg (tLc (iKeys (tVar 1)) (gName 4) (tB (tCall sp__law_within (([] : List V).drop 0) E0 (tCons (tVar 2) (tCons (tVar 4) tNil)))) (tDGet (tVar 1) (tVar 4)) [4]) (gName 3)))
    (sDPut (tVar 1) (tVar 2) (tIf (tTest (tOp (rEqU K) (tVar 3) (tLst tNil))) (tC (.int 1)) (tUn rNegU (tCB (rSum K) (tCons (tVar 3) tNil)))))))
    (tRet (tVar 1))))

theorem w__law_signed (B : Bl mg)     {sp__law_within : Sp} (G__law_within : Df P w K mg base 1 "_law_within" ["_law_one", "_law_other"] [] sp__law_within) {f : Addr} {cdv : Value} {A : Around} {outer : List Env} {s : Shared} {H : Hp} {E : XK} (hr : Room 1 (A.deeper (envOfC "_law_signed" (defScope s__law_signed) s.heap.objs.size f cdv))) :
    PSs (cxOf (L2.CX P w) P w K mg base n__law_signed "_law_signed" (defScope s__law_signed) f cdv A outer s H E).nox (defBody s__law_signed) (t__law_signed K sp__law_within) := by
  have nd := sc__law_signed.nd
  have hu := hr.units
  have hv := units5 hr
  have h1 := units1 hr
  exact (pss_cons (ps_set (i := 1) nd rfl (Or.inr rfl) pe_dnewK)
    (pss_cons (ps_for PassesOwn.never rfl (pi_src (pe_revL (pv 0))) (pg_name (i := 2) nd rfl (Or.inr rfl))
    (pss_cons (ps_lock (ps_setLc (i := 3) (own := [("_law_other", 4)]) rfl nd rfl rfl (sw_true rfl rfl rfl (by decide +kernel)) (pi_keys (pv 1)) (blkOk_by (own := [("_law_other", 4)]) (N := n__law_signed) (sc := defScope s__law_signed) (by decide +kernel)) (fun _ _ _ _ _ => (pg_name (i := 4) nd rfl (Or.inl rfl))) (fun _ _ _ _ _ => (pts_one (pt_val (pe_df 0 G__law_within (hr.mono (by decide)) (by rfl) (pa_cons (pv 2) (pa_cons (pv 4) pa_nil)))))) (fun _ _ _ _ _ => (pe_dget h1 (pv 1) (pv 4) (fun _ _ => rfl)))))
    (pss_one (ps_dput h1 (pv 1) (pv 2) (pe_ifExp (pt_cmpR (op_eqU hu) (pv 3) (pe_lst pa_nil) (nomark _)) pe_int (pe_un un_negU (pe_callB (cr_sum rfl) (by rfl) B.f_sum (by decide +kernel) (pa_cons (pv 3) pa_nil)))) rfl))))
    (pss_one (ps_ret (pv 1)))))

def t__law_signed_right (K : PySem.W.Frag) (sp__law_in_order sp__law_number sp__law_same sp__law_signed sp__law_within sp_signed_counts : Sp) : TS := (tSeq (tAsg (tTup (tCons (tCall sp_signed_counts (([] : List V).drop 0) E0 (tCons (tVar 0) tNil)) (tCons (tCall sp__law_signed (([] : List V).drop 0) E0 (tCons (tVar 1) tNil)) tNil))) (gTup K 2 (gCons (gName 2) (gCons (gName 3) gNil))))
    (tSeq (tIfS (tOr (tNot (tB (tCB (rIsi K) (tCons (tVar 2) (tCons (tC (.ty "dict")) tNil))))) (tNot (tB (tCall sp__law_same (([] : List V).drop 0) E0 (tCons (tListKeys (tVar 2)) (tCons (tVar 1) tNil)))))) (tRet (tC (.bl false))) tNext)
    (tSeq (tIfS (tOr (tNot (tB (tCB (rAll K) (tCons (tLc (iSrc K (tVar 1)) (gName 4) tYes (tCall sp__law_number (([] : List V).drop 0) E0 (tCons (tDGet (tVar 2) (tVar 4)) tNil)) [4]) tNil)))) (tTest (tOp (rNeU K) (tDGet (tVar 2) (tOp (rIx K) (tVar 1) (tUn rNegU (tC (.int 1))))) (tC (.int 1))))) (tRet (tC (.bl false))) tNext)
    (tSeq (tFor (iSrc K (tSl (rSlU K) (tVar 1) tNoPart (tPart (tUn rNegU (tC (.int 1)))))) (gName 4)
    (tIfS (tTest (tOp (rNeU K) (tCB (rSum K) (tCons (tLc (iSrc K (tVar 1)) (gName 5) (tB (tCall sp__law_within (([] : List V).drop 0) E0 (tCons (tVar 4) (tCons (tVar 5) tNil)))) (tDGet (tVar 2) (tVar 5)) [5]) tNil)) (tC (.int 0)))) (tRet (tC (.bl false))) tNext))
    (tSeq (tIfS (tTest (tOp (rNeU K) (tDGet (tVar 2) (tOp (rIx K) (tVar 1) (tC (.int 0)))) (tDGet (tVar 3) (tOp (rIx K) (tVar 1) (tC (.int 0)))))) (tRet (tC (.bl false))) tNext)
    (tSeq (sDPut (tVar 2) (tOp (rIx K) (tVar 1) (tC (.int 0))) (tC (.int 77)))
    (tSeq (sDPut (tVar 2) (tC (.str (T [120]))) (tC (.int 5)))
    (tRet (tCall sp__law_same (([] : List V).drop 0) E0 (tCons (tCall sp_signed_counts (([] : List V).drop 0) E0 (tCons (tVar 0) tNil)) (tCons (tCall sp__law_in_order (([] : List V).drop 0) E0 (tCons (tVar 1) (tCons (tVar 3) tNil))) tNil)))))))))))

theorem w__law_signed_right (B : Bl mg)     {sp__law_in_order : Sp} (G__law_in_order : Df P w K mg base 1 "_law_in_order" ["_law_lots", "_law_table"] [] sp__law_in_order) {sp__law_number : Sp} (G__law_number : Df P w K mg base 1 "_law_number" ["_law_value"] [] sp__law_number) {sp__law_same : Sp} (G__law_same : Df P w K mg base 5 "_law_same" ["_law_found", "_law_due"] [] sp__law_same) {sp__law_signed : Sp} (G__law_signed : Df P w K mg base 2 "_law_signed" ["_law_lots"] [] sp__law_signed) {sp__law_within : Sp} (G__law_within : Df P w K mg base 1 "_law_within" ["_law_one", "_law_other"] [] sp__law_within) {sp_signed_counts : Sp} (G_signed_counts : Df P w K mg base 3 "signed_counts" ["band"] [] sp_signed_counts) {f : Addr} {cdv : Value} {A : Around} {outer : List Env} {s : Shared} {H : Hp} {E : XK} (hr : Room 5 (A.deeper (envOfC "_law_signed_right" (defScope s__law_signed_right) s.heap.objs.size f cdv))) :
    PSs (cxOf (L2.CX P w) P w K mg base n__law_signed_right "_law_signed_right" (defScope s__law_signed_right) f cdv A outer s H E).nox (defBody s__law_signed_right) (t__law_signed_right K sp__law_in_order sp__law_number sp__law_same sp__law_signed sp__law_within sp_signed_counts) := by
  have nd := sc__law_signed_right.nd
  have hu := hr.units
  have hv := units5 hr
  have h1 := units1 hr
  exact (pss_cons (ps_asg (pe_tup (pa_cons (pe_df 0 G_signed_counts (hr.mono (by decide)) (by rfl) (pa_cons (pv 0) pa_nil)) (pa_cons (pe_df 0 G__law_signed (hr.mono (by decide)) (by rfl) (pa_cons (pv 1) pa_nil)) pa_nil))) (pg_tup (by rfl) (pgs_cons (pg_name (i := 2) nd rfl (Or.inr rfl)) (pgs_cons (pg_name (i := 3) nd rfl (Or.inl rfl)) pgs_nil))))
    (pss_cons (ps_if (PW.pt (pw_or (pt_not (pt_val (pe_callB call_isi (by rfl) B.f_isinstance (by decide +kernel) (pa_cons (pv 2) (pa_cons (pe_bltn (by rfl) B.f_dict (by decide +kernel) rfl) pa_nil))))) (pw_or1 (pt_not (pt_val (pe_df 0 G__law_same (hr.mono (by decide)) (by rfl) (pa_cons (pe_listKeys rfl (pv 2) (by rfl) B.f_list (by decide +kernel)) (pa_cons (pv 1) pa_nil)))))))) (pss_one (ps_ret pe_bl)) pss_nil)
    (pss_cons (ps_if (PW.pt (pw_or (pt_not (pt_val (pe_callB (cr_all rfl) (by rfl) B.f_all (by decide +kernel) (pa_cons (pe_lc (own := [("_law_lot_here", 4)]) rfl nd (pi_src (pv 1)) (blkOk_by (own := [("_law_lot_here", 4)]) (N := n__law_signed_right) (sc := defScope s__law_signed_right) (by decide +kernel)) (fun _ _ _ _ _ => (pg_name (i := 4) nd rfl (Or.inl rfl))) (fun _ _ _ _ _ => pts_nil) (fun _ _ _ _ _ => (pe_df 0 G__law_number (hr.mono (by decide)) (by rfl) (pa_cons (pe_dget h1 (pv 2) (pv 4) (fun _ _ => rfl)) pa_nil)))) pa_nil)))) (pw_or1 (pt_cmpR (op_neU hu) (pe_dget h1 (pv 2) (pe_ix ix_seq (pv 1) (pe_un un_negU pe_int) (fun _ _ => rfl)) (fun _ _ => rfl)) pe_int (nomark _))))) (pss_one (ps_ret pe_bl)) pss_nil)
    (pss_cons (ps_for PassesOwn.never rfl (pi_src (pe_slice sl_U (pv 1) po_none (po_some (pe_un un_negU pe_int)))) (pg_name (i := 4) nd rfl (Or.inr rfl))
    (pss_one (ps_if (pt_cmpR (op_neU hu) (pe_callB (cr_sum rfl) (by rfl) B.f_sum (by decide +kernel) (pa_cons (pe_lc (own := [("_law_other", 5)]) rfl nd (pi_src (pv 1)) (blkOk_by (own := [("_law_other", 5)]) (N := n__law_signed_right) (sc := defScope s__law_signed_right) (by decide +kernel)) (fun _ _ _ _ _ => (pg_name (i := 5) nd rfl (Or.inl rfl))) (fun _ _ _ _ _ => (pts_one (pt_val (pe_df 0 G__law_within (hr.mono (by decide)) (by rfl) (pa_cons (pv 4) (pa_cons (pv 5) pa_nil)))))) (fun _ _ _ _ _ => (pe_dget h1 (pv 2) (pv 5) (fun _ _ => rfl)))) pa_nil)) pe_int (nomark _)) (pss_one (ps_ret pe_bl)) pss_nil)))
    (pss_cons (ps_if (pt_cmpR (op_neU hu) (pe_dget h1 (pv 2) (pe_ix ix_seq (pv 1) pe_int (fun _ _ => rfl)) (fun _ _ => rfl)) (pe_dget h1 (pv 3) (pe_ix ix_seq (pv 1) pe_int (fun _ _ => rfl)) (fun _ _ => rfl)) (nomark _)) (pss_one (ps_ret pe_bl)) pss_nil)
    (pss_cons (ps_dput h1 (pv 2) (pe_ix ix_seq (pv 1) pe_int (fun _ _ => rfl)) pe_int rfl)
    (pss_cons (ps_dput h1 (pv 2) (pe_strT (by decide +kernel)) pe_int rfl)
    (pss_one (ps_ret (pe_df 0 G__law_same (hr.mono (by decide)) (by rfl) (pa_cons (pe_df 0 G_signed_counts (hr.mono (by decide)) (by rfl) (pa_cons (pv 0) pa_nil)) (pa_cons (pe_df 0 G__law_in_order (hr.mono (by decide)) (by rfl) (pa_cons (pv 1) (pa_cons (pv 3) pa_nil))) pa_nil))))))))))))

def t_law (K : PySem.W.Frag) (sp_Band___init__ sp_Band_rows sp__law_draw_world sp__law_lots_of sp__law_lots_right sp__law_same sp__law_signed_right sp__law_start : Sp) : TS := (tSeq (tAsg (tCall sp__law_start (([] : List V).drop 0) E0 (tCons (tVar 0) tNil)) (gName 1))
    (tSeq (tAsg (tLst tNil) (gName 2))
    (tSeq (tFor (iRng1 (tCons (tC (.int 2)) tNil)) (gName 3)
    (tSeq (tAsg (tCall sp__law_draw_world (([] : List V).drop 0) E0 (tCons (tVar 1) tNil)) (gUnl K 3 (gCons (gName 4) (gCons (gName 5) (gCons (gName 6) gNil)))))
    (tSeq (tAsg (tCall sp__law_lots_of (([] : List V).drop 0) E0 (tCons (tVar 6) tNil)) (gName 7))
    (tSeq (tIfS (tOr (tTest (tOp (rNeU K) (tOp (rIx K) (tVar 7) (tC (.int 0))) (tOp rMulU (tC (.str (T [46]))) (tCB (rLen K) (tCons (tVar 4) tNil))))) (tTest (tOp (rNeU K) (tOp (rIx K) (tVar 7) (tUn rNegU (tC (.int 1)))) (tOp rMulU (tC (.str (T [43]))) (tCB (rLen K) (tCons (tVar 4) tNil)))))) (tRet (tC (.bl false))) tNext)
    (tDrop (tBM K "list" rAppend (tVar 2) (tCons (tTup (tCons (tMake (He.ga K "Band") sp_Band___init__ ([.int 800] : List V) E0 (tCons (tCB (rList1 K) (tCons (tVar 4) tNil)) (tCons (tCB (rList1 K) (tCons (tVar 5) tNil)) tNil))) (tCons (tVar 6) (tCons (tVar 7) tNil)))) tNil)))))))
    (tSeq (tFor (iRng1 (tCons (tC (.int 2)) tNil)) (gName 3)
    (tFor (iSrc K (tVar 2)) (gTup K 3 (gCons (gName 8) (gCons (gName 6) (gCons (gName 7) gNil))))
    (tSeq (tIfS (tOr (tNot (tB (tCall sp__law_lots_right (([] : List V).drop 0) E0 (tCons (tVar 1) (tCons (tVar 8) (tCons (tVar 6) (tCons (tVar 7) tNil))))))) (tNot (tB (tCall sp__law_signed_right (([] : List V).drop 0) E0 (tCons (tVar 8) (tCons (tVar 7) tNil)))))) (tRet (tC (.bl false))) tNext)
    (tIfS (tNot (tB (tCall sp__law_same (([] : List V).drop 0) E0 (tCons (tMeth (He.ga K "Band") "rows" sp_Band_rows ([] : List V) E0 (tVar 8) tNil) (tCons (tVar 6) tNil))))) (tRet (tC (.bl false))) tNext))))
    (tRet (tC (.bl true)))))))

theorem w_law (B : Bl mg)  (C_Band : ClsF K "Band" fl_Band)   {sp_Band___init__ : Sp} (G_Band___init__ : DfI P w K mg base 5 "Band" ["self", "cells", "seeds", "most"] ([.int 800] : List V) sp_Band___init__) {sp_Band_rows : Sp} (G_Band_rows : DfM P w K mg base 1 "Band" "rows" ["self"] ([] : List V) sp_Band_rows) {sp__law_draw_world : Sp} (G__law_draw_world : Df P w K mg base 5 "_law_draw_world" ["_law_bag"] [] sp__law_draw_world) {sp__law_lots_of : Sp} (G__law_lots_of : Df P w K mg base 2 "_law_lots_of" ["_law_some"] [] sp__law_lots_of) {sp__law_lots_right : Sp} (G__law_lots_right : Df P w K mg base 6 "_law_lots_right" ["_law_bag", "_law_band", "_law_some", "_law_lots"] [] sp__law_lots_right) {sp__law_same : Sp} (G__law_same : Df P w K mg base 5 "_law_same" ["_law_found", "_law_due"] [] sp__law_same) {sp__law_signed_right : Sp} (G__law_signed_right : Df P w K mg base 6 "_law_signed_right" ["_law_band", "_law_lots"] [] sp__law_signed_right) {sp__law_start : Sp} (G__law_start : Df P w K mg base 1 "_law_start" ["_law_script"] [] sp__law_start) {f : Addr} {cdv : Value} {A : Around} {outer : List Env} {s : Shared} {H : Hp} {E : XK} (hr : Room 6 (A.deeper (envOfC "law" (defScope s_law) s.heap.objs.size f cdv))) :
    PSs (cxOf (L2.CX P w) P w K mg base n_law "law" (defScope s_law) f cdv A outer s H E).nox (defBody s_law) (t_law K sp_Band___init__ sp_Band_rows sp__law_draw_world sp__law_lots_of sp__law_lots_right sp__law_same sp__law_signed_right sp__law_start) := by
  have nd := sc_law.nd
  have hu := hr.units
  have hv := units5 hr
  have h1 := units1 hr
  exact (pss_cons (ps_set (i := 1) nd rfl (Or.inl rfl) (pe_df 0 G__law_start (hr.mono (by decide)) (by rfl) (pa_cons (pv 0) pa_nil)))
    (pss_cons (ps_set (i := 2) nd rfl (Or.inl rfl) (pe_lst pa_nil))
    (pss_cons (ps_for PassesOwn.never rfl (pi_range1 (by rfl) B.f_range (pa_cons pe_int pa_nil)) (pg_name (i := 3) nd rfl (Or.inl rfl))
    (pss_cons (ps_asg (pe_df 0 G__law_draw_world (hr.mono (by decide)) (by rfl) (pa_cons (pv 1) pa_nil)) (pg_unl (by rfl) (pgs_cons (pg_name (i := 4) nd rfl (Or.inl rfl)) (pgs_cons (pg_name (i := 5) nd rfl (Or.inl rfl)) (pgs_cons (pg_name (i := 6) nd rfl (Or.inl rfl)) pgs_nil)))))
    (pss_cons (ps_set (i := 7) nd rfl (Or.inl rfl) (pe_df 0 G__law_lots_of (hr.mono (by decide)) (by rfl) (pa_cons (pv 6) pa_nil)))
    (pss_cons (ps_if (PW.pt (pw_or (pt_cmpR (op_neU hu) (pe_ix ix_seq (pv 7) pe_int (fun _ _ => rfl)) (pe_op op_mulU (pe_strT (by decide +kernel)) (pe_callB call_lenU (by rfl) B.f_len (by decide +kernel) (pa_cons (pv 4) pa_nil))) (nomark _)) (pw_or1 (pt_cmpR (op_neU hu) (pe_ix ix_seq (pv 7) (pe_un un_negU pe_int) (fun _ _ => rfl)) (pe_op op_mulU (pe_strT (by decide +kernel)) (pe_callB call_lenU (by rfl) B.f_len (by decide +kernel) (pa_cons (pv 4) pa_nil))) (nomark _))))) (pss_one (ps_ret pe_bl)) pss_nil)
    (pss_one (ps_expr (pe_bm PySem.F.plainAttrs_list PySem.F.slot_list_append PySem.F.type_list_append mt_append (pv 2) (pa_cons (pe_tup (pa_cons (pe_di G_Band___init__ (hr.mono (by decide)) (by rfl) (pa_cons (pe_callTy (call_listU rfl) (by rfl) B.f_list (by decide +kernel) (pa_cons (pv 4) pa_nil)) (pa_cons (pe_callTy (call_listU rfl) (by rfl) B.f_list (by decide +kernel) (pa_cons (pv 5) pa_nil)) pa_nil))) (pa_cons (pv 6) (pa_cons (pv 7) pa_nil)))) pa_nil))))))))
    (pss_cons (ps_for PassesOwn.never rfl (pi_range1 (by rfl) B.f_range (pa_cons pe_int pa_nil)) (pg_name (i := 3) nd rfl (Or.inl rfl))
    (pss_one (ps_for PassesOwn.never rfl (pi_src (pv 2)) (pg_tup (by rfl) (pgs_cons (pg_name (i := 8) nd rfl (Or.inl rfl)) (pgs_cons (pg_name (i := 6) nd rfl (Or.inl rfl)) (pgs_cons (pg_name (i := 7) nd rfl (Or.inl rfl)) pgs_nil))))
    (pss_cons (ps_if (PW.pt (pw_or (pt_not (pt_val (pe_df 0 G__law_lots_right (hr.mono (by decide)) (by rfl) (pa_cons (pv 1) (pa_cons (pv 8) (pa_cons (pv 6) (pa_cons (pv 7) pa_nil))))))) (pw_or1 (pt_not (pt_val (pe_df 0 G__law_signed_right (hr.mono (by decide)) (by rfl) (pa_cons (pv 8) (pa_cons (pv 7) pa_nil)))))))) (pss_one (ps_ret pe_bl)) pss_nil)
    (pss_one (ps_if (pt_not (pt_val (pe_df 0 G__law_same (hr.mono (by decide)) (by rfl) (pa_cons (pe_dm0 G_Band_rows C_Band (hr.mono (by decide)) (pv 8)) (pa_cons (pv 6) pa_nil))))) (pss_one (ps_ret pe_bl)) pss_nil))))))
    (pss_one (ps_ret pe_bl))))))

end
end G48

set_option maxHeartbeats 0
namespace Hd48
open PySem PySem.Spec PyProof.Rows Nt G48
open L2 hiding rLen
def d_mask_of : DefX := ⟨fun K => He.ga K "mask_of", "mask_of", "mask_of", defArgs G48.s_mask_of, defBody G48.s_mask_of, defScope G48.s_mask_of, [], []⟩
def d_is_name : DefX := ⟨fun K => He.ga K "is_name", "is_name", "is_name", defArgs G48.s_is_name, defBody G48.s_is_name, defScope G48.s_is_name, [], []⟩
def d_is_number : DefX := ⟨fun K => He.ga K "is_number", "is_number", "is_number", defArgs G48.s_is_number, defBody G48.s_is_number, defScope G48.s_is_number, [], []⟩
def d_check_cells : DefX := ⟨fun K => He.ga K "check_cells", "check_cells", "check_cells", defArgs G48.s_check_cells, defBody G48.s_check_cells, defScope G48.s_check_cells, [], []⟩
def d_is_row : DefX := ⟨fun K => He.ga K "is_row", "is_row", "is_row", defArgs G48.s_is_row, defBody G48.s_is_row, defScope G48.s_is_row, [], []⟩
def d_over : DefX := ⟨fun K => He.ga K "over", "over", "over", defArgs G48.s_over, defBody G48.s_over, defScope G48.s_over, [], []⟩
def d_lot_of : DefX := ⟨fun K => He.ga K "lot_of", "lot_of", "lot_of", defArgs G48.s_lot_of, defBody G48.s_lot_of, defScope G48.s_lot_of, [], []⟩
def d_blank : DefX := ⟨fun K => He.ga K "blank", "blank", "blank", defArgs G48.s_blank, defBody G48.s_blank, defScope G48.s_blank, [], []⟩
def d_within : DefX := ⟨fun K => He.ga K "within", "within", "within", defArgs G48.s_within, defBody G48.s_within, defScope G48.s_within, [], []⟩
def d_union : DefX := ⟨fun K => He.ga K "union", "union", "union", defArgs G48.s_union, defBody G48.s_union, defScope G48.s_union, [], []⟩
def d_cut : DefX := ⟨fun K => He.ga K "cut", "cut", "cut", defArgs G48.s_cut, defBody G48.s_cut, defScope G48.s_cut, [], []⟩
def d_lot_size : DefX := ⟨fun K => He.ga K "lot_size", "lot_size", "lot_size", defArgs G48.s_lot_size, defBody G48.s_lot_size, defScope G48.s_lot_size, [], []⟩
def d_ordered_lots : DefX := ⟨fun K => He.ga K "ordered_lots", "ordered_lots", "ordered_lots", defArgs G48.s_ordered_lots, defBody G48.s_ordered_lots, defScope G48.s_ordered_lots, [], []⟩
def d_parts_of_sums : DefX := ⟨fun K => He.ga K "parts_of_sums", "parts_of_sums", "parts_of_sums", defArgs G48.s_parts_of_sums, defBody G48.s_parts_of_sums, defScope G48.s_parts_of_sums, [], []⟩
def d_signed_counts : DefX := ⟨fun K => He.ga K "signed_counts", "signed_counts", "signed_counts", defArgs G48.s_signed_counts, defBody G48.s_signed_counts, defScope G48.s_signed_counts, [], []⟩
def d_check_seeds : DefX := ⟨fun K => He.ga K "check_seeds", "check_seeds", "check_seeds", defArgs G48.s_check_seeds, defBody G48.s_check_seeds, defScope G48.s_check_seeds, [], []⟩
def d_grown_rows : DefX := ⟨fun K => He.ga K "grown_rows", "grown_rows", "grown_rows", defArgs G48.s_grown_rows, defBody G48.s_grown_rows, defScope G48.s_grown_rows, [], []⟩
def d_Band___init__ : DefX := ⟨fun K => He.ma K (He.ga K "Band") "__init__", "__init__", "Band.__init__", defArgs G48.s_Band___init__, defBody G48.s_Band___init__, defScope G48.s_Band___init__, [], [("most", .int 800)]⟩
def d_Band_rows : DefX := ⟨fun K => He.ma K (He.ga K "Band") "rows", "rows", "Band.rows", defArgs G48.s_Band_rows, defBody G48.s_Band_rows, defScope G48.s_Band_rows, [], []⟩
def d_Band_lots : DefX := ⟨fun K => He.ma K (He.ga K "Band") "lots", "lots", "Band.lots", defArgs G48.s_Band_lots, defBody G48.s_Band_lots, defScope G48.s_Band_lots, [], []⟩
def d_cut_band : DefX := ⟨fun K => He.ga K "cut_band", "cut_band", "cut_band", defArgs G48.s_cut_band, defBody G48.s_cut_band, defScope G48.s_cut_band, [], []⟩
def d__law_start : DefX := ⟨fun K => He.ga K "_law_start", "_law_start", "_law_start", defArgs G48.s__law_start, defBody G48.s__law_start, defScope G48.s__law_start, [], []⟩
def d__law_pull : DefX := ⟨fun K => He.ga K "_law_pull", "_law_pull", "_law_pull", defArgs G48.s__law_pull, defBody G48.s__law_pull, defScope G48.s__law_pull, [], []⟩
def d__law_pick : DefX := ⟨fun K => He.ga K "_law_pick", "_law_pick", "_law_pick", defArgs G48.s__law_pick, defBody G48.s__law_pick, defScope G48.s__law_pick, [], []⟩
def d__law_taken : DefX := ⟨fun K => He.ga K "_law_taken", "_law_taken", "_law_taken", defArgs G48.s__law_taken, defBody G48.s__law_taken, defScope G48.s__law_taken, [], []⟩
def d__law_same : DefX := ⟨fun K => He.ga K "_law_same", "_law_same", "_law_same", defArgs G48.s__law_same, defBody G48.s__law_same, defScope G48.s__law_same, [], []⟩
def d__law_number : DefX := ⟨fun K => He.ga K "_law_number", "_law_number", "_law_number", defArgs G48.s__law_number, defBody G48.s__law_number, defScope G48.s__law_number, [], []⟩
def d__law_ordered : DefX := ⟨fun K => He.ga K "_law_ordered", "_law_ordered", "_law_ordered", defArgs G48.s__law_ordered, defBody G48.s__law_ordered, defScope G48.s__law_ordered, [], []⟩
def d__law_over : DefX := ⟨fun K => He.ga K "_law_over", "_law_over", "_law_over", defArgs G48.s__law_over, defBody G48.s__law_over, defScope G48.s__law_over, [], []⟩
def d__law_lot : DefX := ⟨fun K => He.ga K "_law_lot", "_law_lot", "_law_lot", defArgs G48.s__law_lot, defBody G48.s__law_lot, defScope G48.s__law_lot, [], []⟩
def d__law_within : DefX := ⟨fun K => He.ga K "_law_within", "_law_within", "_law_within", defArgs G48.s__law_within, defBody G48.s__law_within, defScope G48.s__law_within, [], []⟩
def d__law_lots_of : DefX := ⟨fun K => He.ga K "_law_lots_of", "_law_lots_of", "_law_lots_of", defArgs G48.s__law_lots_of, defBody G48.s__law_lots_of, defScope G48.s__law_lots_of, [], []⟩
def d__law_closure : DefX := ⟨fun K => He.ga K "_law_closure", "_law_closure", "_law_closure", defArgs G48.s__law_closure, defBody G48.s__law_closure, defScope G48.s__law_closure, [], []⟩
def d__law_told_all : DefX := ⟨fun K => He.ga K "_law_told_all", "_law_told_all", "_law_told_all", defArgs G48.s__law_told_all, defBody G48.s__law_told_all, defScope G48.s__law_told_all, [], []⟩
def d__law_draw_name : DefX := ⟨fun K => He.ga K "_law_draw_name", "_law_draw_name", "_law_draw_name", defArgs G48.s__law_draw_name, defBody G48.s__law_draw_name, defScope G48.s__law_draw_name, [], []⟩
def d__law_draw_cells : DefX := ⟨fun K => He.ga K "_law_draw_cells", "_law_draw_cells", "_law_draw_cells", defArgs G48.s__law_draw_cells, defBody G48.s__law_draw_cells, defScope G48.s__law_draw_cells, [], []⟩
def d__law_draw_band : DefX := ⟨fun K => He.ga K "_law_draw_band", "_law_draw_band", "_law_draw_band", defArgs G48.s__law_draw_band, defBody G48.s__law_draw_band, defScope G48.s__law_draw_band, [], []⟩
def d__law_draw_world : DefX := ⟨fun K => He.ga K "_law_draw_world", "_law_draw_world", "_law_draw_world", defArgs G48.s__law_draw_world, defBody G48.s__law_draw_world, defScope G48.s__law_draw_world, [], []⟩
def d__law_in_order : DefX := ⟨fun K => He.ga K "_law_in_order", "_law_in_order", "_law_in_order", defArgs G48.s__law_in_order, defBody G48.s__law_in_order, defScope G48.s__law_in_order, [], []⟩
def d__law_union : DefX := ⟨fun K => He.ga K "_law_union", "_law_union", "_law_union", defArgs G48.s__law_union, defBody G48.s__law_union, defScope G48.s__law_union, [], []⟩
def d__law_lots_right : DefX := ⟨fun K => He.ga K "_law_lots_right", "_law_lots_right", "_law_lots_right", defArgs G48.s__law_lots_right, defBody G48.s__law_lots_right, defScope G48.s__law_lots_right, [], []⟩
def d__law_signed : DefX := ⟨fun K => He.ga K "_law_signed", "_law_signed", "_law_signed", defArgs G48.s__law_signed, defBody G48.s__law_signed, defScope G48.s__law_signed, [], []⟩
def d__law_signed_right : DefX := ⟨fun K => He.ga K "_law_signed_right", "_law_signed_right", "_law_signed_right", defArgs G48.s__law_signed_right, defBody G48.s__law_signed_right, defScope G48.s__law_signed_right, [], []⟩
def d_law : DefX := ⟨fun K => He.ga K "law", "law", "law", defArgs G48.s_law, defBody G48.s_law, defScope G48.s_law, [], []⟩
def fn : List DefX := [d_mask_of, d_is_name, d_is_number, d_check_cells, d_is_row, d_over, d_lot_of, d_blank, d_within, d_union, d_cut, d_lot_size, d_ordered_lots, d_parts_of_sums, d_signed_counts, d_check_seeds, d_grown_rows, d_Band___init__, d_Band_rows, d_Band_lots, d_cut_band, d__law_start, d__law_pull, d__law_pick, d__law_taken, d__law_same, d__law_number, d__law_ordered, d__law_over, d__law_lot, d__law_within, d__law_lots_of, d__law_closure, d__law_told_all, d__law_draw_name, d__law_draw_cells, d__law_draw_band, d__law_draw_world, d__law_in_order, d__law_union, d__law_lots_right, d__law_signed, d__law_signed_right, d_law]
def fa0 : List FaX := [.he (.glo "mask_of"), .he (.glo "is_name"), .he (.glo "is_number"), .he (.glo "check_cells"), .he (.glo "is_row"), .he (.glo "over"), .he (.glo "lot_of"), .he (.glo "blank"), .he (.glo "within"), .he (.glo "union"), .he (.glo "cut"), .he (.glo "lot_size"), .he (.glo "ordered_lots"), .he (.glo "parts_of_sums"), .he (.glo "signed_counts"), .he (.glo "check_seeds"), .he (.glo "grown_rows"), .he (.glo "cut_band"), .he (.glo "_law_start"), .he (.glo "_law_pull"), .he (.glo "_law_pick"), .he (.glo "_law_taken"), .he (.glo "_law_same"), .he (.glo "_law_number"), .he (.glo "_law_ordered"), .he (.glo "_law_over"), .he (.glo "_law_lot"), .he (.glo "_law_within"), .he (.glo "_law_lots_of"), .he (.glo "_law_closure")]
def fa1 : List FaX := [.he (.glo "_law_told_all"), .he (.glo "_law_draw_name"), .he (.glo "_law_draw_cells"), .he (.glo "_law_draw_band"), .he (.glo "_law_draw_world"), .he (.glo "_law_in_order"), .he (.glo "_law_union"), .he (.glo "_law_lots_right"), .he (.glo "_law_signed"), .he (.glo "_law_signed_right"), .he (.glo "law"), .he (.free "all"), .he (.free "any"), .he (.free "bool"), .he (.free "dict"), .he (.free "enumerate"), .he (.free "int"), .he (.free "isinstance"), .he (.free "len"), .he (.free "list"), .he (.free "range"), .he (.free "reversed"), .he (.free "set"), .he (.free "sorted"), .he (.free "str"), .he (.free "sum"), .he (.free "tuple"), .he (.free "zip"), .he (.glo "Band"), .he (.cls "Band")]
def fa2 : List FaX := [.he (.noat "Band" "cell_list"), .he (.noat "Band" "seed_list"), .he (.noat "Band" "row_list"), .he (.noat "Band" "known_rows"), .he (.noat "Band" "lot_list"), .he (.mkr "Band"), .he (.meth "Band" "rows"), .he (.meth "Band" "lots"), .he (.str "LETTERS" "abcdefghijklmnopqrstuvwxyz"), .he (.int "MOST_ROWS" 800), .he (.int "MOST_SEEDS" 30), .he (.int "MOST_CELLS" 12), .he (.int "MOST_VALUES" 4)]
def fa : List FaX := fa0 ++ fa1 ++ fa2
def gl0 : List Str := ["mask_of", "is_name", "is_number", "check_cells", "is_row", "over", "lot_of", "blank", "within", "union", "cut", "lot_size", "ordered_lots", "parts_of_sums", "signed_counts", "check_seeds", "grown_rows", "cut_band", "_law_start", "_law_pull", "_law_pick", "_law_taken", "_law_same", "_law_number", "_law_ordered", "_law_over", "_law_lot", "_law_within", "_law_lots_of", "_law_closure"]
def gl1 : List Str := ["_law_told_all", "_law_draw_name", "_law_draw_cells", "_law_draw_band", "_law_draw_world", "_law_in_order", "_law_union", "_law_lots_right", "_law_signed", "_law_signed_right", "law"]
def gl : List Str := gl0 ++ gl1
def cl : List CM := [("Band", ["__init__", "rows", "lots"], [])]
def xcl : List Str := []
def loose0 : List Str := ["mask_of", "is_name", "is_number", "check_cells", "is_row", "over", "lot_of", "blank", "within", "union", "cut", "lot_size", "ordered_lots", "parts_of_sums", "signed_counts", "check_seeds", "grown_rows", "cut_band", "_law_start", "_law_pull", "_law_pick", "_law_taken", "_law_same", "_law_number", "_law_ordered", "_law_over", "_law_lot", "_law_within", "_law_lots_of", "_law_closure"]
def loose1 : List Str := ["_law_told_all", "_law_draw_name", "_law_draw_cells", "_law_draw_band", "_law_draw_world", "_law_in_order", "_law_union", "_law_lots_right", "_law_signed", "_law_signed_right", "Band", "_wall", "TellsError", "BadCells", "BadSeed", "BadRow", "BadNumber", "TooMany", "Untold", "IsFull", "InvalidText", "Missing", "UnknownCell", "NotInBand", "LETTERS", "MOST_ROWS", "MOST_SEEDS", "MOST_CELLS", "MOST_VALUES", "COUNTS"]
def loose2 : List Str := ["cell_of", "seed_of", "leading_cells", "leading_seeds", "new_places", "can_take", "first_to_take", "taking", "bar_lines", "come", "come_coming"]
def loose : List Str := loose0 ++ loose1 ++ loose2
abbrev R : PySem.W.OpenRow := PySem.W.OpenLaw.row PySem.Challenge.rw_newesttells_k48_whole_lots_of_bands
abbrev hk : PySem.W.Hook := hookX gl cl xcl fa fn
def ob (s : PySem.W.SharedT) : He.AlD := obsXG gl cl xcl fa fn (HandSHeadRun.getT s)
theorem ob_eq (s : PySem.W.SharedT) : ob s = hk.obs s.abs := obsXG_eq (HandSHeadRun.getT_eq s)
theorem run (w : World) : HandSHeadRun.RunEq R (PySem.W.view R.prog [80]) hk ob 8000 loose w := by
  intro os
  kernel_rfl
section
variable {K : PySem.W.Frag} {h : Heap} {mg : Str → Option Value}
theorem at_mask_of (X : K.In h) (G : h.Ns mainGlobals mg) (c : SaysX fa fn K) : At K mg "mask_of" G48.s_mask_of ["row"] [] := by
  obtain ⟨fd, F⟩ := c.def_ 0 (d := d_mask_of) rfl
  refine ⟨He.glo_ok X G (c.fact 0 (f := .glo "mask_of") rfl), fd, F, fun j hj => ?_⟩
  exact ⟨[], by cases j <;> exact .nil, F.bindsN fun _ _ _ _ _ _ us hl => match us, hl with | [_], _ => rfl⟩
theorem at_is_name (X : K.In h) (G : h.Ns mainGlobals mg) (c : SaysX fa fn K) : At K mg "is_name" G48.s_is_name ["value"] [] := by
  obtain ⟨fd, F⟩ := c.def_ 1 (d := d_is_name) rfl
  refine ⟨He.glo_ok X G (c.fact 1 (f := .glo "is_name") rfl), fd, F, fun j hj => ?_⟩
  exact ⟨[], by cases j <;> exact .nil, F.bindsN fun _ _ _ _ _ _ us hl => match us, hl with | [_], _ => rfl⟩
theorem at_is_number (X : K.In h) (G : h.Ns mainGlobals mg) (c : SaysX fa fn K) : At K mg "is_number" G48.s_is_number ["value", "least", "most"] [] := by
  obtain ⟨fd, F⟩ := c.def_ 2 (d := d_is_number) rfl
  refine ⟨He.glo_ok X G (c.fact 2 (f := .glo "is_number") rfl), fd, F, fun j hj => ?_⟩
  exact ⟨[], by cases j <;> exact .nil, F.bindsN fun _ _ _ _ _ _ us hl => match us, hl with | [_,_,_], _ => rfl⟩
theorem at_check_cells (X : K.In h) (G : h.Ns mainGlobals mg) (c : SaysX fa fn K) : At K mg "check_cells" G48.s_check_cells ["cells"] [] := by
  obtain ⟨fd, F⟩ := c.def_ 3 (d := d_check_cells) rfl
  refine ⟨He.glo_ok X G (c.fact 3 (f := .glo "check_cells") rfl), fd, F, fun j hj => ?_⟩
  exact ⟨[], by cases j <;> exact .nil, F.bindsN fun _ _ _ _ _ _ us hl => match us, hl with | [_], _ => rfl⟩
theorem at_is_row (X : K.In h) (G : h.Ns mainGlobals mg) (c : SaysX fa fn K) : At K mg "is_row" G48.s_is_row ["cells", "value"] [] := by
  obtain ⟨fd, F⟩ := c.def_ 4 (d := d_is_row) rfl
  refine ⟨He.glo_ok X G (c.fact 4 (f := .glo "is_row") rfl), fd, F, fun j hj => ?_⟩
  exact ⟨[], by cases j <;> exact .nil, F.bindsN fun _ _ _ _ _ _ us hl => match us, hl with | [_,_], _ => rfl⟩
theorem at_over (X : K.In h) (G : h.Ns mainGlobals mg) (c : SaysX fa fn K) : At K mg "over" G48.s_over ["newer", "older"] [] := by
  obtain ⟨fd, F⟩ := c.def_ 5 (d := d_over) rfl
  refine ⟨He.glo_ok X G (c.fact 5 (f := .glo "over") rfl), fd, F, fun j hj => ?_⟩
  exact ⟨[], by cases j <;> exact .nil, F.bindsN fun _ _ _ _ _ _ us hl => match us, hl with | [_,_], _ => rfl⟩
theorem at_lot_of (X : K.In h) (G : h.Ns mainGlobals mg) (c : SaysX fa fn K) : At K mg "lot_of" G48.s_lot_of ["row"] [] := by
  obtain ⟨fd, F⟩ := c.def_ 6 (d := d_lot_of) rfl
  refine ⟨He.glo_ok X G (c.fact 6 (f := .glo "lot_of") rfl), fd, F, fun j hj => ?_⟩
  exact ⟨[], by cases j <;> exact .nil, F.bindsN fun _ _ _ _ _ _ us hl => match us, hl with | [_], _ => rfl⟩
theorem at_blank (X : K.In h) (G : h.Ns mainGlobals mg) (c : SaysX fa fn K) : At K mg "blank" G48.s_blank ["many"] [] := by
  obtain ⟨fd, F⟩ := c.def_ 7 (d := d_blank) rfl
  refine ⟨He.glo_ok X G (c.fact 7 (f := .glo "blank") rfl), fd, F, fun j hj => ?_⟩
  exact ⟨[], by cases j <;> exact .nil, F.bindsN fun _ _ _ _ _ _ us hl => match us, hl with | [_], _ => rfl⟩
theorem at_within (X : K.In h) (G : h.Ns mainGlobals mg) (c : SaysX fa fn K) : At K mg "within" G48.s_within ["one", "other"] [] := by
  obtain ⟨fd, F⟩ := c.def_ 8 (d := d_within) rfl
  refine ⟨He.glo_ok X G (c.fact 8 (f := .glo "within") rfl), fd, F, fun j hj => ?_⟩
  exact ⟨[], by cases j <;> exact .nil, F.bindsN fun _ _ _ _ _ _ us hl => match us, hl with | [_,_], _ => rfl⟩
theorem at_union (X : K.In h) (G : h.Ns mainGlobals mg) (c : SaysX fa fn K) : At K mg "union" G48.s_union ["one", "other"] [] := by
  obtain ⟨fd, F⟩ := c.def_ 9 (d := d_union) rfl
  refine ⟨He.glo_ok X G (c.fact 9 (f := .glo "union") rfl), fd, F, fun j hj => ?_⟩
  exact ⟨[], by cases j <;> exact .nil, F.bindsN fun _ _ _ _ _ _ us hl => match us, hl with | [_,_], _ => rfl⟩
theorem at_cut (X : K.In h) (G : h.Ns mainGlobals mg) (c : SaysX fa fn K) : At K mg "cut" G48.s_cut ["row", "places"] [] := by
  obtain ⟨fd, F⟩ := c.def_ 10 (d := d_cut) rfl
  refine ⟨He.glo_ok X G (c.fact 10 (f := .glo "cut") rfl), fd, F, fun j hj => ?_⟩
  exact ⟨[], by cases j <;> exact .nil, F.bindsN fun _ _ _ _ _ _ us hl => match us, hl with | [_,_], _ => rfl⟩
theorem at_lot_size (X : K.In h) (G : h.Ns mainGlobals mg) (c : SaysX fa fn K) : At K mg "lot_size" G48.s_lot_size ["lot"] [] := by
  obtain ⟨fd, F⟩ := c.def_ 11 (d := d_lot_size) rfl
  refine ⟨He.glo_ok X G (c.fact 11 (f := .glo "lot_size") rfl), fd, F, fun j hj => ?_⟩
  exact ⟨[], by cases j <;> exact .nil, F.bindsN fun _ _ _ _ _ _ us hl => match us, hl with | [_], _ => rfl⟩
theorem at_ordered_lots (X : K.In h) (G : h.Ns mainGlobals mg) (c : SaysX fa fn K) : At K mg "ordered_lots" G48.s_ordered_lots ["lots"] [] := by
  obtain ⟨fd, F⟩ := c.def_ 12 (d := d_ordered_lots) rfl
  refine ⟨He.glo_ok X G (c.fact 12 (f := .glo "ordered_lots") rfl), fd, F, fun j hj => ?_⟩
  exact ⟨[], by cases j <;> exact .nil, F.bindsN fun _ _ _ _ _ _ us hl => match us, hl with | [_], _ => rfl⟩
theorem at_parts_of_sums (X : K.In h) (G : h.Ns mainGlobals mg) (c : SaysX fa fn K) : At K mg "parts_of_sums" G48.s_parts_of_sums ["band", "sums"] [] := by
  obtain ⟨fd, F⟩ := c.def_ 13 (d := d_parts_of_sums) rfl
  refine ⟨He.glo_ok X G (c.fact 13 (f := .glo "parts_of_sums") rfl), fd, F, fun j hj => ?_⟩
  exact ⟨[], by cases j <;> exact .nil, F.bindsN fun _ _ _ _ _ _ us hl => match us, hl with | [_,_], _ => rfl⟩
theorem at_signed_counts (X : K.In h) (G : h.Ns mainGlobals mg) (c : SaysX fa fn K) : At K mg "signed_counts" G48.s_signed_counts ["band"] [] := by
  obtain ⟨fd, F⟩ := c.def_ 14 (d := d_signed_counts) rfl
  refine ⟨He.glo_ok X G (c.fact 14 (f := .glo "signed_counts") rfl), fd, F, fun j hj => ?_⟩
  exact ⟨[], by cases j <;> exact .nil, F.bindsN fun _ _ _ _ _ _ us hl => match us, hl with | [_], _ => rfl⟩
theorem at_check_seeds (X : K.In h) (G : h.Ns mainGlobals mg) (c : SaysX fa fn K) : At K mg "check_seeds" G48.s_check_seeds ["cells", "seeds"] [] := by
  obtain ⟨fd, F⟩ := c.def_ 15 (d := d_check_seeds) rfl
  refine ⟨He.glo_ok X G (c.fact 15 (f := .glo "check_seeds") rfl), fd, F, fun j hj => ?_⟩
  exact ⟨[], by cases j <;> exact .nil, F.bindsN fun _ _ _ _ _ _ us hl => match us, hl with | [_,_], _ => rfl⟩
theorem at_grown_rows (X : K.In h) (G : h.Ns mainGlobals mg) (c : SaysX fa fn K) : At K mg "grown_rows" G48.s_grown_rows ["seeds", "first", "most"] [] := by
  obtain ⟨fd, F⟩ := c.def_ 16 (d := d_grown_rows) rfl
  refine ⟨He.glo_ok X G (c.fact 16 (f := .glo "grown_rows") rfl), fd, F, fun j hj => ?_⟩
  exact ⟨[], by cases j <;> exact .nil, F.bindsN fun _ _ _ _ _ _ us hl => match us, hl with | [_,_,_], _ => rfl⟩
theorem at_Band___init__ (X : K.In h) (G : h.Ns mainGlobals mg) (c : SaysX fa fn K) : AtI K mg "Band" "Band.__init__" G48.s_Band___init__ ["self", "cells", "seeds", "most"] ([.int 800] : List V) := by
  obtain ⟨fd, F⟩ := c.def_ 17 (d := d_Band___init__) rfl
  exact ⟨He.glo_ok X G (c.fact 58 (f := .glo "Band") rfl), He.mkr_ok (c.fact 65 (f := .mkr "Band") rfl), fd, _, _, F, F.binds0 3 (List.cons_ne_nil _ _) rfl fun D doc pm an cdv ct us ks h1 h2 => match us, ks, h1, h2 with | [_,_,_], [_], _, _ => ⟨_, _, _, _, _, _, rfl, rfl, rfl⟩⟩
theorem at_Band_rows (X : K.In h) (G : h.Ns mainGlobals mg) (c : SaysX fa fn K) : AtM K "Band" "rows" "Band.rows" G48.s_Band_rows ["self"] ([] : List V) := by
  obtain ⟨fd, F⟩ := c.def_ 18 (d := d_Band_rows) rfl
  exact ⟨He.meth_ok (c.fact 66 (f := .meth "Band" "rows") rfl), fd, _, _, F, [], .nil, F.bindsN fun _ _ _ _ _ _ us hl => match us, hl with | [_], _ => rfl⟩
theorem at_Band_lots (X : K.In h) (G : h.Ns mainGlobals mg) (c : SaysX fa fn K) : AtM K "Band" "lots" "Band.lots" G48.s_Band_lots ["self"] ([] : List V) := by
  obtain ⟨fd, F⟩ := c.def_ 19 (d := d_Band_lots) rfl
  exact ⟨He.meth_ok (c.fact 67 (f := .meth "Band" "lots") rfl), fd, _, _, F, [], .nil, F.bindsN fun _ _ _ _ _ _ us hl => match us, hl with | [_], _ => rfl⟩
theorem at_cut_band (X : K.In h) (G : h.Ns mainGlobals mg) (c : SaysX fa fn K) : At K mg "cut_band" G48.s_cut_band ["cells", "seeds", "places"] [] := by
  obtain ⟨fd, F⟩ := c.def_ 20 (d := d_cut_band) rfl
  refine ⟨He.glo_ok X G (c.fact 17 (f := .glo "cut_band") rfl), fd, F, fun j hj => ?_⟩
  exact ⟨[], by cases j <;> exact .nil, F.bindsN fun _ _ _ _ _ _ us hl => match us, hl with | [_,_,_], _ => rfl⟩
theorem at__law_start (X : K.In h) (G : h.Ns mainGlobals mg) (c : SaysX fa fn K) : At K mg "_law_start" G48.s__law_start ["_law_script"] [] := by
  obtain ⟨fd, F⟩ := c.def_ 21 (d := d__law_start) rfl
  refine ⟨He.glo_ok X G (c.fact 18 (f := .glo "_law_start") rfl), fd, F, fun j hj => ?_⟩
  exact ⟨[], by cases j <;> exact .nil, F.bindsN fun _ _ _ _ _ _ us hl => match us, hl with | [_], _ => rfl⟩
theorem at__law_pull (X : K.In h) (G : h.Ns mainGlobals mg) (c : SaysX fa fn K) : At K mg "_law_pull" G48.s__law_pull ["_law_bag", "_law_many"] [] := by
  obtain ⟨fd, F⟩ := c.def_ 22 (d := d__law_pull) rfl
  refine ⟨He.glo_ok X G (c.fact 19 (f := .glo "_law_pull") rfl), fd, F, fun j hj => ?_⟩
  exact ⟨[], by cases j <;> exact .nil, F.bindsN fun _ _ _ _ _ _ us hl => match us, hl with | [_,_], _ => rfl⟩
theorem at__law_pick (X : K.In h) (G : h.Ns mainGlobals mg) (c : SaysX fa fn K) : At K mg "_law_pick" G48.s__law_pick ["_law_bag", "_law_some"] [] := by
  obtain ⟨fd, F⟩ := c.def_ 23 (d := d__law_pick) rfl
  refine ⟨He.glo_ok X G (c.fact 20 (f := .glo "_law_pick") rfl), fd, F, fun j hj => ?_⟩
  exact ⟨[], by cases j <;> exact .nil, F.bindsN fun _ _ _ _ _ _ us hl => match us, hl with | [_,_], _ => rfl⟩
theorem at__law_taken (X : K.In h) (G : h.Ns mainGlobals mg) (c : SaysX fa fn K) : At K mg "_law_taken" G48.s__law_taken ["_law_bag", "_law_some", "_law_many"] [] := by
  obtain ⟨fd, F⟩ := c.def_ 24 (d := d__law_taken) rfl
  refine ⟨He.glo_ok X G (c.fact 21 (f := .glo "_law_taken") rfl), fd, F, fun j hj => ?_⟩
  exact ⟨[], by cases j <;> exact .nil, F.bindsN fun _ _ _ _ _ _ us hl => match us, hl with | [_,_,_], _ => rfl⟩
theorem at__law_same (X : K.In h) (G : h.Ns mainGlobals mg) (c : SaysX fa fn K) : At K mg "_law_same" G48.s__law_same ["_law_found", "_law_due"] [] := by
  obtain ⟨fd, F⟩ := c.def_ 25 (d := d__law_same) rfl
  refine ⟨He.glo_ok X G (c.fact 22 (f := .glo "_law_same") rfl), fd, F, fun j hj => ?_⟩
  exact ⟨[], by cases j <;> exact .nil, F.bindsN fun _ _ _ _ _ _ us hl => match us, hl with | [_,_], _ => rfl⟩
theorem at__law_number (X : K.In h) (G : h.Ns mainGlobals mg) (c : SaysX fa fn K) : At K mg "_law_number" G48.s__law_number ["_law_value"] [] := by
  obtain ⟨fd, F⟩ := c.def_ 26 (d := d__law_number) rfl
  refine ⟨He.glo_ok X G (c.fact 23 (f := .glo "_law_number") rfl), fd, F, fun j hj => ?_⟩
  exact ⟨[], by cases j <;> exact .nil, F.bindsN fun _ _ _ _ _ _ us hl => match us, hl with | [_], _ => rfl⟩
theorem at__law_ordered (X : K.In h) (G : h.Ns mainGlobals mg) (c : SaysX fa fn K) : At K mg "_law_ordered" G48.s__law_ordered ["_law_some"] [] := by
  obtain ⟨fd, F⟩ := c.def_ 27 (d := d__law_ordered) rfl
  refine ⟨He.glo_ok X G (c.fact 24 (f := .glo "_law_ordered") rfl), fd, F, fun j hj => ?_⟩
  exact ⟨[], by cases j <;> exact .nil, F.bindsN fun _ _ _ _ _ _ us hl => match us, hl with | [_], _ => rfl⟩
theorem at__law_over (X : K.In h) (G : h.Ns mainGlobals mg) (c : SaysX fa fn K) : At K mg "_law_over" G48.s__law_over ["_law_newer", "_law_older"] [] := by
  obtain ⟨fd, F⟩ := c.def_ 28 (d := d__law_over) rfl
  refine ⟨He.glo_ok X G (c.fact 25 (f := .glo "_law_over") rfl), fd, F, fun j hj => ?_⟩
  exact ⟨[], by cases j <;> exact .nil, F.bindsN fun _ _ _ _ _ _ us hl => match us, hl with | [_,_], _ => rfl⟩
theorem at__law_lot (X : K.In h) (G : h.Ns mainGlobals mg) (c : SaysX fa fn K) : At K mg "_law_lot" G48.s__law_lot ["_law_row"] [] := by
  obtain ⟨fd, F⟩ := c.def_ 29 (d := d__law_lot) rfl
  refine ⟨He.glo_ok X G (c.fact 26 (f := .glo "_law_lot") rfl), fd, F, fun j hj => ?_⟩
  exact ⟨[], by cases j <;> exact .nil, F.bindsN fun _ _ _ _ _ _ us hl => match us, hl with | [_], _ => rfl⟩
theorem at__law_within (X : K.In h) (G : h.Ns mainGlobals mg) (c : SaysX fa fn K) : At K mg "_law_within" G48.s__law_within ["_law_one", "_law_other"] [] := by
  obtain ⟨fd, F⟩ := c.def_ 30 (d := d__law_within) rfl
  refine ⟨He.glo_ok X G (c.fact 27 (f := .glo "_law_within") rfl), fd, F, fun j hj => ?_⟩
  exact ⟨[], by cases j <;> exact .nil, F.bindsN fun _ _ _ _ _ _ us hl => match us, hl with | [_,_], _ => rfl⟩
theorem at__law_lots_of (X : K.In h) (G : h.Ns mainGlobals mg) (c : SaysX fa fn K) : At K mg "_law_lots_of" G48.s__law_lots_of ["_law_some"] [] := by
  obtain ⟨fd, F⟩ := c.def_ 31 (d := d__law_lots_of) rfl
  refine ⟨He.glo_ok X G (c.fact 28 (f := .glo "_law_lots_of") rfl), fd, F, fun j hj => ?_⟩
  exact ⟨[], by cases j <;> exact .nil, F.bindsN fun _ _ _ _ _ _ us hl => match us, hl with | [_], _ => rfl⟩
theorem at__law_closure (X : K.In h) (G : h.Ns mainGlobals mg) (c : SaysX fa fn K) : At K mg "_law_closure" G48.s__law_closure ["_law_size", "_law_given", "_law_limit"] [] := by
  obtain ⟨fd, F⟩ := c.def_ 32 (d := d__law_closure) rfl
  refine ⟨He.glo_ok X G (c.fact 29 (f := .glo "_law_closure") rfl), fd, F, fun j hj => ?_⟩
  exact ⟨[], by cases j <;> exact .nil, F.bindsN fun _ _ _ _ _ _ us hl => match us, hl with | [_,_,_], _ => rfl⟩
theorem at__law_told_all (X : K.In h) (G : h.Ns mainGlobals mg) (c : SaysX fa fn K) : At K mg "_law_told_all" G48.s__law_told_all ["_law_given", "_law_filler", "_law_place"] [] := by
  obtain ⟨fd, F⟩ := c.def_ 33 (d := d__law_told_all) rfl
  refine ⟨He.glo_ok X G (c.fact 30 (f := .glo "_law_told_all") rfl), fd, F, fun j hj => ?_⟩
  exact ⟨[], by cases j <;> exact .nil, F.bindsN fun _ _ _ _ _ _ us hl => match us, hl with | [_,_,_], _ => rfl⟩
theorem at__law_draw_name (X : K.In h) (G : h.Ns mainGlobals mg) (c : SaysX fa fn K) : At K mg "_law_draw_name" G48.s__law_draw_name ["_law_bag", "_law_names"] [] := by
  obtain ⟨fd, F⟩ := c.def_ 34 (d := d__law_draw_name) rfl
  refine ⟨He.glo_ok X G (c.fact 31 (f := .glo "_law_draw_name") rfl), fd, F, fun j hj => ?_⟩
  exact ⟨[], by cases j <;> exact .nil, F.bindsN fun _ _ _ _ _ _ us hl => match us, hl with | [_,_], _ => rfl⟩
theorem at__law_draw_cells (X : K.In h) (G : h.Ns mainGlobals mg) (c : SaysX fa fn K) : At K mg "_law_draw_cells" G48.s__law_draw_cells ["_law_bag", "_law_size", "_law_taken_here"] [] := by
  obtain ⟨fd, F⟩ := c.def_ 35 (d := d__law_draw_cells) rfl
  refine ⟨He.glo_ok X G (c.fact 32 (f := .glo "_law_draw_cells") rfl), fd, F, fun j hj => ?_⟩
  exact ⟨[], by cases j <;> exact .nil, F.bindsN fun _ _ _ _ _ _ us hl => match us, hl with | [_,_,_], _ => rfl⟩
theorem at__law_draw_band (X : K.In h) (G : h.Ns mainGlobals mg) (c : SaysX fa fn K) : At K mg "_law_draw_band" G48.s__law_draw_band ["_law_bag", "_law_size", "_law_taken_here", "_law_limit", "_law_few"] [] := by
  obtain ⟨fd, F⟩ := c.def_ 36 (d := d__law_draw_band) rfl
  refine ⟨He.glo_ok X G (c.fact 33 (f := .glo "_law_draw_band") rfl), fd, F, fun j hj => ?_⟩
  exact ⟨[], by cases j <;> exact .nil, F.bindsN fun _ _ _ _ _ _ us hl => match us, hl with | [_,_,_,_,_], _ => rfl⟩
theorem at__law_draw_world (X : K.In h) (G : h.Ns mainGlobals mg) (c : SaysX fa fn K) : At K mg "_law_draw_world" G48.s__law_draw_world ["_law_bag"] [] := by
  obtain ⟨fd, F⟩ := c.def_ 37 (d := d__law_draw_world) rfl
  refine ⟨He.glo_ok X G (c.fact 34 (f := .glo "_law_draw_world") rfl), fd, F, fun j hj => ?_⟩
  exact ⟨[], by cases j <;> exact .nil, F.bindsN fun _ _ _ _ _ _ us hl => match us, hl with | [_], _ => rfl⟩
theorem at__law_in_order (X : K.In h) (G : h.Ns mainGlobals mg) (c : SaysX fa fn K) : At K mg "_law_in_order" G48.s__law_in_order ["_law_lots", "_law_table"] [] := by
  obtain ⟨fd, F⟩ := c.def_ 38 (d := d__law_in_order) rfl
  refine ⟨He.glo_ok X G (c.fact 35 (f := .glo "_law_in_order") rfl), fd, F, fun j hj => ?_⟩
  exact ⟨[], by cases j <;> exact .nil, F.bindsN fun _ _ _ _ _ _ us hl => match us, hl with | [_,_], _ => rfl⟩
theorem at__law_union (X : K.In h) (G : h.Ns mainGlobals mg) (c : SaysX fa fn K) : At K mg "_law_union" G48.s__law_union ["_law_one", "_law_other"] [] := by
  obtain ⟨fd, F⟩ := c.def_ 39 (d := d__law_union) rfl
  refine ⟨He.glo_ok X G (c.fact 36 (f := .glo "_law_union") rfl), fd, F, fun j hj => ?_⟩
  exact ⟨[], by cases j <;> exact .nil, F.bindsN fun _ _ _ _ _ _ us hl => match us, hl with | [_,_], _ => rfl⟩
theorem at__law_lots_right (X : K.In h) (G : h.Ns mainGlobals mg) (c : SaysX fa fn K) : At K mg "_law_lots_right" G48.s__law_lots_right ["_law_bag", "_law_band", "_law_some", "_law_lots"] [] := by
  obtain ⟨fd, F⟩ := c.def_ 40 (d := d__law_lots_right) rfl
  refine ⟨He.glo_ok X G (c.fact 37 (f := .glo "_law_lots_right") rfl), fd, F, fun j hj => ?_⟩
  exact ⟨[], by cases j <;> exact .nil, F.bindsN fun _ _ _ _ _ _ us hl => match us, hl with | [_,_,_,_], _ => rfl⟩
theorem at__law_signed (X : K.In h) (G : h.Ns mainGlobals mg) (c : SaysX fa fn K) : At K mg "_law_signed" G48.s__law_signed ["_law_lots"] [] := by
  obtain ⟨fd, F⟩ := c.def_ 41 (d := d__law_signed) rfl
  refine ⟨He.glo_ok X G (c.fact 38 (f := .glo "_law_signed") rfl), fd, F, fun j hj => ?_⟩
  exact ⟨[], by cases j <;> exact .nil, F.bindsN fun _ _ _ _ _ _ us hl => match us, hl with | [_], _ => rfl⟩
theorem at__law_signed_right (X : K.In h) (G : h.Ns mainGlobals mg) (c : SaysX fa fn K) : At K mg "_law_signed_right" G48.s__law_signed_right ["_law_band", "_law_lots"] [] := by
  obtain ⟨fd, F⟩ := c.def_ 42 (d := d__law_signed_right) rfl
  refine ⟨He.glo_ok X G (c.fact 39 (f := .glo "_law_signed_right") rfl), fd, F, fun j hj => ?_⟩
  exact ⟨[], by cases j <;> exact .nil, F.bindsN fun _ _ _ _ _ _ us hl => match us, hl with | [_,_], _ => rfl⟩
theorem at_law (X : K.In h) (G : h.Ns mainGlobals mg) (c : SaysX fa fn K) : At K mg "law" G48.s_law ["_law_script"] [] := by
  obtain ⟨fd, F⟩ := c.def_ 43 (d := d_law) rfl
  refine ⟨He.glo_ok X G (c.fact 40 (f := .glo "law") rfl), fd, F, fun j hj => ?_⟩
  exact ⟨[], by cases j <;> exact .nil, F.bindsN fun _ _ _ _ _ _ us hl => match us, hl with | [_], _ => rfl⟩
theorem cls_Band (c : SaysX fa fn K) : ClsF K "Band" fl_Band := by
  refine ⟨He.cls_ok (c.fact 59 (f := .cls "Band") rfl), fun f hf => ?_⟩
  simp only [fl_Band, List.mem_cons, List.not_mem_nil, or_false] at hf
  rcases hf with rfl | rfl | rfl | rfl | rfl
  · exact He.noat_ok (c.fact 60 (f := .noat "Band" "cell_list") rfl)
  · exact He.noat_ok (c.fact 61 (f := .noat "Band" "seed_list") rfl)
  · exact He.noat_ok (c.fact 62 (f := .noat "Band" "row_list") rfl)
  · exact He.noat_ok (c.fact 63 (f := .noat "Band" "known_rows") rfl)
  · exact He.noat_ok (c.fact 64 (f := .noat "Band" "lot_list") rfl)
theorem bl (X : K.In h) (G : h.Ns mainGlobals mg) (c : SaysX fa fn K) : G48.Bl mg := ⟨He.free_ok X G (c.fact 41 (f := .free "all") rfl), He.free_ok X G (c.fact 42 (f := .free "any") rfl), He.free_ok X G (c.fact 43 (f := .free "bool") rfl), He.free_ok X G (c.fact 44 (f := .free "dict") rfl), He.free_ok X G (c.fact 45 (f := .free "enumerate") rfl), He.free_ok X G (c.fact 46 (f := .free "int") rfl), He.free_ok X G (c.fact 47 (f := .free "isinstance") rfl), He.free_ok X G (c.fact 48 (f := .free "len") rfl), He.free_ok X G (c.fact 49 (f := .free "list") rfl), He.free_ok X G (c.fact 50 (f := .free "range") rfl), He.free_ok X G (c.fact 51 (f := .free "reversed") rfl), He.free_ok X G (c.fact 52 (f := .free "set") rfl), He.free_ok X G (c.fact 53 (f := .free "sorted") rfl), He.free_ok X G (c.fact 54 (f := .free "str") rfl), He.free_ok X G (c.fact 55 (f := .free "sum") rfl), He.free_ok X G (c.fact 56 (f := .free "tuple") rfl), He.free_ok X G (c.fact 57 (f := .free "zip") rfl), He.str_ok X G (c.fact 68 (f := .str "LETTERS" "abcdefghijklmnopqrstuvwxyz") rfl), He.int_ok X G (c.fact 69 (f := .int "MOST_ROWS" 800) rfl), He.int_ok X G (c.fact 70 (f := .int "MOST_SEEDS" 30) rfl), He.int_ok X G (c.fact 71 (f := .int "MOST_CELLS" 12) rfl), He.int_ok X G (c.fact 72 (f := .int "MOST_VALUES" 4) rfl)⟩
theorem glo_law (c : SaysX fa fn K) : (He.Fa.glo "law").ok K = true := (c.fact 40 (f := .glo "law") rfl)
end
end Hd48

set_option maxHeartbeats 8000000
namespace H48
open PySem PySem.Spec PyProof.Rows Nt G48
open L2 hiding rLen
local macro_rules | `(tactic| walk_at "rep") => `(tactic| first
  | assumption
  | with_reducible exact Rep.int _
  | with_reducible exact Rep.str _
  | with_reducible exact Rep.bl _
  | with_reducible exact Rep.non
  | (refine Rep.ex (by assumption) ?_; walk_at "rep")
  | (refine Rep.off (by assumption) ?_; walk_at "rep"))
local macro_rules | `(tactic| walk_at "reps") => `(tactic| first
  | with_reducible exact Reps.nil
  | with_reducible exact Reps.cons (by with_unfolding_all walk_at "rep") (by with_unfolding_all walk_at "reps")
  | assumption
  | (refine Reps.ex (by assumption) ?_; walk_at "reps")
  | (refine Reps.off (by assumption) ?_; walk_at "reps"))
local macro_rules | `(tactic| walk_at "ex") => `(tactic| first
  | with_reducible exact Ex.refl _
  | assumption
  | (refine Ex.trans ?_ (by assumption); walk_at "ex"))
local macro_rules | `(tactic| walk_at "sz") => `(tactic| first
  | decide
  | (refine szOk ?_; first | omega | (simp only [List.length_append, List.length_cons, List.length_nil, List.length_map, List.length_take, List.length_drop, List.length_range]; omega)))
local macro_rules | `(tactic| walk_at "st") => `(tactic| (simp only [List.set_cons_zero, List.set_cons_succ]; exact rfl))
local macro_rules | `(tactic| walk_at "s1") => `(tactic| with_reducible first
  | apply sx_seq
  | (apply sx_var1; with_unfolding_all refine ⟨_, rfl, ?_⟩)
  | apply sx_c
  | apply sx_op
  | apply sx_asg
  | (apply gs_nameN; walk_at "st")
  | apply gs_name
  | apply sx_cons
  | apply sx_nil
  | apply sx_call
  | apply sx_cb
  | apply sx_tt
  | apply sx_tb
  | apply sx_ret
  | apply sx_ifS
  | apply sx_if
  | apply ex_b
  | apply ifT
  | apply ifF
  | apply ifNT
  | apply ifNF
  | apply sx_and
  | apply sx_or
  | apply sx_not
  | apply sx_andV
  | apply sx_orV
  | apply sx_notV
  | apply sx_chain
  | apply sx_lc
  | apply sx_for
  | apply sx_isrc
  | apply sx_izip
  | apply sx_ienum
  | apply sx_rng1
  | apply sx_rng2
  | apply sx_tup0
  | apply sx_lst0
  | apply sx_m1
  | apply sx_bm
  | apply sx_bm0
  | apply sx_sl
  | apply sx_nopart
  | apply sx_part
  | apply sx_un
  | apply sx_tru
  | apply sx_yes
  | apply sx_next
  | apply sx_drop
  | apply sx_par
  | apply sx_par3
  | apply sx_retN
  | apply sx_brk
  | apply sx_cnt
  | apply sx_rev
  | apply ex_i
  | apply ex_s
  | apply ex_2
  | apply ex_3
  | apply gs_sub
  | apply add_ii
  | (refine add_TT ?hz ?_; (case hz => with_unfolding_all walk_at "sz"))
  | apply sub_ii
  | apply lt_ii
  | apply le_ii
  | apply gt_ii
  | apply ge_ii
  | apply eq_ii
  | apply eq_11
  | apply eq_TT
  | apply eq_bb
  | apply ne_ii
  | apply ne_11
  | apply ne_TT
  | apply ne_bb
  | apply in_1T
  | apply ni_1T
  | apply isN_v
  | apply notN_v
  | apply isB_b
  | apply notB_b
  | apply neg_i
  | apply int_i
  | apply abs_i
  | (refine len_T ?hz ?_; (case hz => with_unfolding_all walk_at "sz"))
  | (apply tupK_id; refine tup_endF (by assumption) (by assumption) (by assumption) (by with_unfolding_all walk_at "reps") (by with_unfolding_all walk_at "sz") ?_; intro _ _ _ _ _)
  | (apply lstK_id; refine lst_endF (by assumption) (by assumption) (by assumption) (by with_unfolding_all walk_at "reps") (by with_unfolding_all walk_at "sz") ?_; intro _ _ _ _ _))
local macro_rules | `(tactic| walk_at "sx") => `(tactic| repeat' (walk_at "s1"))

/-! ### what stands for what -/
abbrev e1 : Nat → D := fun c => .str (T [c])
abbrev eS : List Nat → D := fun l => .str (T l)
abbrev eI : Nat → D := fun n => .int (n : Nat)
abbrev eC : List Nat × Nat → D := fun c => .tup [.str (T c.1), .int (c.2 : Nat)]
def lot (l : List Nat) : List Nat := l.map fun c => if c = 46 then 46 else 43
def uni (l m : List Nat) : List Nat := (l.zip m).map fun p => if 43 = p.1 ∨ 43 = p.2 then 43 else 46
def lay (l m : List Nat) : List Nat := (l.zip m).map fun p => if p.1 = 46 then p.2 else p.1
def isRow (fr : List (List Nat × Nat)) (l : List Nat) : Bool := decide (l.length = fr.length) && (l.zip fr).all fun p => decide (p.1 ∈ ([46, 48, 49, 50, 51] : List Nat).take (p.2.2 + 1))
/-- new places -/
def news (s t : List Nat) : List Nat := (s.zipIdx.filter fun p => !decide (p.1 = 46) && !decide (t[p.2]? = some 43)).map (·.2)
section
variable {P : Program} {w : World} {K : PySem.W.Frag} {mg : Str → Option Value} {base : Heap}
def spLot (K : PySem.W.Frag) : Sp := fun vs H Q _ => ∃ M I l, Wf M I ∧ I H ∧ vs = [.str (T l)] ∧ l.length ≤ 1000 ∧ ∀ H', Ex M H H' → I H' → Q (.str (T (lot l))) H'
theorem ok_lot_of (B : Bl mg) (F : At K mg "lot_of" s_lot_of ["row"] []) : Df P w K mg base 1 "lot_of" ["row"] [] (spLot K) := by
  refine F.df sc_lot_of (fun vs H Q E h => ?_) (fun f cdv A outer s H vs Q E hr h => ⟨_, w_lot_of B hr, ?_⟩)
  · obtain ⟨M, I, l, _, _, rfl, _⟩ := h
    rfl
  · obtain ⟨M, I, l, hw, hI, rfl, hl, q⟩ := h
    unfold t_lot_of
    walk_at "sx"
    refine lc_srcM (as := l) (enc := e1) (fun c => .str (T [if c = 46 then 46 else 43])) hw hI (by walk_at "rep") rfl (by walk_at "sz") (fun _ => rfl) ?_ ?_
    · intro L acc k a v H hL ha rv wf hi ex Qe q
      cases rep_str rv
      walk_at "sx"
      refine ifB (fun h => ?_) (fun h => ?_) <;> walk_at "sx"
      · exact q _ _ (by simp at h; simp [h]; exact .str _) hi (Ex.refl _)
      · exact q _ _ (by simp at h; simp [h]; exact .str _) hi (Ex.refl _)
    · intro y H' rp ex hi
      exact join_1 _ rp (by omega) (q _ ex hi)
def spUni (K : PySem.W.Frag) : Sp := fun vs H Q _ => ∃ M I l m, Wf M I ∧ I H ∧ vs = [.str (T l), .str (T m)] ∧ l.length ≤ 1000 ∧ ∀ H', Ex M H H' → I H' → Q (.str (T (uni l m))) H'
theorem ok_union (B : Bl mg) (F : At K mg "union" s_union ["one", "other"] []) : Df P w K mg base 1 "union" ["one", "other"] [] (spUni K) := by
  refine F.df sc_union (fun vs H Q E h => ?_) (fun f cdv A outer s H vs Q E hr h => ⟨_, w_union B hr, ?_⟩)
  · obtain ⟨M, I, l, m, _, _, rfl, _⟩ := h
    rfl
  · obtain ⟨M, I, l, m, hw, hI, rfl, hl, q⟩ := h
    unfold t_union
    walk_at "sx"
    refine lc_zipM (as := l) (bs := m) (enc := e1) (enc2 := e1) (fun p => .str (T [if 43 = p.1 ∨ 43 = p.2 then 43 else 46])) hw hI (.str _) rfl (.str _) rfl (by walk_at "sz") (fun _ _ => rfl) ?_ ?_
    · intro L acc k a b v u H hL ha hb rv rw wf hi ex Qe q
      cases rep_str rv
      cases rep_str rw
      walk_at "sx"
      refine in_L (ls := [[a], [b]]) (by assumption) (.inr rfl) ?_
      walk_at "sx"
      refine ifB (fun h => ?_) (fun h => ?_) <;> walk_at "sx"
      · exact q _ _ (by simp at h; simp [h]; exact .str _) (by assumption) (by assumption)
      · exact q _ _ (by simp at h; simp [h]; exact .str _) (by assumption) (by assumption)
    · intro y H' rp ex hi
      exact join_1 _ rp (by simp; omega) (q _ ex hi)
def spBlank (K : PySem.W.Frag) : Sp := fun vs H Q _ => ∃ n : Nat, vs = [.int n] ∧ n ≤ 1000 ∧ Q (.str (T (List.replicate n 46))) H
theorem ok_blank (B : Bl mg) (F : At K mg "blank" s_blank ["many"] []) : Df P w K mg base 1 "blank" ["many"] [] (spBlank K) := by
  refine F.df sc_blank (fun vs H Q E h => ?_) (fun f cdv A outer s H vs Q E hr h => ⟨_, w_blank B hr, ?_⟩)
  · obtain ⟨n, rfl, _⟩ := h
    rfl
  · obtain ⟨n, rfl, hl, q⟩ := h
    unfold t_blank
    walk_at "sx"
    refine mul_Ti (by omega) (by decide) ?_
    rw [show (List.replicate n [46]).flatten = List.replicate n 46 from by induction n with
      | zero => rfl
      | succ n ih => simp [List.replicate_succ]]
    exact q
/-- the cells: a list or a tuple -/
def Cells (K : PySem.W.Frag) (M : Addr → Prop) (H : Hp) (x : V) (fr : List (List Nat × Nat)) : Prop := ∃ d, Rep K M H x d ∧ (d = .lst (fr.map eC) ∨ d = .tup (fr.map eC))
theorem Cells.ex {M : Addr → Prop} {H H' : Hp} {x : V} {fr : List (List Nat × Nat)} (e : Ex M H H') (h : Cells K M H x fr) : Cells K M H' x fr := by
  obtain ⟨d, h1, h2⟩ := h
  exact ⟨d, h1.ex e, h2⟩
theorem Cells.off {M : Addr → Prop} {H : Hp} {x : V} {fr : List (List Nat × Nat)} {q : Addr} (e : H q = none) (h : Cells K M H x fr) : Cells K (Mq M q) H x fr := by
  obtain ⟨d, h1, h2⟩ := h
  exact ⟨d, h1.off e, h2⟩
theorem Cells.ofL {M : Addr → Prop} {H : Hp} {x : V} {fr : List (List Nat × Nat)} (h : Rep K M H x (.lst (fr.map eC))) : Cells K M H x fr := ⟨_, h, .inl rfl⟩
theorem Cells.ix {M : Addr → Prop} {H : Hp} {x : V} {fr : List (List Nat × Nat)} {k : Nat} {Q : VK} (h : Cells K M H x fr) (hk : k < fr.length) (q : ∀ v, Rep K M H v (eC fr[k]) → Q v H) : rIx K x (.int (k : Nat)) H Q := by
  obtain ⟨d, h1, h2⟩ := h
  exact ix_R h1 h2 (by simp [hk]) q
theorem Cells.len {M : Addr → Prop} {H : Hp} {x : V} {fr : List (List Nat × Nat)} {Q : VK} (h : Cells K M H x fr) (q : Q (.int (fr.length : Nat)) H) : rLen K [x] H Q := by
  obtain ⟨d, h1, h2⟩ := h
  exact len_R h1 h2 (by rw [List.length_map]; exact q)
/-- data whose type shows -/
def Shows (d : D) : Prop := ∃ t, TyD d t
def isStr : D → Bool
  | .str _ => true
  | _ => false
def isTup : D → Bool
  | .tup _ => true
  | _ => false
def isLst : D → Bool
  | .lst _ => true
  | _ => false
def isInt : D → Bool
  | .int _ => true
  | .bl _ => true
  | _ => false
def isBl : D → Bool
  | .bl _ => true
  | _ => false
theorem isi_str {M : Addr → Prop} {H : Hp} {x : V} {d : D} {Q : VK} (h : Rep K M H x d) (hs : Shows d) (q : Q (.bl (isStr d)) H) : rIsi K [x, .ty "str"] H Q := by
  obtain ⟨t, ht⟩ := hs
  cases ht with
  | non => exact isi_D h .non (kit_ty (b := "str") (r := false) (by decide +kernel)) q
  | bl b => exact isi_D h (.bl b) (kit_ty (b := "str") (r := false) (by decide +kernel)) q
  | int b => exact isi_D h (.int b) (kit_ty (b := "str") (r := false) (by decide +kernel)) q
  | str b => exact isi_D h (.str b) (kit_ty (b := "str") (r := true) (by decide +kernel)) q
  | lst b => exact isi_D h (.lst b) (kit_ty (b := "str") (r := false) (by decide +kernel)) q
  | tup b => exact isi_D h (.tup b) (kit_ty (b := "str") (r := false) (by decide +kernel)) q
  | dct b => exact isi_D h (.dct b) (kit_ty (b := "str") (r := false) (by decide +kernel)) q
theorem isi_tup {M : Addr → Prop} {H : Hp} {x : V} {d : D} {Q : VK} (h : Rep K M H x d) (hs : Shows d) (q : Q (.bl (isTup d)) H) : rIsi K [x, .ty "tuple"] H Q := by
  obtain ⟨t, ht⟩ := hs
  cases ht with
  | non => exact isi_D h .non (kit_ty (b := "tuple") (r := false) (by decide +kernel)) q
  | bl b => exact isi_D h (.bl b) (kit_ty (b := "tuple") (r := false) (by decide +kernel)) q
  | int b => exact isi_D h (.int b) (kit_ty (b := "tuple") (r := false) (by decide +kernel)) q
  | str b => exact isi_D h (.str b) (kit_ty (b := "tuple") (r := false) (by decide +kernel)) q
  | lst b => exact isi_D h (.lst b) (kit_ty (b := "tuple") (r := false) (by decide +kernel)) q
  | tup b => exact isi_D h (.tup b) (kit_ty (b := "tuple") (r := true) (by decide +kernel)) q
  | dct b => exact isi_D h (.dct b) (kit_ty (b := "tuple") (r := false) (by decide +kernel)) q
def isRowD (fr : List (List Nat × Nat)) : D → Bool
  | .str z => isRow fr z.cps.toList
  | _ => false
/-- frame and value -/
def spIsRowD (K : PySem.W.Frag) : Sp := fun vs H Q _ => ∃ M I x v fr d, Wf M I ∧ I H ∧ vs = [x, v] ∧ Cells K M H x fr ∧ Rep K M H v d ∧ Shows d ∧ (∀ l, d = .str (T l) → l.length ≤ 1000) ∧ fr.length ≤ 1000 ∧ ∀ H', Ex M H H' → I H' → Q (.bl (isRowD fr d)) H'
theorem ok_is_row (B : Bl mg) (F : At K mg "is_row" s_is_row ["cells", "value"] []) : Df P w K mg base 1 "is_row" ["cells", "value"] [] (spIsRowD K) := by
  refine F.df sc_is_row (fun vs H Q E h => ?_) (fun f cdv A outer s H vs Q E hr h => ⟨_, w_is_row B hr, ?_⟩)
  · obtain ⟨M, I, x, v, fr, d, _, _, rfl, _⟩ := h
    rfl
  · obtain ⟨M, I, x, v, fr, d, hw, hI, rfl, hx, hv, hs, hl, hf, q⟩ := h
    unfold t_is_row
    walk_at "sx"
    refine isi_str hv hs ?_
    walk_at "sx"
    refine ifB (fun h => ?_) (fun h => ?_)
    · have h : isStr d = false := by simpa using h
      walk_at "sx"
      have e : isRowD fr d = false := by
        cases d <;> first | rfl | cases h
      rw [e] at q
      exact q H (Ex.refl _) hI
    · obtain ⟨l, rfl⟩ : ∃ l, d = .str (T l) := by
        cases d <;> first | exact ⟨_, rfl⟩ | cases h
      have hl := hl l rfl
      have e0 : isRowD fr (.str (T l)) = isRow fr l := rfl
      rw [e0] at q
      cases rep_str hv
      walk_at "sx"
      refine hx.len ?_
      walk_at "sx"
      refine ifB (fun h => ?_) (fun h => ?_)
      · walk_at "sx"
        have e : isRow fr l = false := by
          simp at h
          simp [isRow, h]
          intro z; omega
        rw [e] at q
        exact q H (Ex.refl _) hI
      · walk_at "sx"
        have hlen : l.length = fr.length := by simp at h; omega
        obtain ⟨dc, hx, hdc⟩ := hx
        refine lc_zipM (as := l) (bs := fr) (enc := e1) (enc2 := eC) (fun p => .bl (decide (p.1 ∈ ([46, 48, 49, 50, 51] : List Nat).take (p.2.2 + 1)))) hw hI (.str _) rfl hx (by rcases hdc with rfl | rfl <;> rfl) (by walk_at "sz") (fun _ _ => rfl) ?_ ?_
        · intro L acc k a b v u H hL ha hb rv rw wf hi ex Qe q
          cases rep_str rv
          walk_at "sx"
          refine ix_R (n := 1) rw (.inr rfl) rfl fun v hv => ?_
          cases rep_int hv
          walk_at "sx"
          refine sl_Tto (n := b.2 + 1) (by decide) ?_
          walk_at "sx"
          exact q _ _ (.bl _) (by assumption) (Ex.refl _)
        · intro y H' rp ex hi
          refine all_M _ rp ?_
          have e : isRow fr l = (l.zip fr).all fun p => decide (p.1 ∈ ([46, 48, 49, 50, 51] : List Nat).take (p.2.2 + 1)) := by simp [isRow, hlen]
          rw [e] at q
          exact q _ ex hi
def spIsRow (K : PySem.W.Frag) : Sp := fun vs H Q _ => ∃ M I x fr l, Wf M I ∧ I H ∧ vs = [x, .str (T l)] ∧ Cells K M H x fr ∧ l.length ≤ 1000 ∧ fr.length ≤ 1000 ∧ ∀ H', Ex M H H' → I H' → Q (.bl (isRow fr l)) H'
theorem row_str {k : Nat} {ps : List Str} (G : Df P w K mg base k "is_row" ps [] (spIsRowD K)) : Df P w K mg base k "is_row" ps [] (spIsRow K) := by
  obtain ⟨fd, h1, h2⟩ := G.ok
  refine ⟨G.mgx, ⟨fd, h1.imp fun vs H Q E h => ?_, h2⟩, G.kp⟩
  obtain ⟨M, I, x, fr, l, hw, hI, rfl, hx, hl, hf, q⟩ := h
  exact ⟨M, I, x, _, fr, .str (T l), hw, hI, rfl, hx, .str _, ⟨_, .str _⟩, fun m e => by cases (T_inj (by injection e) : l = m); exact hl, hf, q⟩
/-- seed, told -/
def spNews (K : PySem.W.Frag) : Sp := fun vs H Q _ => ∃ M I s t, Wf M I ∧ I H ∧ vs = [.str (T s), .str (T t)] ∧ s.length ≤ 1000 ∧ t.length = s.length ∧ ∀ y H', Ex M H H' → I H' → Rep K M H' y (.lst ((news s t).map eI)) → Q y H'
end



/-! ### coming -/
def canTake (s t r : List Nat) : Bool := !(news s t).isEmpty && (news s t).all fun k => decide (r[k]? = s[k]?)
def first (S : List (List Nat)) (t r : List Nat) : Option (List Nat) := S.find? fun s => canTake s t r
def takes (S : List (List Nat)) (r : List Nat) : Nat → List (List Nat) → List Nat → List (List Nat) × List Nat
  | 0, tk, t => (tk, t)
  | n + 1, tk, t => match first S t r with
    | none => (tk, t)
    | some s => takes S r n (tk ++ [s]) (uni t (lot s))
def taken (S : List (List Nat)) (r : List Nat) : List (List Nat) × List Nat := takes S r r.length [] (List.replicate r.length 46)
theorem news_lt {s t : List Nat} {k : Nat} (h : k ∈ news s t) : k < s.length := by
  unfold news at h
  obtain ⟨p, hp, rfl⟩ := List.mem_map.mp h
  obtain ⟨hp, _⟩ := List.mem_filter.mp hp
  have := List.mem_zipIdx hp
  omega
theorem lot_len (l : List Nat) : (lot l).length = l.length := by simp [lot]
theorem uni_len {l m : List Nat} (h : m.length = l.length) : (uni l m).length = l.length := by simp [uni, h]
def optS : Option (List Nat) → V
  | none => .non
  | some s => .str (T s)
section
variable {P : Program} {w : World} {K : PySem.W.Frag} {mg : Str → Option Value} {base : Heap}
theorem flat_I (l : List Nat) : ∀ d ∈ l.map eI, Flat d := by
  intro d hd
  obtain ⟨n, _, rfl⟩ := List.mem_map.mp hd
  trivial
def spCan (K : PySem.W.Frag) : Sp := fun vs H Q _ => ∃ M I s t r, Wf M I ∧ I H ∧ vs = [.str (T s), .str (T t), .str (T r)] ∧ s.length ≤ 1000 ∧ t.length = s.length ∧ r.length = s.length ∧ ∀ H', Ex M H H' → I H' → Q (.bl (canTake s t r)) H'
/-- seeds (a list or a tuple), told, row -/
def Seeds (K : PySem.W.Frag) (M : Addr → Prop) (H : Hp) (x : V) (S : List (List Nat)) : Prop := ∃ d, Rep K M H x d ∧ (d = .lst (S.map eS) ∨ d = .tup (S.map eS))
theorem Seeds.ex {M : Addr → Prop} {H H' : Hp} {x : V} {S : List (List Nat)} (e : Ex M H H') (h : Seeds K M H x S) : Seeds K M H' x S := by
  obtain ⟨d, r, z⟩ := h
  exact ⟨d, r.ex e, z⟩
theorem Seeds.off {M : Addr → Prop} {H : Hp} {x : V} {S : List (List Nat)} {q : Addr} (e : H q = none) (h : Seeds K M H x S) : Seeds K (Mq M q) H x S := by
  obtain ⟨d, r, z⟩ := h
  exact ⟨d, r.off e, z⟩
theorem seeds_el {d : D} {S : List (List Nat)} (h : d = .lst (S.map eS) ∨ d = .tup (S.map eS)) : d.elems = some (S.map eS) := by
  rcases h with rfl | rfl <;> rfl
def spFirst (K : PySem.W.Frag) : Sp := fun vs H Q _ => ∃ M I x S t r, Wf M I ∧ I H ∧ vs = [x, .str (T t), .str (T r)] ∧ Seeds K M H x S ∧ r.length ≤ 1000 ∧ t.length = r.length ∧ (∀ s ∈ S, s.length = r.length) ∧
  ∀ H', Ex M H H' → I H' → Q (optS (first S t r)) H'
end



/-! ### the bag of the laws k40 to k59 -/
section
variable {P : Program} {w : World} {K : PySem.W.Frag} {mg : Str → Option Value} {base : Heap}
def spBag (K : PySem.W.Frag) : Sp := fun vs H Q _ => ∃ (a : Addr) (ns : List Int), vs = [.ref a] ∧ SqL K H a (ns.map V.int) ∧ ns.length ≤ 63 ∧ ∀ b l H', b ≠ l → BagOk H' b l → Q (.ref b) H'
theorem ok_start (B : Bl mg) : Bok P w K mg base 1 "_law_start" s__law_start ["_law_script"] (spBag K) := by
  refine Bok.mk sc__law_start (fun vs H Q E h => ?_) (fun f cdv A outer s H vs Q E hr h => ⟨_, w__law_start B hr, ?_⟩)
  · obtain ⟨a, ns, rfl, _⟩ := h
    rfl
  · obtain ⟨a, ns, rfl, hS, hl, q⟩ := h
    unfold t__law_start
    refine st_eq (σ' := [some (.ref a), none, none]) rfl ?_
    walk_at "sx"
    have ec : cutV (ns.map V.int) none (some 63) = ns.map V.int := by
      have e := cut_to (xs := ns.map V.int) (n := 63)
      refine e.trans (List.take_of_length_le (by simpa using hl))
    refine .inl ⟨a, _, rfl, hS, fun p hp => ?_⟩
    rw [ec]
    have e1 : Ex M0 H (upd H p (.lst (ns.map V.int))) := Ex.of (same_upd hp)
    refine for_src (K := K) (M := M0) (as := ns) (enc := D.int) (.lst upd_same (fun h => h) (Reps.scal (fun i => .int i) ns)) rfl (fun k σ H1 => ∃ m v, σ = [some (.ref a), some (.int (m : Nat)), v] ∧ m < 2147483600 ∧ Ex M0 (upd H p (.lst (ns.map V.int))) H1)
      ⟨_, none, rfl, by decide, Ex.refl _⟩ (fun k σ H h => by obtain ⟨_, _, _, _, h⟩ := h; exact h) ?_ ?_
    · rintro k z v σ H1 hz ⟨m, v0, rfl, hm, e2⟩ rv
      cases rep_int rv
      walk_at "sx"
      refine mul_r (by decide) ?_
      walk_at "sx"
      refine mod_any (by decide) fun m2 h2 => ?_
      walk_at "sx"
      refine mod_any (by decide) fun m3 h3 => ?_
      walk_at "sx"
      exact ⟨m3, _, rfl, by omega, e2⟩
    · rintro σ H1 ⟨m, v0, rfl, hm, e2⟩
      walk_at "sx"
      refine .inl ⟨a, _, rfl, sq_l (e1.trans e2) (fun h => h) hS, fun p2 hp2 => ?_⟩
      rw [ec]
      walk_at "sx"
      refine .inl ⟨p2, _, rfl, .inl (SqL.of upd_same), fun l hl2 => ?_⟩
      walk_at "sx"
      refine ⟨by show 5 ≤ sizeLine; decide, fun b hb => ?_⟩
      have hn : b ≠ l := fun e => by subst e; rw [upd_same] at hb; cases hb
      exact q b l _ hn ⟨ns, 0, 0, m, 0, upd_same, by rw [upd_ne hn.symm, upd_same], by omega, by omega⟩
def spDraw (K : PySem.W.Frag) : Sp := fun vs H Q _ => ∃ (M : Addr → Prop) (I : Hp → Prop) (b : Addr) (n : Int), Wf M I ∧ I H ∧ HasBag M I b ∧ vs = [.ref b, .int n] ∧ 0 < n ∧ n < 2 ^ 200 ∧ ∀ (k : Nat) H', (k : Int) < n → Ex M H H' → I H' → Q (.int (k : Nat)) H'
theorem bag_keep {H H' : Hp} {b l : Addr} {cs : List Int} {i g m : Nat} {c : Int} (h : BagIs H b l cs i g m c) (e : ∀ p o, H p = some o → H' p = some o) : BagIs H' b l cs i g m c :=
  ⟨e _ _ h.hb, e _ _ h.hl, h.hm, h.hn⟩
theorem ok_pull (B : Bl mg) : Bok P w K mg base 1 "_law_pull" s__law_pull ["_law_bag", "_law_many"] (spDraw K) := by
  refine Bok.mk sc__law_pull (fun vs H Q E h => ?_) (fun f cdv A outer s H vs Q E hr h => ⟨_, w__law_pull B hr, ?_⟩)
  · obtain ⟨M, I, b, n, _, _, _, rfl, _⟩ := h
    rfl
  · obtain ⟨M, I, b, n, hw, hI, hB, rfl, hn, hn2, q⟩ := h
    have hlog : n.natAbs.log2 < 9000 := by
      have h1 : n.natAbs < 2 ^ 200 := by omega
      have := PySem.Flt.log2_lt_of (n := n.natAbs) (k := 200) (by decide) h1
      omega
    obtain ⟨l, hMb, hMl, hbl, hOk, hput⟩ := hB.ex
    have fin : ∀ (k : Nat) H', (k : Int) < n → (∀ p o, p ≠ b → H p = some o → H' p = some o) → BagOk H' b l → Q (.int (k : Nat)) H' := fun k H' hk e o =>
      q k H' hk (fun p u hp h => e p u (fun z => hp (z ▸ hMb)) h) (hput H H' hI (fun p hm hp => by
        cases z : H p with
        | none => exact absurd z (hw.live H hI p hm)
        | some u => rw [e p u hp z]) o)
    obtain ⟨cs, i, g, m, c, h0⟩ := hOk H hI
    unfold t__law_pull
    refine st_eq (σ' := [some (.ref b), some (.int n), none, none, none]) rfl ?_
    walk_at "sx"
    refine ix_raw h0.hb rfl ?_
    walk_at "sx"
    refine set_raw h0.hb rfl ?_
    have h1 : BagIs (upd H b (.lst (bagL l i g m (c + 1)))) b l cs i g m (c + 1) := bag_put h0 hbl h0.hm
    have k1 : ∀ p o, p ≠ b → H p = some o → (upd H b (.lst (bagL l i g m (c + 1)))) p = some o := fun p o hp h => (upd_ne hp).trans h
    have kp : ∀ {H2 : Hp} {xs : List V}, (∀ p o, p ≠ b → H p = some o → H2 p = some o) → ∀ p o, p ≠ b → H p = some o → (upd H2 b (.lst xs)) p = some o := fun {H2 xs} k p o hp h => (upd_ne hp).trans (k p o hp h)
    have kt : ∀ {H2 : Hp} {t : Addr} {xs : List V}, H2 t = none → (∀ p o, p ≠ b → H p = some o → H2 p = some o) → ∀ p o, p ≠ b → H p = some o → (upd H2 t (.tup xs)) p = some o := fun {H2 t xs} ht k p o hp h => same_upd ht p o (k p o hp h)
    with_reducible refine sx_seqJ (fun σ H2 => ∃ σ2 i g m, σ = [some (.ref b), some (.int n), σ2, none, none] ∧ BagIs H2 b l cs i g m (c + 1) ∧ ∀ p o, p ≠ b → H p = some o → H2 p = some o) (fun N hN => ?_) ?_
    · walk_at "sx"
      refine ix_raw h1.hb rfl ?_
      walk_at "sx"
      refine ifB (fun hg => ?_) (fun hg => ?_)
      · walk_at "sx"
        refine ix_raw h1.hb rfl ?_
        walk_at "sx"
        refine ix_raw h1.hb rfl ?_
        walk_at "sx"
        refine len_raw h1.hl ?_
        walk_at "sx"
        refine ifB (fun hi => ?_) (fun hi => ?_)
        · have hi2 : i < cs.length := by simpa using hi
          walk_at "sx"
          refine ix_raw h1.hb rfl ?_
          walk_at "sx"
          refine ix_raw h1.hb rfl ?_
          refine ix_raw (v := .int cs[i]) h1.hl (atI_nat' (by simp [hi2])) ?_
          walk_at "sx"
          refine ix_raw h1.hb rfl ?_
          walk_at "sx"
          refine ⟨by show 2 ≤ sizeLine; decide, fun t ht => ?_⟩
          have h2 := bag_keep h1 (same_upd (o := .tup [.int cs[i], .int ((i : Nat) + 1)]) ht)
          have k2 := kt (xs := [.int cs[i], .int ((i : Nat) + 1)]) ht k1
          refine ⟨t, _, rfl, SqT.of upd_same, rfl, _, _, rfl, _, [], rfl, ?_⟩
          with_reducible refine gs_sub ?_
          walk_at "sx"
          refine set_raw h2.hb rfl ?_
          have h3 := bag_put h2 hbl (i' := i + 1) (g' := g) (c' := c + 1) h2.hm
          have k3 := kp (xs := bagL l (i + 1) g m (c + 1)) k2
          refine ⟨rfl, ?_⟩
          walk_at "sx"
          refine pow_ii ⟨by decide, by decide, by decide⟩ ?_
          walk_at "sx"
          refine ifB (fun hp => ?_) (fun hp => ?_)
          · have hp2 : (10 : Int) ^ (18 : Int).toNat ≤ cs[i] := of_decide_eq_true hp
            have hp3 : cs[i] = ((cs[i].toNat : Nat) : Int) := by
              have : (0 : Int) ≤ (10 : Int) ^ (18 : Int).toNat := by decide
              omega
            walk_at "sx"
            refine set_raw h3.hb rfl ?_
            have h4 := bag_put h3 hbl (i' := i + 1) (g' := cs[i].toNat) (c' := c + 1) h3.hm
            have e4 : (bagL l (i + 1) g m (c + 1)).set (Int.toNat 2) (V.int cs[i]) = bagL l (i + 1) cs[i].toNat m (c + 1) := by
              conv => lhs; rw [hp3]
              rfl
            rw [e4]
            exact hN _ _ ⟨_, i + 1, cs[i].toNat, m, rfl, h4, kp k3⟩
          · walk_at "sx"
            refine ix_raw h3.hb rfl ?_
            walk_at "sx"
            refine mul_r (by decide) ?_
            walk_at "sx"
            refine mod_any (by decide) fun e he => ?_
            walk_at "sx"
            refine mul_r (by decide) ?_
            walk_at "sx"
            refine mod_any (by decide) fun m3 h3' => ?_
            walk_at "sx"
            refine set_raw h3.hb rfl ?_
            exact hN _ _ ⟨_, i + 1, g, m3, rfl, bag_put h3 hbl (by omega), kp k3⟩
        · walk_at "sx"
          exact hN _ _ ⟨_, i, g, m, rfl, h1, k1⟩
      · walk_at "sx"
        exact hN _ _ ⟨_, i, g, m, rfl, h1, k1⟩
    · rintro σ H2 ⟨σ2, i, g, m, rfl, h2, k2⟩
      walk_at "sx"
      refine ix_raw h2.hb rfl ?_
      walk_at "sx"
      refine ifB (fun hg => ?_) (fun hg => ?_)
      · walk_at "sx"
        refine ix_raw h2.hb rfl ?_
        walk_at "sx"
        refine mod_any hn fun k hk => ?_
        walk_at "sx"
        refine ix_raw h2.hb rfl ?_
        walk_at "sx"
        refine div_any hn hlog fun g3 => ?_
        walk_at "sx"
        refine ⟨by show 2 ≤ sizeLine; decide, fun t ht => ?_⟩
        have h3 := bag_keep h2 (same_upd (o := .tup [.int (k : Nat), .int (g3 : Nat)]) ht)
        have k3 := kt (xs := [.int (k : Nat), .int (g3 : Nat)]) ht k2
        refine ⟨t, _, rfl, SqT.of upd_same, rfl, _, _, rfl, _, [], rfl, ?_⟩
        with_reducible refine gs_sub ?_
        walk_at "sx"
        refine set_raw h3.hb rfl ?_
        refine ⟨rfl, ?_⟩
        walk_at "sx"
        exact fin k _ hk (kp k3) ⟨_, _, _, _, _, bag_put h3 hbl (i' := i) (g' := g3) (c' := c + 1) h3.hm⟩
      · walk_at "sx"
        refine ix_raw h2.hb rfl ?_
        walk_at "sx"
        have hm := h2.hm
        refine pow_ii ⟨by decide, by decide, by omega⟩ ?_
        walk_at "sx"
        refine mul_r (by decide) ?_
        walk_at "sx"
        refine ix_raw h2.hb rfl ?_
        walk_at "sx"
        refine mul_r (by decide) ?_
        walk_at "sx"
        refine mod_any (by decide) fun m3 h3 => ?_
        walk_at "sx"
        refine set_raw h2.hb rfl ?_
        have h4 := bag_put h2 hbl (i' := i) (g' := g) (m' := m3) (c' := c + 1) (by omega)
        walk_at "sx"
        refine ix_raw h4.hb rfl ?_
        walk_at "sx"
        refine div_any (by decide) (by decide +kernel) fun d => ?_
        walk_at "sx"
        refine ix_raw h4.hb rfl ?_
        walk_at "sx"
        refine mod_any (by decide) fun e he => ?_
        walk_at "sx"
        refine mul_r (by decide) ?_
        walk_at "sx"
        refine mod_any hn fun k hk => ?_
        exact fin k _ hk (kp k2) ⟨_, _, _, _, _, h4⟩
def spOf (K : PySem.W.Frag) : Sp := fun vs H Q _ => ∃ (M : Addr → Prop) (I : Hp → Prop) (b : Addr) (x : V) (d : D) (ds : List D), Wf M I ∧ I H ∧ HasBag M I b ∧ vs = [.ref b, x] ∧ Rep K M H x d ∧ d.elems = some ds ∧ 0 < ds.length ∧ ds.length ≤ 100000 ∧ ∀ v e H', e ∈ ds → Rep K M H' v e → Ex M H H' → I H' → Q v H'
theorem ok_pick (B : Bl mg) (G : Df P w K mg base 1 "_law_pull" ["_law_bag", "_law_many"] [] (spDraw K)) : Bok P w K mg base 2 "_law_pick" s__law_pick ["_law_bag", "_law_some"] (spOf K) := by
  refine Bok.mk sc__law_pick (fun vs H Q E h => ?_) (fun f cdv A outer s H vs Q E hr h => ⟨_, w__law_pick B G hr, ?_⟩)
  · obtain ⟨M, I, b, x, d, ds, _, _, _, rfl, _⟩ := h
    rfl
  · obtain ⟨M, I, b, x, d, ds, hw, hI, hB, rfl, hx, hd, h0, hl, q⟩ := h
    unfold t__law_pick
    walk_at "sx"
    refine len_E hx hd (szOk (by omega)) ?_
    walk_at "sx"
    refine ⟨M, I, b, _, hw, hI, hB, rfl, by omega, by omega, fun k H1 hk e1 i1 => ?_⟩
    have hk2 : k < ds.length := by omega
    refine ix_E (e := ds[k]) (hx.ex e1) hd (szOk (by omega)) (by simp [hk2]) fun v rv => ?_
    exact q v _ H1 (List.getElem_mem hk2) rv e1 i1
end


/-! ### same, with dicts -/
def scD : D → Bool
  | .non => true
  | .bl _ => true
  | .int _ => true
  | .str _ => true
  | _ => false
def fitM : Nat → D → Prop
  | 0, d => scD d = true
  | n + 1, d => scD d = true ∨ (∃ l, (d = .lst l ∨ d = .tup l) ∧ l.length ≤ 100000 ∧ ∀ e ∈ l, fitM n e) ∨ ∃ ds : List (Key × D), d = .dct ds ∧ fitM n (.lst (ds.map fun kv => .tup [keyD kv.1, kv.2]))
theorem fitM_sc {d : D} (h : scD d = true) : ∀ n, fitM n d
  | 0 => h
  | _ + 1 => .inl h
theorem fitM_L {l : List D} {n : Nat} (hl : l.length ≤ 100000) (h : ∀ e ∈ l, fitM n e) : fitM (n + 1) (.lst l) := .inr (.inl ⟨l, .inl rfl, hl, h⟩)
theorem fitM_T {l : List D} {n : Nat} (hl : l.length ≤ 100000) (h : ∀ e ∈ l, fitM n e) : fitM (n + 1) (.tup l) := .inr (.inl ⟨l, .inr rfl, hl, h⟩)
section
variable {P : Program} {w : World} {K : PySem.W.Frag} {mg : Str → Option Value} {base : Heap}
theorem df_none {x : Str} {st : Stmt} {ps : List Str} {dfl : List V} (F : At K mg x st ps dfl) (k : Nat) : Df P w K mg base k x ps dfl (fun _ _ _ _ => False) := by
  obtain ⟨fd, F1, F2⟩ := F.ex
  exact ⟨F.mgx, ⟨fd, ⟨fun _ _ _ _ h => h.elim, fun _ _ _ _ _ _ _ _ _ _ _ _ _ h => h.elim⟩, F2⟩, F1.kp⟩
theorem kit_same {K : PySem.W.Frag} {H : Hp} {x : V} {t c : String} {b : Bool} {Q : VK} (h : TyX K H x (.type t)) (k : kitB t c = some b) (q : Q (.bl b) H) : rIsi K [x, .ty c] H Q :=
  ⟨x, .ty c, .type t, .type c, b, rfl, .ty c, h, kit_ty k, q⟩
theorem kit_lt {K : PySem.W.Frag} {H : Hp} {x : V} {t : String} {b1 b2 : Bool} {p : Addr} {Q : VK} (hp : H p = some (.tup [.ty "list", .ty "tuple"])) (h : TyX K H x (.type t)) (k1 : kitB t "list" = some b1) (k2 : kitB t "tuple" = some b2) (q : Q (.bl (b1 || b2)) H) : rIsiT K [x, .ref p] H Q :=
  ⟨x, p, _, .type t, [.type "list", .type "tuple"], b1 || b2, rfl, hp, .cons (.ty _) (.cons (.ty _) .nil), h, by
    refine kitAny_cons (kit_ty k1) (fun e => ?_) (fun e => by rw [e]; rfl)
    rw [e]
    refine kitAny_cons (kit_ty k2) (fun e2 => ?_) (fun e2 => by rw [e2]; rfl)
    rw [e2]
    exact kitAny_nil, q⟩
theorem lt_mk {M : Addr → Prop} {I : Hp → Prop} (hw : Wf M I) {Z : VK} {H : Hp} (hI : I H) (q : ∀ p H2, H2 p = some (.tup [.ty "list", .ty "tuple"]) → Ex M H H2 → I H2 → Z (.ref p) H2) : TupK Z [.ty "list", .ty "tuple"] H := by
  refine ⟨by show 2 ≤ sizeLine; decide, fun p hp => ?_⟩
  have s := same_upd (o := .tup [.ty "list", .ty "tuple"]) hp
  exact q p _ upd_same (Ex.of s) (hw.same s hI)
theorem rep_nn {M : Addr → Prop} {H : Hp} {x : V} {d : D} (h : Rep K M H x d) (hd : ∀ e, d = .non → e = true) : decide (x = .non) = false := by
  refine decide_eq_false fun e => ?_
  subst e
  cases h
  cases hd false rfl
theorem same_body {n : Nat} {sp : Sp} {M : Addr → Prop} {I : Hp → Prop} {x y : V} {d : D} {H : Hp} {Q : VK} (hw : Wf M I) (hI : I H) (hx : Rep K M H x d) (hy : Rep K M H y d)
    (hf : scD d = true ∨ (∃ l, (d = .lst l ∨ d = .tup l) ∧ l.length ≤ 100000 ∧ ∀ e ∈ l, ∀ (M : Addr → Prop) (I : Hp → Prop) (x y : V) (H : Hp) (Q : VK), Wf M I → I H → Rep K M H x e → Rep K M H y e → (∀ H', Ex M H H' → I H' → Q (.bl true) H') → sp [x, y] H Q E0) ∨
      ∃ ds : List (Key × D), d = .dct ds ∧ ∀ (M : Addr → Prop) (I : Hp → Prop) (x y : V) (H : Hp) (Q : VK), Wf M I → I H → Rep K M H x (.lst (ds.map fun kv => .tup [keyD kv.1, kv.2])) → Rep K M H y (.lst (ds.map fun kv => .tup [keyD kv.1, kv.2])) → (∀ H', Ex M H H' → I H' → Q (.bl true) H') → sp [x, y] H Q E0)
    (q : ∀ H', Ex M H H' → I H' → Q (.bl true) H') : t__law_same K sp { nx := fun _ H' => Q .non H', rt := Q } (L2.start n__law_same [x, y]) H := by
  refine st_eq (σ' := [some x, some y, none, none]) rfl ?_
  rcases hf with hsc | ⟨l, hd, hl, hr⟩ | ⟨ds, rfl, hr⟩
  · have key : ∀ {t : String} {b1 b2 b3 : Bool}, (∀ H2, TyX K H2 x (.type t) ∧ TyX K H2 y (.type t)) → decide (x = .non) = false → decide (y = .non) = false → kitB t "dict" = some false → kitB t "list" = some false → kitB t "tuple" = some false → kitB t "bool" = some b1 → kitB t "int" = some b2 → kitB t "str" = some b3 →
        (∀ (H2 : Hp) (Z : VK), Z (.bl true) H2 → rEqU K x y H2 Z) → t__law_same K sp { nx := fun _ H' => Q .non H', rt := Q } [some x, some y, none, none] H := fun {t b1 b2 b3} ht nx ny kd kl kt kb ki ks he => by
      unfold t__law_same
      walk_at "sx"
      refine ifIsF ny ?_
      walk_at "sx"
      refine ifIsF nx ?_
      walk_at "sx"
      refine kit_same (ht H).2 kd ?_
      walk_at "sx"
      refine kit_same (ht H).1 kd ?_
      walk_at "sx"
      refine lt_mk hw hI fun p2 H2 hp2 e2 i2 => ?_
      walk_at "sx"
      refine kit_lt hp2 (ht H2).2 kl kt ?_
      refine ex_b ?_
      refine ifIsF rfl ?_
      walk_at "sx"
      refine lt_mk hw i2 fun p3 H3 hp3 e3 i3 => ?_
      walk_at "sx"
      refine kit_lt hp3 (ht H3).1 kl kt ?_
      refine ex_b ?_
      refine ifIsF rfl ?_
      walk_at "sx"
      refine kit_same (ht H3).1 kb ?_
      walk_at "sx"
      refine kit_same (ht H3).2 kb ?_
      walk_at "sx"
      refine ifIsF (by simp) ?_
      walk_at "sx"
      refine kit_same (ht H3).1 ki ?_
      walk_at "sx"
      refine kit_same (ht H3).2 ki ?_
      walk_at "sx"
      refine ifIsF (by simp) ?_
      walk_at "sx"
      refine kit_same (ht H3).1 ks ?_
      walk_at "sx"
      refine kit_same (ht H3).2 ks ?_
      walk_at "sx"
      refine ifIsF (by simp) ?_
      walk_at "sx"
      exact he H3 _ (q H3 (e2.trans e3) i3)
    cases d with
    | non =>
      cases rep_non hx
      cases rep_non hy
      unfold t__law_same
      walk_at "sx"
      refine ifIsT (by simp) ?_
      walk_at "sx"
      refine ifIsT (by simp) ?_
      walk_at "sx"
      rw [show decide (V.non = V.non) = true by simp]
      exact q H (Ex.refl _) hI
    | bl b =>
      cases rep_bl hx
      cases rep_bl hy
      exact key (t := "bool") (b1 := true) (b2 := true) (b3 := false) (fun H2 => ⟨.base (.bl b), .base (.bl b)⟩) (by simp) (by simp) (by decide +kernel) (by decide +kernel) (by decide +kernel) (by decide +kernel) (by decide +kernel) (by decide +kernel) fun H2 Z z => eq_bb (by rw [decide_eq_true rfl]; exact z)
    | int i =>
      cases rep_int hx
      cases rep_int hy
      exact key (t := "int") (b1 := false) (b2 := true) (b3 := false) (fun H2 => ⟨.base (.int i), .base (.int i)⟩) (by simp) (by simp) (by decide +kernel) (by decide +kernel) (by decide +kernel) (by decide +kernel) (by decide +kernel) (by decide +kernel) fun H2 Z z => eq_ii (by rw [decide_eq_true rfl]; exact z)
    | str z =>
      cases rep_str hx
      cases rep_str hy
      refine key (t := "str") (b1 := false) (b2 := false) (b3 := true) (fun H2 => ⟨.base (.str z), .base (.str z)⟩) (by simp) (by simp) (by decide +kernel) (by decide +kernel) (by decide +kernel) (by decide +kernel) (by decide +kernel) (by decide +kernel) fun H2 Z zz => ?_
      have e : z = T z.cps.toList := by simp [T]
      rw [e]
      exact eq_TT (by rw [decide_eq_true rfl]; exact zz)
    | _ => cases hsc
  · have nn : ∀ {v : V}, Rep K M H v d → decide (v = .non) = false := fun h => rep_nn h fun e z => by rcases hd with h | h <;> rw [h] at z <;> cases z
    have key : ∀ {t : String} {b1 b2 : Bool}, (∀ H2, Ex M H H2 → TyX K H2 x (.type t) ∧ TyX K H2 y (.type t)) → d.elems = some l → kitB t "dict" = some false → kitB t "list" = some b1 → kitB t "tuple" = some b2 → (b1 || b2) = true →
        t__law_same K sp { nx := fun _ H' => Q .non H', rt := Q } [some x, some y, none, none] H := fun {t b1 b2} ht hde kd k1 k2 hb => by
      unfold t__law_same
      walk_at "sx"
      refine ifIsF (nn hy) ?_
      walk_at "sx"
      refine ifIsF (nn hx) ?_
      walk_at "sx"
      obtain ⟨tx0, ty0⟩ := ht H (Ex.refl _)
      refine kit_same ty0 kd ?_
      walk_at "sx"
      refine kit_same tx0 kd ?_
      walk_at "sx"
      refine lt_mk hw hI fun p H2 hp2 e2 i2 => ?_
      obtain ⟨tx, ty⟩ := ht H2 e2
      walk_at "sx"
      refine kit_lt hp2 ty k1 k2 ?_
      refine ex_b ?_
      refine ifIsT hb ?_
      walk_at "sx"
      refine kit_same tx k1 ?_
      walk_at "sx"
      refine kit_same ty k1 ?_
      walk_at "sx"
      refine ifIsF (by simp) ?_
      walk_at "sx"
      refine kit_same tx k2 ?_
      walk_at "sx"
      refine kit_same ty k2 ?_
      walk_at "sx"
      refine ifIsF (by simp) ?_
      walk_at "sx"
      refine len_E (hx.ex e2) hde (szOk (by omega)) ?_
      walk_at "sx"
      refine len_E (hy.ex e2) hde (szOk (by omega)) ?_
      walk_at "sx"
      refine ifIsT (by simp) ?_
      walk_at "sx"
      refine lc_zipM (as := l) (bs := l) (enc := id) (enc2 := id) (fun _ => .bl true) hw i2 (hx.ex e2) (by simpa using hde) (hy.ex e2) (by simpa using hde) (szOk (by omega)) (fun _ _ => rfl) ?_ ?_
      · intro L acc k a b v u H3 hL ha hb' rv rw' wf hi ex Qe qe
        have eab : a = b := by rw [ha] at hb'; exact Option.some.inj hb'
        subst eab
        walk_at "sx"
        exact hr a (List.mem_of_getElem? ha) _ _ v u H3 _ wf hi rv rw' fun H4 e4 i4 => qe _ H4 (.bl true) i4 e4
      · intro y2 H3 rp e3 i3
        refine all_M (fun _ => true) rp ?_
        rw [show ((l.zip l).all fun _ => true) = true by simp]
        exact q H3 (e2.trans e3) i3
    rcases hd with rfl | rfl
    · exact key (t := "list") (b1 := true) (b2 := false) (fun H2 e => ⟨tyx_of (hx.ex e) (.lst _), tyx_of (hy.ex e) (.lst _)⟩) rfl (by decide +kernel) (by decide +kernel) (by decide +kernel) rfl
    · exact key (t := "tuple") (b1 := false) (b2 := true) (fun H2 e => ⟨tyx_of (hx.ex e) (.tup _), tyx_of (hy.ex e) (.tup _)⟩) rfl (by decide +kernel) (by decide +kernel) (by decide +kernel) rfl
  · have nn : ∀ {v : V}, Rep K M H v (.dct ds) → decide (v = .non) = false := fun h => rep_nn h fun e z => by cases z
    have tx : ∀ H2, Ex M H H2 → TyX K H2 x (.type "dict") := fun H2 e => tyx_of (hx.ex e) (.dct _)
    have ty : ∀ H2, Ex M H H2 → TyX K H2 y (.type "dict") := fun H2 e => tyx_of (hy.ex e) (.dct _)
    have kd : kitB "dict" "dict" = some true := by decide +kernel
    unfold t__law_same
    walk_at "sx"
    refine ifIsF (nn hy) ?_
    walk_at "sx"
    refine ifIsF (nn hx) ?_
    walk_at "sx"
    refine kit_same (ty H (Ex.refl _)) kd ?_
    walk_at "sx"
    refine kit_same (ty H (Ex.refl _)) kd ?_
    walk_at "sx"
    refine kit_same (tx H (Ex.refl _)) kd ?_
    walk_at "sx"
    with_reducible refine sx_listItems ?_
    walk_at "sx"
    refine litems_R hw hI hx fun v1 H1 e1 i1 r1 => ?_
    walk_at "sx"
    with_reducible refine sx_listItems ?_
    walk_at "sx"
    refine litems_R hw i1 (hy.ex e1) fun v2 H2 e2 i2 r2 => ?_
    walk_at "sx"
    exact hr M I v1 v2 H2 _ hw i2 (r1.ex e2) r2 fun H3 e3 i3 => q H3 (e1.trans (e2.trans e3)) i3
theorem fitM_nd : ∀ {n : Nat} {d : D}, fitM n d → scD d = true ∨ (∃ l, (d = .lst l ∨ d = .tup l) ∧ l.length ≤ 100000 ∧ ∀ e ∈ l, ∃ m, n = m + 1 ∧ fitM m e) ∨ ∃ ds : List (Key × D), d = .dct ds ∧ ∃ m, n = m + 1 ∧ fitM m (.lst (ds.map fun kv => .tup [keyD kv.1, kv.2]))
  | 0, _, h => .inl h
  | n + 1, _, h => h.elim .inl fun h => h.elim (fun ⟨l, h1, h2, h3⟩ => .inr (.inl ⟨l, h1, h2, fun e he => ⟨n, rfl, h3 e he⟩⟩)) fun ⟨ds, h1, h2⟩ => .inr (.inr ⟨ds, h1, n, rfl, h2⟩)
def spSame (K : PySem.W.Frag) (n : Nat) : Sp := fun vs H Q _ => ∃ (M : Addr → Prop) (I : Hp → Prop) (x y : V) (d : D), Wf M I ∧ I H ∧ vs = [x, y] ∧ Rep K M H x d ∧ Rep K M H y d ∧ fitM n d ∧ ∀ H', Ex M H H' → I H' → Q (.bl true) H'
theorem ok_same (B : Bl mg) (F : At K mg "_law_same" s__law_same ["_law_found", "_law_due"] []) : ∀ n, Df P w K mg base (n + 1) "_law_same" ["_law_found", "_law_due"] [] (spSame K n)
  | 0 => by
    refine F.df sc__law_same (fun vs H Q E h => ?_) (fun f cdv A outer s H vs Q E hr h => ⟨_, w__law_same (kk := 0) B (df_none F 0) hr, ?_⟩)
    · obtain ⟨M, I, x, y, d, _, _, rfl, _⟩ := h
      rfl
    · obtain ⟨M, I, x, y, d, hw, hI, rfl, hx, hy, hf, q⟩ := h
      exact same_body (n := 0) hw hI hx hy (.inl hf) q
  | n + 1 => by
    refine F.df sc__law_same (fun vs H Q E h => ?_) (fun f cdv A outer s H vs Q E hr h => ⟨_, w__law_same (kk := n + 1) B (ok_same B F n) hr, ?_⟩)
    · obtain ⟨M, I, x, y, d, _, _, rfl, _⟩ := h
      rfl
    · obtain ⟨M, I, x, y, d, hw, hI, rfl, hx, hy, hf, q⟩ := h
      refine same_body (n := n) hw hI hx hy ?_ q
      rcases fitM_nd hf with h | ⟨l, h1, h2, h3⟩ | ⟨ds, h1, m, hm, h2⟩
      · exact .inl h
      · exact .inr (.inl ⟨l, h1, h2, fun e he M I x y H Q hw hI hx hy q => by
          obtain ⟨m, hm, hf⟩ := h3 e he
          cases hm
          exact ⟨M, I, x, y, e, hw, hI, rfl, hx, hy, hf, q⟩⟩)
      · cases hm
        exact .inr (.inr ⟨ds, h1, fun M I x y H Q hw hI hx hy q => ⟨M, I, x, y, _, hw, hI, rfl, hx, hy, h2, q⟩⟩)
end


/-! ### drawn names, cells -/
abbrev abcL : List Nat := [97, 98, 99, 100, 101, 102, 103, 104, 105, 106, 107, 108, 109, 110, 111, 112, 113, 114, 115, 116, 117, 118, 119, 120, 121, 122]
theorem abc_get {m : Nat} (h : m < 26) : abcL[m]? = some (97 + m) := by
  have e : ∀ m : Fin 26, abcL[m.val]? = some (97 + m.val) := by decide
  exact e ⟨m, h⟩
def TOk (t : List Nat) : Prop := 1 ≤ t.length ∧ t.length ≤ 6 ∧ ∀ c ∈ t, 97 ≤ c ∧ c ≤ 122
instance (t : List Nat) : Decidable (TOk t) := by unfold TOk; infer_instance
theorem TOk.lt {t : List Nat} (h : TOk t) : ∀ c ∈ t, c < 128 := fun c hc => by have := h.2.2 c hc; omega
def FrOk (fr : List (List Nat × Nat)) : Prop := ∀ p ∈ fr, 1 ≤ p.2 ∧ p.2 ≤ 4 ∧ TOk p.1
section
variable {P : Program} {w : World} {K : PySem.W.Frag} {mg : Str → Option Value} {base : Heap}
def spWord (K : PySem.W.Frag) : Sp := fun vs H Q _ => ∃ (M : Addr → Prop) (I : Hp → Prop) (b : Addr), Wf M I ∧ I H ∧ HasBag M I b ∧ vs = [.ref b] ∧ ∀ t H', TOk t → Ex M H H' → I H' → Q (.str (T t)) H'
end


theorem nodup_len {α : Type} [DecidableEq α] : ∀ {l m : List α}, l.Nodup → (∀ a ∈ l, a ∈ m) → l.length ≤ m.length
  | [], _, _, _ => Nat.zero_le _
  | a :: l, m, hn, h => by
    have ha := h a List.mem_cons_self
    have h2 : ∀ b ∈ l, b ∈ m.erase a := fun b hb => by
      have nb : b ≠ a := fun e => (List.nodup_cons.mp hn).1 (e ▸ hb)
      exact (List.mem_erase_of_ne nb).mpr (h b (List.mem_cons_of_mem _ hb))
    have ih := nodup_len (List.nodup_cons.mp hn).2 h2
    have := List.length_erase_of_mem ha
    have := List.length_pos_of_mem ha
    simp only [List.length_cons]
    omega
abbrev spareL : List Nat := [109, 122, 97, 107, 121, 98, 116, 100, 119, 111, 120, 103, 99]
theorem free_word {ls : List (List Nat)} (h : ls.length < 13) : ∃ c cs, spareL.filter (fun c => !decide ([c] ++ [113] ∈ ls)) = c :: cs := by
  cases e : spareL.filter (fun c => !decide ([c] ++ [113] ∈ ls)) with
  | cons c cs => exact ⟨c, cs, rfl⟩
  | nil =>
    exfalso
    have hall : ∀ a ∈ spareL.map (fun c => [c] ++ [113]), a ∈ ls := by
      intro a ha
      obtain ⟨c, hc, rfl⟩ := List.mem_map.mp ha
      have := List.filter_eq_nil_iff.mp e c hc
      simpa using this
    have hn : (spareL.map (fun c => [c] ++ [113])).Nodup := by decide
    have := nodup_len hn hall
    simp at this
    omega
section
variable {P : Program} {w : World} {K : PySem.W.Frag} {mg : Str → Option Value} {base : Heap}
def spFrame (K : PySem.W.Frag) : Sp := fun vs H Q _ => ∃ (M : Addr → Prop) (I : Hp → Prop) (b : Addr) (n : Nat), Wf M I ∧ I H ∧ HasBag M I b ∧ vs = [.ref b, .int n] ∧ n ≤ 12 ∧ ∀ y fr H', fr.length = n → FrOk fr → (fr.map (·.1)).Nodup → Rep K M H' y (.lst (fr.map eC)) → Ex M H H' → I H' → Q y H'
end


theorem lot_get {l : List Nat} {k c : Nat} (h : l[k]? = some c) : (lot l)[k]? = some (if c = 46 then 46 else 43) := by simp [lot, h]
theorem lay_get {t u : List Nat} {k a b : Nat} (h1 : t[k]? = some a) (h2 : u[k]? = some b) : (lay t u)[k]? = some (if a = 46 then b else a) := by
  unfold lay
  rw [List.getElem?_map, show (t.zip u)[k]? = some (a, b) from List.getElem?_zip_eq_some.mpr ⟨h1, h2⟩]
  rfl
theorem lay_len {l m : List Nat} (h : m.length = l.length) : (lay l m).length = l.length := by simp [lay, h]
theorem get_some {t : List Nat} {k : Nat} (h : k < t.length) : ∃ a, t[k]? = some a := ⟨t[k], by simp [h]⟩
theorem all_nil {α : Type} {P : α → Prop} : ∀ e ∈ ([] : List α), P e := fun e h => by cases h
theorem all_cons {α : Type} {P : α → Prop} {a : α} {l : List α} (h : P a) (h2 : ∀ e ∈ l, P e) : ∀ e ∈ a :: l, P e := fun e he => by
  rcases List.mem_cons.mp he with rfl | he
  · exact h
  · exact h2 e he
theorem isRow_len {fr : List (List Nat × Nat)} {r : List Nat} (h : isRow fr r = true) : r.length = fr.length := by
  unfold isRow at h
  simp at h
  exact h.1


/-! ### the law's own plain functions -/
def dedup : List (List Nat) → List (List Nat) → List (List Nat)
  | acc, [] => acc
  | acc, a :: l => dedup (if a ∈ acc then acc else acc ++ [a]) l
theorem dedup_mem {a : List Nat} : ∀ {l acc : List (List Nat)}, a ∈ dedup acc l ↔ a ∈ acc ∨ a ∈ l
  | [], acc => by simp [dedup]
  | b :: l, acc => by
    unfold dedup
    rw [dedup_mem (l := l)]
    by_cases h : b ∈ acc
    · rw [if_pos h]
      constructor
      · rintro (z | z)
        · exact .inl z
        · exact .inr (List.mem_cons_of_mem _ z)
      · rintro (z | z)
        · exact .inl z
        · rcases List.mem_cons.mp z with rfl | z
          · exact .inl h
          · exact .inr z
    · rw [if_neg h]
      simp only [List.mem_append, List.mem_cons, List.not_mem_nil, or_false]
      constructor
      · rintro ((z | z) | z)
        · exact .inl z
        · exact .inr (.inl z)
        · exact .inr (.inr z)
      · rintro (z | z | z)
        · exact .inl (.inl z)
        · exact .inl (.inr z)
        · exact .inr z
theorem dedup_snoc {a : List Nat} : ∀ {l acc : List (List Nat)}, dedup acc (l ++ [a]) = if a ∈ dedup acc l then dedup acc l else dedup acc l ++ [a]
  | [], acc => rfl
  | b :: l, acc => by
    simp only [List.cons_append]
    unfold dedup
    exact dedup_snoc
theorem dedup_len : ∀ {l acc : List (List Nat)}, (dedup acc l).length ≤ acc.length + l.length
  | [], acc => by simp [dedup]
  | b :: l, acc => by
    unfold dedup
    refine Nat.le_trans dedup_len ?_
    split <;> simp <;> omega
def fresh (s t : List Nat) : List Nat := (List.range s.length).filter fun k => !decide (s[k]? = some 46) && decide (t[k]? = some 46)
def fits (s r t : List Nat) : Bool := !(fresh s t).isEmpty && ((fresh s t).filter fun k => !decide (r[k]? = s[k]?)).isEmpty
def ready (S : List (List Nat)) (r t : List Nat) : List (List Nat) := S.filter fun s => fits s r t
def lfStep (S : List (List Nat)) (r t : List Nat) : List Nat := match (ready S r t).getLast? with
  | none => t
  | some s => uni t (lot s)
def lfN (S : List (List Nat)) (r : List Nat) : Nat → List Nat
  | 0 => List.replicate r.length 46
  | n + 1 => lfStep S r (lfN S r n)
theorem lfStep_len {S : List (List Nat)} {r t : List Nat} (hS : ∀ s ∈ S, s.length = r.length) (h : t.length = r.length) : (lfStep S r t).length = r.length := by
  unfold lfStep
  split
  · exact h
  · rename_i s hs
    have := hS s (List.mem_filter.mp (List.mem_of_getLast? hs)).1
    rw [uni_len (by rw [lot_len]; omega)]
    exact h
theorem lfN_len {S : List (List Nat)} {r : List Nat} (hS : ∀ s ∈ S, s.length = r.length) : ∀ n, (lfN S r n).length = r.length
  | 0 => by simp [lfN]
  | n + 1 => lfStep_len hS (lfN_len hS n)
def takeF : D → D
  | .tup [_, e] => e
  | _ => .non
section
variable {P : Program} {w : World} {K : PySem.W.Frag} {mg : Str → Option Value} {base : Heap}
theorem rep46 (n : Nat) : (List.replicate n [46]).flatten = List.replicate n 46 := by
  induction n with
  | zero => rfl
  | succ n ih => simp [List.replicate_succ]
theorem fresh_len (s t : List Nat) : (fresh s t).length ≤ s.length := by
  unfold fresh
  refine Nat.le_trans (List.length_filter_le _ _) (by simp)
theorem fresh_lt {s t : List Nat} {k : Nat} (h : k ∈ fresh s t) : k < s.length := by simpa using (List.mem_filter.mp h).1
end

def sgs (m : Nat) : List Nat := ([46, 48, 49, 50, 51] : List Nat).take (m + 1)
theorem isRow_iff {fr : List (List Nat × Nat)} {l : List Nat} : isRow fr l = true ↔ l.length = fr.length ∧ ∀ (k c : Nat) (p : List Nat × Nat), l[k]? = some c → fr[k]? = some p → c ∈ sgs p.2 := by
  unfold isRow sgs
  rw [Bool.and_eq_true, decide_eq_true_eq, List.all_eq_true]
  constructor
  · rintro ⟨h1, h2⟩
    refine ⟨h1, fun k c p hc hp => ?_⟩
    have hz : (l.zip fr)[k]? = some (c, p) := List.getElem?_zip_eq_some.mpr ⟨hc, hp⟩
    exact of_decide_eq_true (h2 _ (List.mem_of_getElem? hz))
  · rintro ⟨h1, h2⟩
    refine ⟨h1, fun x hx => ?_⟩
    obtain ⟨k, hk⟩ := List.getElem?_of_mem hx
    obtain ⟨a, b⟩ := x
    obtain ⟨ha, hb⟩ := List.getElem?_zip_eq_some.mp hk
    exact decide_eq_true (h2 k a b ha hb)
theorem sgs_dot (m : Nat) : 46 ∈ sgs m := by simp [sgs]
theorem sgs_k {m k : Nat} (h : k < m) (hm : m ≤ 4) : 48 + k ∈ sgs m := by
  have e : ∀ m : Fin 5, ∀ k : Fin 5, k.val < m.val → 48 + k.val ∈ sgs m.val := by decide
  exact e ⟨m, by omega⟩ ⟨k, by omega⟩ h
theorem sgs_lt {m c : Nat} (h : c ∈ sgs m) : c < 128 := by
  have := List.mem_of_mem_take h
  simp at this
  omega
def setAt (l : List Nat) (k c : Nat) : List Nat := l.take k ++ [c] ++ l.drop (k + 1)
theorem setAt_set {l : List Nat} {k c : Nat} (h : k < l.length) : setAt l k c = l.set k c := by
  unfold setAt
  rw [List.set_eq_take_append_cons_drop, if_pos h]
  simp
theorem setAt_row {fr : List (List Nat × Nat)} {l : List Nat} {k c : Nat} {p : List Nat × Nat} (h : isRow fr l = true) (hp : fr[k]? = some p) (hc : c ∈ sgs p.2) : isRow fr (setAt l k c) = true := by
  obtain ⟨h1, h2⟩ := isRow_iff.mp h
  have hk := (List.getElem?_eq_some_iff.mp hp).1
  rw [setAt_set (by omega)]
  refine isRow_iff.mpr ⟨by simp [h1], fun j d q hd hq => ?_⟩
  rw [List.getElem?_set] at hd
  by_cases e : k = j
  · subst e
    rw [if_pos rfl, if_pos (by omega)] at hd
    cases hd
    rw [hp] at hq
    cases hq
    exact hc
  · rw [if_neg e] at hd
    exact h2 j d q hd hq
section
variable {P : Program} {w : World} {K : PySem.W.Frag} {mg : Str → Option Value} {base : Heap}
end

/-! ### stacks that tell every cell -/
abbrev Mk0 (s : List Nat) (k : Nat) : Prop := ∃ c, s[k]? = some c ∧ c ≠ 46
def Rw (fr : List (List Nat × Nat)) (s : List Nat) : Prop := isRow fr s = true ∧ ∃ k, Mk0 s k
structure GoodS (fr : List (List Nat × Nat)) (S : List (List Nat)) : Prop where
  rw : ∀ s ∈ S, Rw fr s
  nd : S.Nodup
  all : ∀ k, k < fr.length → ∃ s ∈ S, Mk0 s k
theorem not_blank {l : List Nat} (h : ¬ lot l = List.replicate l.length 46) : ∃ k, Mk0 l k := by
  apply Classical.byContradiction
  intro hn
  apply h
  refine List.ext_getElem (by rw [lot_len]; simp) fun k h1 h2 => ?_
  rw [List.getElem_replicate]
  have hk : k < l.length := by simpa using h2
  have : l[k] = 46 := by
    apply Classical.byContradiction
    intro hc
    exact hn ⟨k, l[k], by simp [hk], hc⟩
  simp [lot, this]
theorem mk_set {l : List Nat} {k c : Nat} (h : k < l.length) (hc : c ≠ 46) : Mk0 (setAt l k c) k := by
  rw [setAt_set h]
  exact ⟨c, by simp [h], hc⟩
theorem mk_set2 {l : List Nat} {k j c : Nat} (h : k < l.length) (hj : j ≠ k) (hm : Mk0 l j) : Mk0 (setAt l k c) j := by
  rw [setAt_set h]
  obtain ⟨d, h1, h2⟩ := hm
  exact ⟨d, by rw [List.getElem?_set_ne (Ne.symm hj)]; exact h1, h2⟩
theorem dedup_nd : ∀ {l acc : List (List Nat)}, acc.Nodup → (dedup acc l).Nodup
  | [], acc, h => by unfold dedup; exact h
  | a :: l, acc, h => by
    unfold dedup
    split
    · exact dedup_nd h
    · rename_i hm
      exact dedup_nd (List.nodup_append.mpr ⟨h, by simp, fun x hx y hy => by rw [List.mem_singleton.mp hy]; exact fun e => hm (e ▸ hx)⟩)
/-! ### the stack of seeds -/
section
variable {P : Program} {w : World} {K : PySem.W.Frag} {mg : Str → Option Value} {base : Heap}
theorem flat_S {ls : List (List Nat)} (h : ∀ s ∈ ls, ∀ c ∈ s, c < 128) : ∀ d ∈ ls.map eS, Flat d := by
  intro d hd
  obtain ⟨s, hs, rfl⟩ := List.mem_map.mp hd
  exact ok_T (h s hs)
theorem row_lt {fr : List (List Nat × Nat)} {s : List Nat} (h : isRow fr s = true) : ∀ c ∈ s, c < 128 := by
  intro c hc
  obtain ⟨h1, h2⟩ := isRow_iff.mp h
  obtain ⟨k, hk, e⟩ := List.getElem_of_mem hc
  have hk2 : k < fr.length := by omega
  exact sgs_lt (h2 k c fr[k] (by simp [hk, e]) (by simp [hk2]))
theorem pop_mut {M : Addr → Prop} {I : Hp → Prop} {H : Hp} {p : Addr} {xs : List V} {y : V} {Q : VK} (hw : Wf M I) (hp : ¬ M p) (hI : Iq I p (.lst (xs ++ [y])) H) (q : ∀ H', Ex (Mq M p) H H' → Wf (Mq M p) (Iq I p (.lst xs)) → Iq I p (.lst xs) H' → Q y H') : rPop (.ref p) [] H Q := by
  refine ⟨p, _, y, rfl, rfl, hI.2, by simp, ?_⟩
  rw [List.dropLast_concat]
  obtain ⟨i, e⟩ := hw.put (o' := .lst xs) hp hI
  exact q _ e (hw.add _ _) i
theorem map_snocS {ls : List (List Nat)} {l : List Nat} : (ls.map fun l => V.str (T l)) ++ [V.str (T l)] = (ls ++ [l]).map fun l => V.str (T l) := by simp
theorem reps_S {M : Addr → Prop} {H : Hp} : ∀ (ls : List (List Nat)), Reps K M H (ls.map fun l => V.str (T l)) (ls.map eS)
  | [] => .nil
  | _ :: ls => .cons (.str _) (reps_S ls)
end

/-! ### rows, plain -/
def inB (x y : List Nat) : Bool := (x.zip y).all fun p => decide (p.1 = 46) || decide (p.2 = 43)
def agB (x y : List Nat) : Bool := (x.zip y).all fun p => decide (p.1 = 46) || decide (p.2 = 46) || decide (p.1 = p.2)
def cutF (l ks : List Nat) : List Nat := ks.map fun k => l.getD k 46
def laidF : List (List Nat) → List Nat
  | [] => []
  | r :: rs => rs.foldl (fun a r => lay r a) r
def LotS (l : List Nat) : Prop := ∀ c ∈ l, c = 46 ∨ c = 43
theorem lotS_lot (l : List Nat) : LotS (lot l) := fun c hc => by
  obtain ⟨d, _, rfl⟩ := List.mem_map.mp hc
  split
  · exact .inl rfl
  · exact .inr rfl
theorem lotS_uni (l m : List Nat) : LotS (uni l m) := fun c hc => by
  obtain ⟨d, _, rfl⟩ := List.mem_map.mp hc
  split
  · exact .inr rfl
  · exact .inl rfl
theorem LotS.lt {l : List Nat} (h : LotS l) : ∀ c ∈ l, c < 128 := fun c hc => by
  rcases h c hc with rfl | rfl <;> decide
theorem all_zip {x y : List Nat} {f : Nat × Nat → Bool} (hl : x.length = y.length) : (x.zip y).all f = ((List.range x.length).filter fun k => !f (x.getD k 46, y.getD k 46)).isEmpty := by
  rw [Bool.eq_iff_iff, List.all_eq_true]
  constructor
  · intro h
    rw [List.isEmpty_iff, List.filter_eq_nil_iff]
    intro k hk
    have hk := List.mem_range.mp hk
    have h2 : k < y.length := by omega
    have := h (x[k], y[k]) (List.mem_iff_getElem?.mpr ⟨k, by rw [List.getElem?_zip_eq_some]; exact ⟨by simp [hk], by simp [h2]⟩⟩)
    simp [List.getD_eq_getElem?_getD, hk, h2, this]
  · intro h p hp
    rw [List.isEmpty_iff, List.filter_eq_nil_iff] at h
    obtain ⟨k, hk⟩ := List.mem_iff_getElem?.mp hp
    rw [List.getElem?_zip_eq_some] at hk
    have hk1 := (List.getElem?_eq_some_iff.mp hk.1).1
    have := h k (List.mem_range.mpr hk1)
    simpa [List.getD_eq_getElem?_getD, hk.1, hk.2] using this
section
variable {P : Program} {w : World} {K : PySem.W.Frag} {mg : Str → Option Value} {base : Heap}
theorem sl_E1 {M : Addr → Prop} {I : Hp → Prop} {H : Hp} {x : V} {d : D} {ds : List D} {n : Nat} {Q : VK} (hw : Wf M I) (hI : I H) (hx : Rep K M H x d) (hd : d = .lst ds ∨ d = .tup ds) (q : ∀ v d2 H', Ex M H H' → I H' → Rep K M H' v d2 → (d2 = .lst (ds.drop n) ∨ d2 = .tup (ds.drop n)) → Q v H') : rSlU K x (some (n : Nat)) none H Q := by
  rcases hd with rfl | rfl
  · exact sl_Lfrom hw hI hx fun v H' e i r => q v _ H' e i r (.inl rfl)
  · cases hx with
    | tup h n1 r =>
      refine .inr (.inl ⟨_, _, rfl, SqT.of h, fun hc => ?_, fun hc p hp => ?_⟩)
      · have e : ds.drop n = ds := by
          have h1 := hc.1
          rw [HT.sIx_nat, r.length] at h1
          by_cases hn : n = 0
          · rw [hn]; rfl
          · rw [List.length_eq_zero_iff.mp (show ds.length = 0 by omega)]; simp
        exact q _ (.tup ds) H (Ex.refl _) hI (.tup h n1 r) (.inr (by rw [e]))
      · rw [cut_from]
        exact q _ _ _ (Ex.of (same_upd hp)) (hw.same (same_upd hp) hI) (.tup upd_same (hw.fresh hI hp) ((r.drop n).same (same_upd hp))) (.inr rfl)
theorem not_in {l m : List Nat} (h1 : LotS l) (h2 : LotS m) {k : Nat} (hl : k < l.length) (hm : k < m.length) : (!(decide (l.getD k 46 = 46) || decide (m.getD k 46 = 43))) = (decide (l[k] = 43) && decide (m[k] = 46)) := by
  rw [List.getD_eq_getElem?_getD, List.getD_eq_getElem?_getD, List.getElem?_eq_getElem hl, List.getElem?_eq_getElem hm]
  simp only [Option.getD_some]
  rcases h1 _ (List.getElem_mem hl) with e | e <;> rcases h2 _ (List.getElem_mem hm) with e2 | e2 <;> rw [e, e2] <;> rfl
theorem not_ag {l m : List Nat} {k : Nat} (hl : k < l.length) (hm : k < m.length) : (!(decide (l.getD k 46 = 46) || decide (m.getD k 46 = 46) || decide (l.getD k 46 = m.getD k 46))) = ((!decide (l[k] = 46)) && ((!decide (m[k] = 46)) && (!decide (l[k] = m[k])))) := by
  rw [List.getD_eq_getElem?_getD, List.getD_eq_getElem?_getD, List.getElem?_eq_getElem hl, List.getElem?_eq_getElem hm]
  simp only [Option.getD_some, Bool.not_or, Bool.and_assoc]
end

/-! ### an order by size, then by signs -/
theorem ltT (a b : List Nat) (g : List Nat → Int) : leP g a b = decide (g a < g b ∨ (g a = g b ∧ ¬ b < a)) := by
  show (!PySem.W.dataLt (PyData.tuple [.int (g b), .str (T b)]) (PyData.tuple [.int (g a), .str (T a)])) = _
  rw [PySem.W.dataLt_pair (by simp [PySem.W.alike]) (by simp [PySem.W.alike]), PySem.W.dataLt_int, PySem.W.dataLt_str]
  simp only [PyData.eqv, beq_iff_eq]
  have et : (T b = T a) ↔ b = a := ⟨fun e => T_inj e, fun e => by rw [e]⟩
  have ec : ∀ l : List Nat, (T l).cps.toList = l := fun l => by rw [T_cps]
  rw [ec, ec]
  by_cases h1 : g b = g a
  · rw [if_pos h1]
    by_cases h2 : T b = T a
    · rw [if_pos h2]
      have := et.mp h2
      subst this
      simp [h1]
    · rw [if_neg h2]
      by_cases h3 : b < a
      · rw [decide_eq_true h3, decide_eq_false (by rintro (z | ⟨_, z⟩); omega; exact z h3)]; rfl
      · rw [decide_eq_false h3, decide_eq_true (.inr ⟨h1.symm, h3⟩)]; rfl
  · rw [if_neg h1]
    rw [Bool.eq_iff_iff]
    simp
    omega
def LeT (g : List Nat → Int) (a b : List Nat) : Prop := g a < g b ∨ (g a = g b ∧ ¬ b < a)
instance (g : List Nat → Int) (a b : List Nat) : Decidable (LeT g a b) := by unfold LeT; infer_instance
theorem LeT.trans {g : List Nat → Int} {a b c : List Nat} (h1 : LeT g a b) (h2 : LeT g b c) : LeT g a c := by
  rcases h1 with h1 | ⟨h1, k1⟩ <;> rcases h2 with h2 | ⟨h2, k2⟩
  · exact .inl (by omega)
  · exact .inl (by omega)
  · exact .inl (by omega)
  · exact .inr ⟨by omega, List.not_lt.mpr (List.le_trans (List.not_lt.mp k1) (List.not_lt.mp k2))⟩
theorem LeT.total {g : List Nat → Int} (a b : List Nat) : LeT g a b ∨ LeT g b a := by
  by_cases h : g a < g b
  · exact .inl (.inl h)
  by_cases h2 : g b < g a
  · exact .inr (.inl h2)
  have e : g a = g b := by omega
  by_cases k : b < a
  · exact .inr (.inr ⟨e.symm, List.not_lt.mpr (List.le_of_lt k)⟩)
  · exact .inl (.inr ⟨e, k⟩)
theorem LeT.anti {g : List Nat → Int} {a b : List Nat} (h1 : LeT g a b) (h2 : LeT g b a) : a = b := by
  rcases h1 with h1 | ⟨h1, k1⟩ <;> rcases h2 with h2 | ⟨h2, k2⟩
  · omega
  · omega
  · omega
  · exact List.le_antisymm (List.not_lt.mp k1) (List.not_lt.mp k2)
theorem sort_two {g : List Nat → Int} : ∀ {A B : List (List Nat)}, A.Pairwise (LeT g) → B.Pairwise (LeT g) → A.Nodup → B.Nodup → (∀ r, r ∈ A ↔ r ∈ B) → A = B
  | [], [], _, _, _, _, _ => rfl
  | [], b :: B, _, _, _, _, h => by have := (h b).mpr List.mem_cons_self; cases this
  | a :: A, [], _, _, _, _, h => by have := (h a).mp List.mem_cons_self; cases this
  | a :: A, b :: B, h1, h2, n1, n2, h => by
    obtain ⟨r1, p1⟩ := List.pairwise_cons.mp h1
    obtain ⟨r2, p2⟩ := List.pairwise_cons.mp h2
    have e : a = b := by
      rcases List.mem_cons.mp ((h a).mp List.mem_cons_self) with e | ha
      · exact e
      rcases List.mem_cons.mp ((h b).mpr List.mem_cons_self) with e | hb
      · exact e.symm
      exact (r1 b hb).anti (r2 a ha)
    subst e
    obtain ⟨m1, n1⟩ := List.nodup_cons.mp n1
    obtain ⟨m2, n2⟩ := List.nodup_cons.mp n2
    have e2 : A = B := sort_two p1 p2 n1 n2 fun r => by
      constructor
      · intro hr
        rcases List.mem_cons.mp ((h r).mp (List.mem_cons_of_mem _ hr)) with rfl | z
        · exact absurd hr m1
        · exact z
      · intro hr
        rcases List.mem_cons.mp ((h r).mpr (List.mem_cons_of_mem _ hr)) with rfl | z
        · exact absurd hr m2
        · exact z
    rw [e2]
theorem two_sub {α : Type} {a b : α} : ∀ {r : List α}, r.Nodup → [a, b].Sublist r → [b, a].Sublist r → False
  | [], _, h, _ => by cases h
  | x :: r, hn, h1, h2 => by
    obtain ⟨m, hn⟩ := List.nodup_cons.mp hn
    cases h1 with
    | cons _ h1 => cases h2 with
      | cons _ h2 => exact two_sub hn h1 h2
      | cons_cons _ h2 => exact m (h1.subset (by simp))
    | cons_cons _ h1 => cases h2 with
      | cons _ h2 => exact m (h2.subset (by simp))
      | cons_cons _ h2 => exact m (h2.subset (by simp))
theorem sub_two {α : Type} {a b : α} : ∀ {r : List α}, a ∈ r → b ∈ r → a ≠ b → [a, b].Sublist r ∨ [b, a].Sublist r
  | [], h, _, _ => by cases h
  | x :: r, h1, h2, h3 => by
    rcases List.mem_cons.mp h1 with rfl | k1
    · rcases List.mem_cons.mp h2 with rfl | k2
      · exact absurd rfl h3
      · exact .inl (List.Sublist.cons_cons _ (List.singleton_sublist.mpr k2))
    · rcases List.mem_cons.mp h2 with rfl | k2
      · exact .inr (List.Sublist.cons_cons _ (List.singleton_sublist.mpr k1))
      · exact (sub_two k1 k2 h3).imp (List.Sublist.cons _) (List.Sublist.cons _)
theorem rise_pw : ∀ {l : List (List Nat)}, sortedS (l.map T) = true → l.Pairwise fun a b => ¬ b < a
  | [], _ => .nil
  | a :: l, h => by
    have key : ∀ {l : List (List Nat)} {p : List Nat}, risingS (T p) (l.map T) = true → ∀ x ∈ l, ¬ x < p := by
      intro l
      induction l with
      | nil => intro p _ x h; cases h
      | cons a l ih =>
        intro p hr x hx
        have h : (!ltCps (T a).cps.toList (T p).cps.toList && risingS (T a) (l.map T)) = true := hr
        obtain ⟨h1, h2⟩ := Bool.and_eq_true_iff.mp h
        have h3 : ¬ a < p := by
          have h5 : ltCps (T a).cps.toList (T p).cps.toList = false := by simpa using h1
          have : ltCps a p = false := h5
          rw [ltCps_eq] at this
          exact of_decide_eq_false this
        rcases List.mem_cons.mp hx with rfl | hx
        · exact h3
        · exact List.not_lt.mpr (List.le_trans (List.not_lt.mp h3) (List.not_lt.mp (ih h2 x hx)))
    refine List.pairwise_cons.mpr ⟨key h, rise_pw ?_⟩
    cases l with
    | nil => rfl
    | cons b l => exact (Bool.and_eq_true_iff.mp (show (!ltCps (T b).cps.toList (T a).cps.toList && risingS (T b) (l.map T)) = true from h)).2
theorem size_sort {g : List Nat → Int} {ys : List (List Nat)} (hs : ys.Pairwise fun a b => ¬ b < a) (hn : ys.Nodup) : (ys.mergeSort fun a b => decide (g a ≤ g b)).Pairwise (LeT g) := by
  have hp := List.mergeSort_perm ys fun a b => decide (g a ≤ g b)
  have ht : ∀ a b c : List Nat, decide (g a ≤ g b) = true → decide (g b ≤ g c) = true → decide (g a ≤ g c) = true := fun a b c h1 h2 => by
    simp only [decide_eq_true_eq] at *; omega
  have ho : ∀ a b : List Nat, (decide (g a ≤ g b) || decide (g b ≤ g a)) = true := fun a b => by
    simp only [Bool.or_eq_true, decide_eq_true_eq]; omega
  have hw := List.pairwise_mergeSort ht ho ys
  have hr : (ys.mergeSort fun a b => decide (g a ≤ g b)).Nodup := hp.nodup_iff.mpr hn
  rw [List.pairwise_iff_forall_sublist]
  intro a b hab
  have h1 : g a ≤ g b := of_decide_eq_true (List.pairwise_iff_forall_sublist.mp hw hab)
  by_cases h2 : g a < g b
  · exact .inl h2
  have e : g a = g b := by omega
  have hne : a ≠ b := List.pairwise_iff_forall_sublist.mp hr hab
  have ma : a ∈ ys := hp.mem_iff.mp (hab.subset (by simp))
  have mb : b ∈ ys := hp.mem_iff.mp (hab.subset (by simp))
  rcases sub_two ma mb hne with h | h
  · exact .inr ⟨e, List.pairwise_iff_forall_sublist.mp hs h⟩
  · have h3 := List.pair_sublist_mergeSort ht ho (a := b) (b := a) (decide_eq_true (by omega)) h
    exact (two_sub hr hab h3).elim
theorem dedup_sub : ∀ {l acc : List (List Nat)}, ∃ z, dedup acc l = acc ++ z ∧ z.Sublist l
  | [], acc => ⟨[], by simp [dedup], .slnil⟩
  | a :: l, acc => by
    unfold dedup
    split
    · obtain ⟨z, h1, h2⟩ := dedup_sub (l := l) (acc := acc)
      exact ⟨z, h1, h2.cons a⟩
    · obtain ⟨z, h1, h2⟩ := dedup_sub (l := l) (acc := acc ++ [a])
      exact ⟨a :: z, by rw [h1]; simp, h2.cons_cons a⟩
def ordF (g : List Nat → Int) (L : List (List Nat)) : List (List Nat) := dedup [] (L.mergeSort (leP g))
theorem ordF_pw (g : List Nat → Int) (L : List (List Nat)) : (ordF g L).Pairwise (LeT g) := by
  obtain ⟨z, h1, h2⟩ := dedup_sub (l := L.mergeSort (leP g)) (acc := [])
  unfold ordF
  rw [h1, List.nil_append]
  have hf : leP g = fun a b => decide (LeT g a b) := by
    funext a b
    exact ltT a b g
  refine List.Pairwise.sublist h2 ?_
  have ht : ∀ a b c : List Nat, leP g a b = true → leP g b c = true → leP g a c = true := fun a b c h1 h2 => by
    rw [ltT] at *
    exact decide_eq_true (LeT.trans (of_decide_eq_true h1) (of_decide_eq_true h2))
  have ho : ∀ a b : List Nat, (leP g a b || leP g b a) = true := fun a b => by
    rw [ltT, ltT, Bool.or_eq_true, decide_eq_true_eq, decide_eq_true_eq]
    exact LeT.total a b
  exact (List.pairwise_mergeSort ht ho L).imp fun {a b} h => by rw [ltT] at h; exact of_decide_eq_true h
theorem ordF_nd (g : List Nat → Int) (L : List (List Nat)) : (ordF g L).Nodup := dedup_nd (by simp)
theorem ordF_mem {g : List Nat → Int} {L : List (List Nat)} {r : List Nat} : r ∈ ordF g L ↔ r ∈ L := by
  unfold ordF
  rw [dedup_mem, List.mem_mergeSort]
  simp
theorem ordF_len (g : List Nat → Int) (L : List (List Nat)) : (ordF g L).length ≤ L.length := by
  have := dedup_len (l := L.mergeSort (leP g)) (acc := [])
  rw [List.length_mergeSort] at this
  unfold ordF
  simpa using this
theorem ord_one {g : List Nat → Int} {L ys : List (List Nat)} (hs : sortedS (ys.map T) = true) (hn : ys.Nodup) (hm : ∀ r, r ∈ ys ↔ r ∈ L) : (ys.mergeSort fun a b => decide (g a ≤ g b)) = ordF g L :=
  sort_two (size_sort (rise_pw hs) hn) (ordF_pw g L) ((List.mergeSort_perm _ _).nodup_iff.mpr hn) (ordF_nd g L) fun r => by rw [List.mem_mergeSort, hm, ordF_mem]
theorem ordF_self (g : List Nat → Int) (L : List (List Nat)) : ordF g (ordF g L) = ordF g L :=
  sort_two (ordF_pw g _) (ordF_pw g L) (ordF_nd g _) (ordF_nd g L) fun r => by rw [ordF_mem]
theorem ms_map (g : List Nat → Int) (h : Str → Int) (e : ∀ l, h (T l) = g l) (ys : List (List Nat)) : (ys.map T).mergeSort (leK h) = (ys.mergeSort fun a b => decide (g a ≤ g b)).map T := by
  refine (List.map_mergeSort (f := T) (r := fun a b => decide (g a ≤ g b)) (s := leK h) (l := ys) ?_).symm
  intro a _ b _
  show _ = decide (h (T a) ≤ h (T b))
  rw [e, e]


/-! ### the rows that seeds make -/
inductive Cl (S : List (List Nat)) (n : Nat) : List Nat → Prop
  | base : Cl S n (List.replicate n 46)
  | step {s r : List Nat} : s ∈ S → Cl S n r → Cl S n (lay s r)
section
variable {S S2 : List (List Nat)} {n : Nat} {r t u : List Nat}
theorem Cl.len (hS : ∀ s ∈ S, s.length = n) (h : Cl S n r) : r.length = n := by
  induction h with
  | base => simp
  | @step s r hs _ ih => rw [lay_len (by rw [ih, hS s hs]), hS s hs]
theorem Cl.mono (h0 : ∀ s ∈ S, s ∈ S2) (h : Cl S n r) : Cl S2 n r := by
  induction h with
  | base => exact .base
  | step hs _ ih => exact .step (h0 _ hs) ih
theorem cl_fold (X : List (List Nat)) (h : ∀ s ∈ X, s ∈ S) : Cl S n (X.foldr lay (List.replicate n 46)) := by
  induction X with
  | nil => exact .base
  | cons a X ih => exact .step (h a List.mem_cons_self) (ih fun s hs => h s (List.mem_cons_of_mem _ hs))
theorem lay_blank : ∀ {s : List Nat}, lay s (List.replicate s.length 46) = s
  | [] => rfl
  | c :: s => by
    have ih := lay_blank (s := s)
    unfold lay at ih ⊢
    rw [List.length_cons, List.replicate_succ, List.zip_cons_cons, List.map_cons, ih]
    by_cases h : c = 46
    · subst h; simp
    · simp [h]
theorem cl_self (hS : ∀ s ∈ S, s.length = n) {s : List Nat} (hs : s ∈ S) : Cl S n s := by
  have h := Cl.step hs (Cl.base (S := S) (n := n))
  rw [← hS s hs, lay_blank, hS s hs] at h
  exact h
end
theorem lay_assoc : ∀ {s u b : List Nat}, s.length = u.length → b.length = u.length → lay (lay s u) b = lay s (lay u b)
  | [], [], [], _, _ => rfl
  | [], _ :: _, _, h, _ => by simp at h
  | _ :: _, [], _, h, _ => by simp at h
  | [], [], _ :: _, _, h => by simp at h
  | _ :: _, _ :: _, [], _, h => by simp at h
  | c :: s, d :: u, e :: b, h1, h2 => by
    have ih := lay_assoc (s := s) (u := u) (b := b) (by simpa using h1) (by simpa using h2)
    have e1 : ∀ (a : Nat) (x : List Nat) (a2 : Nat) (x2 : List Nat), lay (a :: x) (a2 :: x2) = (if a = 46 then a2 else a) :: lay x x2 := fun _ _ _ _ => rfl
    rw [e1, e1, e1, e1, ih]
    congr 1
    by_cases hc : c = 46
    · simp [hc]
    · simp [hc]
theorem cl_lay {S : List (List Nat)} {n : Nat} (hS : ∀ s ∈ S, s.length = n) {a b : List Nat} (ha : Cl S n a) (hb : Cl S n b) : Cl S n (lay a b) := by
  induction ha with
  | base =>
    have hl := hb.len hS
    have : lay (List.replicate n 46) b = b := by
      have key : ∀ (n : Nat) (b : List Nat), b.length = n → lay (List.replicate n 46) b = b := by
        intro n
        induction n with
        | zero => intro b h; rw [List.length_eq_zero_iff.mp h]; rfl
        | succ n ih =>
          intro b h
          cases b with
          | nil => simp at h
          | cons c b =>
            have e1 : lay (List.replicate (n + 1) 46) (c :: b) = (if 46 = 46 then c else 46) :: lay (List.replicate n 46) b := rfl
            rw [e1, if_pos rfl, ih b (by simpa using h)]
      exact key n b hl
    rw [this]
    exact hb
  | @step s u hs hu ih =>
    rw [lay_assoc (by rw [hS s hs, hu.len hS]) (by rw [hb.len hS, hu.len hS])]
    exact .step hs ih
theorem lay_row {fr : List (List Nat × Nat)} {s l : List Nat} (hs : isRow fr s = true) (hl : isRow fr l = true) : isRow fr (lay s l) = true := by
  obtain ⟨h1, h2⟩ := isRow_iff.mp hs
  obtain ⟨h3, h4⟩ := isRow_iff.mp hl
  have hlen : (lay s l).length = fr.length := by rw [lay_len (by omega)]; exact h1
  refine isRow_iff.mpr ⟨hlen, fun k c p hc hp => ?_⟩
  have hk := (List.getElem?_eq_some_iff.mp hp).1
  obtain ⟨a, ha⟩ := get_some (t := s) (k := k) (by omega)
  obtain ⟨b, hb⟩ := get_some (t := l) (k := k) (by omega)
  rw [lay_get ha hb] at hc
  by_cases e : a = 46
  · rw [if_pos e] at hc
    cases hc
    exact h4 k _ p hb hp
  · rw [if_neg e] at hc
    cases hc
    exact h2 k _ p ha hp
theorem blank_row {fr : List (List Nat × Nat)} : isRow fr (List.replicate fr.length 46) = true := by
  refine isRow_iff.mpr ⟨by simp, fun k c p hc hp => ?_⟩
  have := List.eq_of_mem_replicate (List.mem_of_getElem? hc)
  rw [this]
  exact sgs_dot _
def unS : D → List Nat
  | .str z => z.cps.toList
  | _ => []
theorem un_map (l : List (List Nat)) : (l.map eS).map unS = l := by
  rw [List.map_map]
  conv => rhs; rw [← List.map_id l]
  rfl
theorem perm_map {es : List D} {S : List (List Nat)} (h : es.Perm (S.map eS)) : ∃ o : List (List Nat), es = o.map eS ∧ o.Perm S := by
  refine ⟨es.map unS, ?_, by have := h.map unS; rw [un_map] at this; exact this⟩
  have hm : ∀ d ∈ es, eS (unS d) = d := by
    intro d hd
    obtain ⟨s, _, rfl⟩ := List.mem_map.mp (h.mem_iff.mp hd)
    rfl
  rw [List.map_map]
  conv => lhs; rw [← List.map_id es]
  refine List.map_congr_left fun d hd => (hm d hd).symm
/-! ### all rows that seeds make -/
theorem le_t {a b c : List Nat} (h1 : ¬ b < a) (h2 : ¬ c < b) : ¬ c < a := List.not_lt.mpr (List.le_trans (List.not_lt.mp h1) (List.not_lt.mp h2))
theorem le_a {a b : List Nat} (h1 : ¬ b < a) (h2 : ¬ a < b) : a = b := List.le_antisymm (List.not_lt.mp h1) (List.not_lt.mp h2)
theorem rising_all : ∀ {l : List (List Nat)} {p : List Nat}, risingS (T p) (l.map T) = true → ∀ x ∈ l, ¬ x < p
  | [], _, _, x, h => by cases h
  | a :: l, p, hr, x, hx => by
    have h : (!ltCps (T a).cps.toList (T p).cps.toList && risingS (T a) (l.map T)) = true := hr
    obtain ⟨h1, h2⟩ := Bool.and_eq_true_iff.mp h
    have h3 : ¬ a < p := by
      have h5 : ltCps (T a).cps.toList (T p).cps.toList = false := by simpa using h1
      have : ltCps a p = false := h5
      rw [ltCps_eq] at this
      exact of_decide_eq_false this
    rcases List.mem_cons.mp hx with rfl | hx
    · exact h3
    · exact le_t h3 (rising_all h2 x hx)
theorem rising_tail {l : List (List Nat)} {p : List Nat} (h : risingS (T p) (l.map T) = true) : sortedS (l.map T) = true := by
  cases l with
  | nil => rfl
  | cons a l => exact (Bool.and_eq_true_iff.mp (show (!ltCps (T a).cps.toList (T p).cps.toList && risingS (T a) (l.map T)) = true from h)).2
theorem sort_one : ∀ {A B : List (List Nat)}, sortedS (A.map T) = true → sortedS (B.map T) = true → A.Nodup → B.Nodup → (∀ r, r ∈ A ↔ r ∈ B) → A = B
  | [], [], _, _, _, _, _ => rfl
  | [], b :: B, _, _, _, _, h => by have := (h b).mpr List.mem_cons_self; cases this
  | a :: A, [], _, _, _, _, h => by have := (h a).mp List.mem_cons_self; cases this
  | a :: A, b :: B, h1, h2, n1, n2, h => by
    have r1 : risingS (T a) (A.map T) = true := h1
    have r2 : risingS (T b) (B.map T) = true := h2
    have e : a = b := by
      have ha := (h a).mp List.mem_cons_self
      have hb := (h b).mpr List.mem_cons_self
      rcases List.mem_cons.mp ha with e | ha
      · exact e
      rcases List.mem_cons.mp hb with e | hb
      · exact e.symm
      exact le_a (rising_all r1 b hb) (rising_all r2 a ha)
    subst e
    obtain ⟨m1, n1⟩ := List.nodup_cons.mp n1
    obtain ⟨m2, n2⟩ := List.nodup_cons.mp n2
    have e2 : A = B := sort_one (rising_tail r1) (rising_tail r2) n1 n2 fun r => by
      constructor
      · intro hr
        rcases List.mem_cons.mp ((h r).mp (List.mem_cons_of_mem _ hr)) with rfl | z
        · exact absurd hr m1
        · exact z
      · intro hr
        rcases List.mem_cons.mp ((h r).mpr (List.mem_cons_of_mem _ hr)) with rfl | z
        · exact absurd hr m2
        · exact z
    rw [e2]
def Big (S : List (List Nat)) (n : Nat) : Prop := ∃ F : List (List Nat), F.Nodup ∧ 40 < F.length ∧ ∀ r ∈ F, Cl S n r
structure RowsOf (S : List (List Nat)) (n : Nat) (Y : List (List Nat)) : Prop where
  nd : Y.Nodup
  so : sortedS (Y.map T) = true
  len : Y.length ≤ 40
  mem : ∀ r, r ∈ Y ↔ Cl S n r
theorem not_big {S : List (List Nat)} {n : Nat} {Y : List (List Nat)} (h : RowsOf S n Y) : ¬ Big S n := by
  rintro ⟨F, h1, h2, h3⟩
  have := nodup_len h1 fun r hr => (h.mem r).mpr (h3 r hr)
  have := h.len
  omega
def keyT (r : List Nat) : Key × V := (.inr (T r), .bl true)
theorem valV_key {F : List (List Nat)} {r : List Nat} : (valV (F.map keyT) (.inr (T r))).isSome = decide (r ∈ F) := by
  unfold valV
  rw [Bool.eq_iff_iff, decide_eq_true_eq]
  induction F with
  | nil => simp
  | cons a F ih =>
    rw [List.map_cons, List.find?_cons]
    by_cases h : T a = T r
    · have e := T_inj h
      subst e
      simp [keyT]
    · have h2 : ¬ r = a := fun e => h (by rw [e])
      simp only [keyT, Sum.inr.injEq, h, decide_false]
      rw [List.mem_cons]
      simp only [h2, false_or]
      exact ih
theorem putK_key {F : List (List Nat)} {r : List Nat} (h : r ∉ F) : putK (F.map keyT) (.inr (T r)) (.bl true) = (F ++ [r]).map keyT := by
  have h2 : ((F.map keyT).any fun kv => decide (kv.1 = (Sum.inr (T r) : Key))) = false := by
    rw [List.any_eq_false]
    intro kv hkv
    obtain ⟨a, ha, rfl⟩ := List.mem_map.mp hkv
    simp only [keyT, decide_eq_true_eq, Sum.inr.injEq]
    intro e
    exact h (by rw [← T_inj e]; exact ha)
  unfold putK
  rw [if_neg (by rw [h2]; exact Bool.false_ne_true), List.map_append]
  rfl
theorem get_app {α : Type} {l m : List α} {i : Nat} {a : α} (h : l[i]? = some a) : (l ++ m)[i]? = some a := by
  rw [List.getElem?_append_left (List.getElem?_eq_some_iff.mp h).1]
  exact h
theorem cl_in {S F : List (List Nat)} {n : Nat} (h0 : List.replicate n 46 ∈ F) (h : ∀ r ∈ F, ∀ s ∈ S, lay s r ∈ F) : ∀ r, Cl S n r → r ∈ F := fun r hr => by
  induction hr with
  | base => exact h0
  | step hs _ ih => exact h _ ih _ hs
section
variable {P : Program} {w : World} {K : PySem.W.Frag} {mg : Str → Option Value} {base : Heap}
end

/-! ### all fillings -/
theorem flat_len {α β : Type} {f : α → List β} {n : Nat} (h : ∀ a, (f a).length ≤ n) : ∀ l : List α, (l.flatMap f).length ≤ l.length * n
  | [] => by simp
  | a :: l => by
    rw [List.flatMap_cons, List.length_append, List.length_cons, Nat.add_mul, Nat.one_mul]
    have := flat_len h l
    have := h a
    omega
theorem pw_flat {α β : Type} {f : α → List β} {P : α → α → Prop} {R : β → β → Prop} (h1 : ∀ a, (f a).Pairwise R) (h2 : ∀ a b, P a b → ∀ x ∈ f a, ∀ y ∈ f b, R x y) : ∀ {l : List α}, l.Pairwise P → (l.flatMap f).Pairwise R
  | [], _ => .nil
  | a :: l, h => by
    obtain ⟨h3, h4⟩ := List.pairwise_cons.mp h
    rw [List.flatMap_cons]
    refine List.pairwise_append.mpr ⟨h1 a, pw_flat h1 h2 h4, fun x hx y hy => ?_⟩
    obtain ⟨b, hb, hy⟩ := List.mem_flatMap.mp hy
    exact h2 a b (h3 b hb) x hx y hy
theorem up_sorted : ∀ {l : List (List Nat)}, l.Pairwise (· < ·) → sortedS (l.map T) = true
  | [], _ => rfl
  | [a], _ => rfl
  | a :: b :: l, h => by
    obtain ⟨h1, h2⟩ := List.pairwise_cons.mp h
    have key : ∀ {l : List (List Nat)} {p : List Nat}, (p :: l).Pairwise (· < ·) → risingS (T p) (l.map T) = true := by
      intro l
      induction l with
      | nil => intro p _; rfl
      | cons b l ih =>
        intro p h
        obtain ⟨h1, h2⟩ := List.pairwise_cons.mp h
        show (!ltCps (T b).cps.toList (T p).cps.toList && risingS (T b) (l.map T)) = true
        rw [ih h2, Bool.and_true, T_cps, T_cps, ltCps_eq, decide_eq_false (List.lt_asymm (h1 b List.mem_cons_self))]
        rfl
    exact key h
section
variable {P : Program} {w : World} {K : PySem.W.Frag} {mg : Str → Option Value} {base : Heap}
end

/-! ### rows laid over, plainly -/
theorem ext_D {l m : List Nat} (h : l.length = m.length) (e : ∀ k, l.getD k 46 = m.getD k 46) : l = m := by
  refine List.ext_getElem h fun k h1 h2 => ?_
  have := e k
  rw [List.getD_eq_getElem?_getD, List.getD_eq_getElem?_getD, List.getElem?_eq_getElem h1, List.getElem?_eq_getElem h2] at this
  exact this
theorem get_out {l : List Nat} {k : Nat} (h : l.length ≤ k) : l.getD k 46 = 46 := by
  rw [List.getD_eq_getElem?_getD, List.getElem?_eq_none h]
  rfl
theorem zip_D {f : Nat × Nat → Nat} {t u : List Nat} {k : Nat} (h : u.length = t.length) (h0 : f (46, 46) = 46) : ((t.zip u).map f).getD k 46 = f (t.getD k 46, u.getD k 46) := by
  by_cases hk : k < t.length
  · have hk2 : k < u.length := by omega
    have e : (t.zip u)[k]? = some (t[k], u[k]) := List.getElem?_zip_eq_some.mpr ⟨by simp [hk], by simp [hk2]⟩
    simp [List.getD_eq_getElem?_getD, hk, hk2, e]
  · rw [get_out (l := t) (by omega), get_out (l := u) (by omega), get_out (by simp; omega), h0]
theorem lay_D {t u : List Nat} {k : Nat} (h : u.length = t.length) : (lay t u).getD k 46 = if t.getD k 46 = 46 then u.getD k 46 else t.getD k 46 := zip_D h rfl
theorem uni_D {t u : List Nat} {k : Nat} (h : u.length = t.length) : (uni t u).getD k 46 = if 43 = t.getD k 46 ∨ 43 = u.getD k 46 then 43 else 46 := zip_D (f := fun p => if 43 = p.1 ∨ 43 = p.2 then 43 else 46) h rfl
theorem lot_D {t : List Nat} {k : Nat} : (lot t).getD k 46 = if t.getD k 46 = 46 then 46 else 43 := by
  by_cases hk : k < t.length
  · unfold lot
    simp [List.getD_eq_getElem?_getD, hk]
  · rw [get_out (l := t) (by omega), get_out (by rw [lot_len]; omega)]
    rfl
theorem all_D {f : Nat × Nat → Bool} {x y : List Nat} (hl : x.length = y.length) (h : ∀ k, f (x.getD k 46, y.getD k 46) = true) : (x.zip y).all f = true := by
  rw [all_zip hl, List.isEmpty_iff, List.filter_eq_nil_iff]
  intro k _
  rw [h k]
  exact Bool.false_ne_true
section
variable {x y z : List Nat} {n : Nat}
theorem lay_self (x : List Nat) : lay x x = x := ext_D (by rw [lay_len rfl]) fun k => by
  rw [lay_D rfl]
  split <;> rfl
theorem lay_back (h : y.length = x.length) : lay (lay x y) x = lay x y := ext_D (by rw [lay_len (by rw [lay_len h])]) fun k => by
  rw [lay_D (by rw [lay_len h]), lay_D h]
  generalize x.getD k 46 = a
  generalize y.getD k 46 = b
  by_cases e : a = 46 <;> by_cases e2 : b = 46 <;> simp [e, e2]
theorem lot_lay (h : y.length = x.length) : lot (lay x y) = uni (lot x) (lot y) := ext_D (by rw [lot_len, lay_len h, uni_len (by rw [lot_len, lot_len, h]), lot_len]) fun k => by
  rw [lot_D, lay_D h, uni_D (by rw [lot_len, lot_len, h]), lot_D, lot_D]
  generalize x.getD k 46 = a
  generalize y.getD k 46 = b
  by_cases e : a = 46 <;> by_cases e2 : b = 46 <;> simp [e, e2]
theorem in_uni (h : y.length = x.length) : inB (lot x) (uni (lot y) (lot x)) = true := all_D (by rw [uni_len (by rw [lot_len, lot_len, h]), lot_len, lot_len, h]) fun k => by
  show (decide ((lot x).getD k 46 = 46) || decide ((uni (lot y) (lot x)).getD k 46 = 43)) = true
  rw [uni_D (by rw [lot_len, lot_len, h]), lot_D, lot_D]
  generalize x.getD k 46 = a
  generalize y.getD k 46 = b
  by_cases e : a = 46 <;> by_cases e2 : b = 46 <;> simp [e, e2]
theorem ag_lay (h : y.length = x.length) : agB x (lay x y) = true := all_D (by rw [lay_len h]) fun k => by
  show (decide (x.getD k 46 = 46) || decide ((lay x y).getD k 46 = 46) || decide (x.getD k 46 = (lay x y).getD k 46)) = true
  rw [lay_D h]
  generalize x.getD k 46 = a
  by_cases e : a = 46 <;> simp [e]
theorem lay_ass (h1 : y.length = x.length) (h2 : z.length = x.length) : lay (lay x y) z = lay x (lay y z) := by
  have l1 : (lay x y).length = x.length := lay_len h1
  have l2 : (lay y z).length = x.length := by rw [lay_len (by omega)]; exact h1
  refine ext_D (by rw [lay_len (by omega), l1, lay_len (by omega)]) fun k => ?_
  rw [lay_D (by omega), lay_D h1, lay_D (by omega), lay_D (by omega)]
  generalize x.getD k 46 = a
  by_cases e : a = 46 <;> simp [e]
theorem lay_five (h1 : y.length = x.length) (h2 : z.length = x.length) : lay z (lay x (lay y (lay z x))) = lay z (lay x y) := by
  have l1 : (lay z x).length = x.length := by rw [lay_len (by omega)]; exact h2
  have l2 : (lay y (lay z x)).length = x.length := by rw [lay_len (by omega)]; exact h1
  have l3 : (lay x (lay y (lay z x))).length = x.length := by rw [lay_len (by omega)]
  have l4 : (lay x y).length = x.length := lay_len h1
  refine ext_D (by rw [lay_len (by omega), lay_len (by omega)]) fun k => ?_
  rw [lay_D (by omega), lay_D (by omega), lay_D (by omega), lay_D (by omega), lay_D (by omega), lay_D (by omega)]
  generalize x.getD k 46 = a
  generalize y.getD k 46 = b
  generalize z.getD k 46 = c
  by_cases e : a = 46 <;> by_cases e2 : b = 46 <;> by_cases e3 : c = 46 <;> simp [e, e2, e3]
theorem cut_all (x : List Nat) : cutF x (List.range x.length) = x := by
  refine ext_D (by simp [cutF]) fun k => ?_
  by_cases hk : k < x.length
  · simp [cutF, List.getD_eq_getElem?_getD, hk]
  · rw [get_out (l := x) (by omega), get_out (by simp [cutF]; omega)]
theorem cut_lot {x ks : List Nat} : cutF (lot x) ks = lot (cutF x ks) := by
  unfold cutF lot
  rw [List.map_map]
  refine List.map_congr_left fun k _ => ?_
  exact lot_D (t := x) (k := k)
end
theorem sg_rep (n : Nat) (c : Nat) (h : c = 46 ∨ c = 43) : LotS (List.replicate n c) := fun d hd => by rw [List.eq_of_mem_replicate hd]; exact h
def unI : D → Nat
  | .int z => z.toNat
  | _ => 0
theorem unI_map (l : List Nat) : (l.map eI).map unI = l := by
  rw [List.map_map]
  conv => rhs; rw [← List.map_id l]
  rfl
theorem permI {es : List D} {S : List Nat} (h : es.Perm (S.map eI)) : ∃ o : List Nat, es = o.map eI ∧ o.Perm S := by
  refine ⟨es.map unI, ?_, by have := h.map unI; rw [unI_map] at this; exact this⟩
  have hm : ∀ d ∈ es, eI (unI d) = d := by
    intro d hd
    obtain ⟨s, _, rfl⟩ := List.mem_map.mp (h.mem_iff.mp hd)
    rfl
  rw [List.map_map]
  conv => lhs; rw [← List.map_id es]
  refine List.map_congr_left fun d hd => (hm d hd).symm





/-! ### the last item, all but the last -/
section
variable {K : PySem.W.Frag} {M : Addr → Prop} {I : Hp → Prop} {H : Hp} {x : V} {Q : VK}
theorem reps_snoc : ∀ {xs : List V} {ds : List D} {e : D}, Reps K M H xs (ds ++ [e]) → ∃ xs0 v, xs = xs0 ++ [v] ∧ Reps K M H xs0 ds ∧ Rep K M H v e
  | _, [], _, .cons r .nil => ⟨[], _, rfl, .nil, r⟩
  | _, _ :: _, _, .cons r rs => by
    obtain ⟨xs0, v, rfl, r1, r2⟩ := reps_snoc rs
    exact ⟨_ :: xs0, v, rfl, .cons r r1, r2⟩
theorem atI_m1 {xs : List V} {y : V} : atI (xs ++ [y]) (-1) = some y := by
  unfold atI ixN
  rw [if_neg (by decide), if_pos (by simp; omega)]
  have e : ((-1 : Int) + ((xs ++ [y]).length : Nat)).toNat = xs.length := by simp; omega
  show (xs ++ [y])[((-1 : Int) + ((xs ++ [y]).length : Nat)).toNat]? = some y
  rw [e]
  simp
theorem ix_last {ds : List D} {e : D} (hx : Rep K M H x (.lst (ds ++ [e]))) (q : ∀ v, Rep K M H v e → Q v H) : rIx K x (.int (-1)) H Q := by
  cases hx with
  | lst h n r =>
    obtain ⟨xs0, v, rfl, _, r2⟩ := reps_snoc r
    exact .inl ⟨_, _, _, v, rfl, rfl, SqL.of h, atI_m1, q v r2⟩
theorem cut_but {xs : List V} {v : V} : cutV (xs ++ [v]) none (some (-1)) = xs := by
  unfold cutV
  rw [HT.sIx_none]
  have e : HT.sIx (xs ++ [v]).length (xs ++ [v]).length (some (-1)) = xs.length := by
    show (if (-1 : Int) < 0 then ((-1 : Int) + ((xs ++ [v]).length : Int)).toNat else min (-1 : Int).toNat (xs ++ [v]).length) = _
    rw [if_pos (by decide)]
    simp
    omega
  rw [e]
  simp
theorem sl_Lbut {ds : List D} {e : D} (hw : Wf M I) (hI : I H) (hx : Rep K M H x (.lst (ds ++ [e]))) (q : ∀ v H', Ex M H H' → I H' → Rep K M H' v (.lst ds) → Q v H') : rSlU K x none (some (-1)) H Q := by
  cases hx with
  | lst h n r =>
    obtain ⟨xs0, v, rfl, r1, _⟩ := reps_snoc r
    refine .inl ⟨_, _, rfl, SqL.of h, fun p hp => ?_⟩
    rw [cut_but]
    exact q _ _ (Ex.of (same_upd hp)) (hw.same (same_upd hp) hI) (.lst upd_same (hw.fresh hI hp) (r1.same (same_upd hp)))
end
abbrev d4 : List Nat := [48, 49, 50, 51]
theorem d4_get {m : Nat} (h : m < 4) : d4[m]? = some (48 + m) := by
  have e : ∀ m : Fin 4, d4[m.val]? = some (48 + m.val) := by decide
  exact e ⟨m, h⟩
section
variable {P : Program} {w : World} {K : PySem.W.Frag} {mg : Str → Option Value} {base : Heap}
def spSeed (K : PySem.W.Frag) : Sp := fun vs H Q _ => ∃ (M : Addr → Prop) (I : Hp → Prop) (b : Addr) (c : V) (fr : List (List Nat × Nat)) (sh : Int), Wf M I ∧ I H ∧ HasBag M I b ∧ vs = [.ref b, c, .int sh] ∧ Rep K M H c (.lst (fr.map eC)) ∧ FrOk fr ∧ 1 ≤ fr.length ∧ fr.length ≤ 12 ∧ ∀ t H', Rw fr t → Ex M H H' → I H' → Q (.str (T t)) H'
def spMend (K : PySem.W.Frag) : Sp := fun vs H Q _ => ∃ (M : Addr → Prop) (I : Hp → Prop) (c y : V) (fr : List (List Nat × Nat)) (S : List (List Nat)), Wf M I ∧ I H ∧ vs = [c, y] ∧ Rep K M H c (.lst (fr.map eC)) ∧ FrOk fr ∧ fr.length ≤ 12 ∧ Rep K M H y (.lst (S.map eS)) ∧ S ≠ [] ∧ S.length ≤ 20 ∧ (∀ s ∈ S, Rw fr s) ∧ S.Nodup ∧
  ∀ y' S' H', GoodS fr S' → S'.length = S.length → Rep K M H' y' (.lst (S'.map eS)) → Ex M H H' → I H' → Q y' H'
def spOver (K : PySem.W.Frag) : Sp := fun vs H Q _ => ∃ (M : Addr → Prop) (I : Hp → Prop) (l m : List Nat), Wf M I ∧ I H ∧ vs = [.str (T l), .str (T m)] ∧ m.length = l.length ∧ l.length ≤ 1000 ∧ ∀ H', Ex M H H' → I H' → Q (.str (T (lay l m))) H'
end


/-! ### what few seeds make -/
theorem lay_blank_l : ∀ {n : Nat} {b : List Nat}, b.length = n → lay (List.replicate n 46) b = b
  | 0, b, h => by rw [List.length_eq_zero_iff.mp h]; rfl
  | n + 1, c :: b, h => by
    have e1 : lay (List.replicate (n + 1) 46) (c :: b) = (if 46 = 46 then c else 46) :: lay (List.replicate n 46) b := rfl
    rw [e1, if_pos rfl, lay_blank_l (by simpa using h)]
  | n + 1, [], h => by simp at h
section
variable {S F : List (List Nat)} {n : Nat}
theorem fold_len (hS : ∀ s ∈ S, s.length = n) : ∀ l : List (List Nat), (∀ s ∈ l, s ∈ S) → (l.foldr lay (List.replicate n 46)).length = n
  | [], _ => by simp
  | a :: l, h => by
    have ih := fold_len hS l fun s hs => h s (List.mem_cons_of_mem _ hs)
    have ha := hS a (h a List.mem_cons_self)
    rw [List.foldr_cons, lay_len (by omega)]
    exact ha
theorem lay_filter (hS : ∀ s ∈ S, s.length = n) {s : List Nat} (hs : s.length = n) : ∀ l : List (List Nat), (∀ t ∈ l, t ∈ S) → lay s (l.foldr lay (List.replicate n 46)) = lay s ((l.filter fun t => !decide (t = s)).foldr lay (List.replicate n 46))
  | [], _ => rfl
  | t :: l, h => by
    have h2 : ∀ t ∈ l, t ∈ S := fun t ht => h t (List.mem_cons_of_mem _ ht)
    have ih := lay_filter hS hs l h2
    have hl := fold_len hS l h2
    have hl2 := fold_len hS (l.filter fun t => !decide (t = s)) fun t ht => h2 t (List.mem_filter.mp ht).1
    have ht := hS t (h t List.mem_cons_self)
    rw [List.filter_cons]
    by_cases e : t = s
    · subst e
      rw [show (!decide (t = t)) = false by simp, if_neg Bool.false_ne_true, ← ih, List.foldr_cons]
      rw [← lay_ass rfl (by omega), lay_self]
    · rw [show (!decide (t = s)) = true by simp [e], if_pos rfl, List.foldr_cons, List.foldr_cons]
      generalize l.foldr lay (List.replicate n 46) = u at *
      generalize (l.filter fun t => !decide (t = s)).foldr lay (List.replicate n 46) = u' at *
      have l1 : (lay t u).length = n := by rw [lay_len (by omega)]; exact ht
      have l2 : (lay t u').length = n := by rw [lay_len (by omega)]; exact ht
      refine ext_D (by rw [lay_len (by omega), lay_len (by omega)]) fun k => ?_
      have hk := congrArg (fun z => z.getD k 46) ih
      have hk : (lay s u).getD k 46 = (lay s u').getD k 46 := hk
      rw [lay_D (by omega), lay_D (by omega)] at hk
      rw [lay_D (by omega), lay_D (by omega), lay_D (by omega), lay_D (by omega)]
      by_cases e1 : s.getD k 46 = 46
      · rw [if_pos e1, if_pos e1] at hk
        rw [if_pos e1, if_pos e1, hk]
      · rw [if_neg e1, if_neg e1]
theorem cl_seq (hS : ∀ s ∈ S, s.length = n) {r : List Nat} (h : Cl S n r) : ∃ l : List (List Nat), (∀ s ∈ l, s ∈ S) ∧ l.Nodup ∧ r = l.foldr lay (List.replicate n 46) := by
  induction h with
  | base => exact ⟨[], (fun _ h => nomatch h), List.nodup_nil, rfl⟩
  | @step s r hs _ ih =>
    obtain ⟨l, h1, h2, rfl⟩ := ih
    refine ⟨s :: l.filter (fun t => !decide (t = s)), fun t ht => ?_, ?_, ?_⟩
    · rcases List.mem_cons.mp ht with rfl | ht
      · exact hs
      · exact h1 t (List.mem_filter.mp ht).1
    · refine List.nodup_cons.mpr ⟨fun hm => ?_, h2.sublist List.filter_sublist⟩
      have := (List.mem_filter.mp hm).2
      simp at this
    · rw [lay_filter hS (hS s hs) l h1, List.foldr_cons]
def seq3 (S : List (List Nat)) : List (List (List Nat)) := [[]] ++ (S.map fun a => [a]) ++ (S.flatMap fun a => S.map fun b => [a, b]) ++ (S.flatMap fun a => S.flatMap fun b => S.map fun c => [a, b, c])
theorem flat_eq {α β : Type} {f : α → List β} {m : Nat} (h : ∀ a, (f a).length = m) : ∀ l : List α, (l.flatMap f).length = l.length * m
  | [] => by simp
  | a :: l => by
    rw [List.flatMap_cons, List.length_append, flat_eq h l, h a, List.length_cons, Nat.succ_mul]
    omega
theorem few_seeds (hS : ∀ s ∈ S, s.length = n) (hl : S.length ≤ 3) (hF : F.Nodup) (hc : ∀ r ∈ F, Cl S n r) : F.length ≤ 40 := by
  have h1 : ∀ r ∈ F, r ∈ (seq3 S).map fun l => l.foldr lay (List.replicate n 46) := by
    intro r hr
    obtain ⟨l, g1, g2, rfl⟩ := cl_seq hS (hc r hr)
    have g3 := nodup_len g2 g1
    refine List.mem_map.mpr ⟨l, ?_, rfl⟩
    unfold seq3
    match l, g1, g3 with
    | [], _, _ => simp
    | [a], g, _ =>
      have ha := g a (by simp)
      simp [ha]
    | [a, b], g, _ =>
      have ha := g a (by simp)
      have hb := g b (by simp)
      simp [ha, hb]
    | [a, b, c], g, _ =>
      have ha := g a (by simp)
      have hb := g b (by simp)
      have hc := g c (by simp)
      exact List.mem_append_right _ (List.mem_flatMap.mpr ⟨a, ha, List.mem_flatMap.mpr ⟨b, hb, List.mem_map.mpr ⟨c, hc, rfl⟩⟩⟩)
    | _ :: _ :: _ :: _ :: l, _, g3 => exact absurd g3 (by simp; omega)
  have h2 := nodup_len hF h1
  have h3 : (seq3 S).length ≤ 40 := by
    unfold seq3
    rw [List.length_append, List.length_append, List.length_append, flat_eq (fun a => by rw [List.length_map]), flat_eq (fun a => flat_eq (fun b => by rw [List.length_map]) S)]
    simp only [List.length_map, List.length_cons, List.length_nil]
    have hm : S.length = 0 ∨ S.length = 1 ∨ S.length = 2 ∨ S.length = 3 := by omega
    rcases hm with e | e | e | e <;> rw [e] <;> decide
  rw [List.length_map] at h2
  omega
theorem cl_right (hS : ∀ s ∈ S, s.length = n) (hF : ∀ r ∈ F, r.length = n) (h : ∀ r ∈ F, ∀ s ∈ S, lay r s ∈ F) {u : List Nat} (hu : Cl S n u) : ∀ r ∈ F, lay r u ∈ F := by
  induction hu with
  | base =>
    intro r hr
    have := hF r hr
    subst this
    rw [lay_blank]
    exact hr
  | @step s u hs hu ih =>
    intro r hr
    have h1 := hF r hr
    have h2 := hS s hs
    have h3 := hu.len hS
    rw [← lay_ass (by omega) (by omega)]
    exact ih _ (h r hr s hs)
structure CloOf (S : List (List Nat)) (n : Nat) (X : List (List Nat)) : Prop where
  nd : X.Nodup
  len : X.length ≤ 40
  mem : ∀ r, r ∈ X ↔ Cl S n r
  fst : X[0]? = some (List.replicate n 46)
end
section
variable {P : Program} {w : World} {K : PySem.W.Frag} {mg : Str → Option Value} {base : Heap}
def spClosed (K : PySem.W.Frag) : Sp := fun vs H Q _ => ∃ (M : Addr → Prop) (I : Hp → Prop) (y : V) (S : List (List Nat)) (n : Nat), Wf M I ∧ I H ∧ vs = [y, .int 40] ∧ Rep K M H y (.lst (S.map eS)) ∧ S ≠ [] ∧ S.length ≤ 20 ∧ (∀ s ∈ S, s.length = n) ∧ n ≤ 1000 ∧
  (∀ H', 3 < S.length → Ex M H H' → I H' → Q .non H') ∧ ∀ v X H', CloOf S n X → Rep K M H' v (.lst (X.map eS)) → Ex M H H' → I H' → Q v H'
abbrev sV (l : List Nat) : V := .str (T l)
end


/-! ### a band's home -/
theorem rot_perm {α : Type} (S : List α) (t : Nat) : (S.drop t ++ S.take t).Perm S := by
  have := List.perm_append_comm (l₁ := S.drop t) (l₂ := S.take t)
  rw [List.take_append_drop] at this
  exact this
theorem GoodS.perm {fr : List (List Nat × Nat)} {S S2 : List (List Nat)} (h : GoodS fr S) (p : S2.Perm S) : GoodS fr S2 where
  rw := fun s hs => h.rw s (p.mem_iff.mp hs)
  nd := p.nodup_iff.mpr h.nd
  all := fun k hk => by obtain ⟨s, hs, hm⟩ := h.all k hk; exact ⟨s, p.mem_iff.mpr hs, hm⟩
theorem CloOf.perm {S S2 X : List (List Nat)} {n : Nat} (h : CloOf S n X) (p : S2.Perm S) : CloOf S2 n X where
  nd := h.nd
  len := h.len
  mem := fun r => (h.mem r).trans ⟨fun c => c.mono fun s hs => p.mem_iff.mpr hs, fun c => c.mono fun s hs => p.mem_iff.mp hs⟩
  fst := h.fst
/-- what a band's home holds -/
structure HomeOk (fr : List (List Nat × Nat)) (S X : List (List Nat)) : Prop where
  ok : FrOk fr
  nd : (fr.map (·.1)).Nodup
  l1 : 1 ≤ fr.length
  l2 : fr.length ≤ 12
  good : GoodS fr S
  s1 : 1 ≤ S.length
  s2 : S.length ≤ 7
  clo : CloOf S fr.length X
section
variable {P : Program} {w : World} {K : PySem.W.Frag} {mg : Str → Option Value} {base : Heap}
def spHome (K : PySem.W.Frag) : Sp := fun vs H Q _ => ∃ (M : Addr → Prop) (I : Hp → Prop) (b : Addr), Wf M I ∧ I H ∧ HasBag M I b ∧ vs = [.ref b] ∧ ∀ v fr S X H', HomeOk fr S X → Rep K M H' v (.lst [.lst (fr.map eC), .lst (S.map eS), .lst (X.map eS)]) → Ex M H H' → I H' → Q v H'
theorem of_int {M : Addr → Prop} {I : Hp → Prop} {H : Hp} {b : Addr} {ns : List Nat} {x : V} {Q : VK} (hw : Wf M I) (hI : I H) (hB : HasBag M I b) (hx : Rep K M H x (.lst (ns.map fun n : Nat => .int n))) (h0 : 0 < ns.length) (h1 : ns.length ≤ 1000) (q : ∀ (n : Nat) H', n ∈ ns → Ex M H H' → I H' → Q (.int n) H') : spOf K [.ref b, x] H Q E0 := by
  refine ⟨M, I, b, x, _, _, hw, hI, hB, rfl, hx, rfl, by rw [List.length_map]; exact h0, by rw [List.length_map]; omega, fun v e H' he rv e1 i1 => ?_⟩
  obtain ⟨n, hn, rfl⟩ := List.mem_map.mp he
  cases rep_int rv
  exact q n H' hn e1 i1
end
section
variable {P : Program} {w : World} {K : PySem.W.Frag} {mg : Str → Option Value} {base : Heap}
def spLine (K : PySem.W.Frag) : Sp := fun vs H Q _ => ∃ (M : Addr → Prop) (I : Hp → Prop) (b : Addr) (y z : V) (S X : List (List Nat)), Wf M I ∧ I H ∧ HasBag M I b ∧ vs = [.ref b, y, z] ∧ Rep K M H y (.lst (S.map eS)) ∧ Rep K M H z (.lst (X.map eS)) ∧ 0 < S.length ∧ S.length ≤ 1000 ∧ 0 < X.length ∧ X.length ≤ 1000 ∧ (∀ s ∈ S, s ∈ X) ∧ ∀ r H', r ∈ X → Ex M H H' → I H' → Q (.str (T r)) H'
def spPast (K : PySem.W.Frag) : Sp := fun vs H Q _ => ∃ (M : Addr → Prop) (I : Hp → Prop) (b : Addr) (y z : V) (S X : List (List Nat)) (n : Nat), Wf M I ∧ I H ∧ HasBag M I b ∧ vs = [.ref b, y, z, .int n] ∧ Rep K M H y (.lst (S.map eS)) ∧ Rep K M H z (.lst (X.map eS)) ∧ 0 < S.length ∧ S.length ≤ 1000 ∧ 0 < X.length ∧ X.length ≤ 1000 ∧ (∀ s ∈ S, s ∈ X) ∧ (∀ s ∈ X, ∀ c ∈ s, c < 128) ∧ n ≤ 1000 ∧ ∀ v (R : List (List Nat)) H', R.length = n → (∀ r ∈ R, r ∈ X) → Rep K M H' v (.lst (R.map eS)) → Ex M H H' → I H' → Q v H'
end


section
variable {P : Program} {w : World} {K : PySem.W.Frag} {mg : Str → Option Value} {base : Heap}
def spSize (K : PySem.W.Frag) : Sp := fun vs H Q _ => ∃ (M : Addr → Prop) (I : Hp → Prop) (b : Addr), Wf M I ∧ I H ∧ HasBag M I b ∧ vs = [.ref b] ∧ ∀ (n : Nat) H', 1 ≤ n → n ≤ 6 → Ex M H H' → I H' → Q (.int n) H'
def spLay (K : PySem.W.Frag) : Sp := fun vs H Q _ => ∃ M I l m, Wf M I ∧ I H ∧ vs = [.str (T l), .str (T m)] ∧ l.length ≤ 1000 ∧ ∀ H', Ex M H H' → I H' → Q (.str (T (lay l m))) H'
def spBlankF (K : PySem.W.Frag) : Sp := fun vs H Q _ => ∃ M x ds, vs = [x] ∧ Rep K M H x (.lst ds) ∧ ds.length ≤ 1000 ∧ Q (.str (T (List.replicate ds.length 46))) H
def spFresh (K : PySem.W.Frag) : Sp := fun vs H Q _ => ∃ M I s t, Wf M I ∧ I H ∧ vs = [.str (T s), .str (T t)] ∧ s.length ≤ 1000 ∧ t.length = s.length ∧ ∀ y H', Ex M H H' → I H' → Rep K M H' y (.lst ((fresh s t).map eI)) → Q y H'
def spFits (K : PySem.W.Frag) : Sp := fun vs H Q _ => ∃ M I s r t, Wf M I ∧ I H ∧ vs = [.str (T s), .str (T r), .str (T t)] ∧ s.length ≤ 1000 ∧ t.length = s.length ∧ r.length = s.length ∧ ∀ H', Ex M H H' → I H' → Q (.bl (fits s r t)) H'
end

section
variable {P : Program} {w : World} {K : PySem.W.Frag} {mg : Str → Option Value} {base : Heap}
theorem ok_over (B : Bl mg) (F : At K mg "over" s_over ["newer", "older"] []) : Df P w K mg base 1 "over" ["newer", "older"] [] (spLay K) := by
  refine F.df sc_over (fun vs H Q E h => ?_) (fun f cdv A outer s H vs Q E hr h => ⟨_, w_over B hr, ?_⟩)
  · obtain ⟨M, I, l, m, _, _, rfl, _⟩ := h
    rfl
  · obtain ⟨M, I, l, m, hw, hI, rfl, hl, q⟩ := h
    unfold t_over
    walk_at "sx"
    refine lc_zipM (as := l) (bs := m) (enc := H48.e1) (enc2 := H48.e1) (fun p => .str (T [if p.1 = 46 then p.2 else p.1])) hw hI (.str _) rfl (.str _) rfl (by walk_at "sz") (fun _ _ => rfl) ?_ ?_
    · intro L acc k a b v u H hL ha hb rv rw wf hi ex Qe q
      cases rep_str rv
      cases rep_str rw
      walk_at "sx"
      refine ifB (fun h => ?_) (fun h => ?_) <;> walk_at "sx"
      · exact q _ _ (by simp at h; simp [h]; exact .str _) hi (Ex.refl _)
      · exact q _ _ (by simp at h; simp [h]; exact .str _) hi (Ex.refl _)
    · intro y H' rp ex hi
      walk_at "sx"
      exact join_1 _ rp (by simp; omega) (q _ ex hi)
def spLaid (K : PySem.W.Frag) : Sp := fun vs H Q _ => ∃ (M : Addr → Prop) (I : Hp → Prop) (x : V) (d : D) (S : List (List Nat)), Wf M I ∧ I H ∧ vs = [x] ∧ Rep K M H x d ∧ (d = .lst (S.map eS) ∨ d = .tup (S.map eS)) ∧ S ≠ [] ∧ S.length ≤ 1000 ∧ (∀ s ∈ S, s.length ≤ 1000) ∧ ∀ H', Ex M H H' → I H' → Q (.str (T (laidF S))) H'
def spIn (K : PySem.W.Frag) : Sp := fun vs H Q _ => ∃ M I l m, Wf M I ∧ I H ∧ vs = [.str (T l), .str (T m)] ∧ l.length = m.length ∧ LotS l ∧ LotS m ∧ l.length ≤ 1000 ∧ ∀ H', Ex M H H' → I H' → Q (.bl (inB l m)) H'
theorem ok_within (B : Bl mg) (F : At K mg "within" s_within ["one", "other"] []) : Df P w K mg base 1 "within" ["one", "other"] [] (spIn K) := by
  refine F.df sc_within (fun vs H Q E h => ?_) (fun f cdv A outer s H vs Q E hr h => ⟨_, w_within B hr, ?_⟩)
  · obtain ⟨M, I, l, m, _, _, rfl, _⟩ := h
    rfl
  · obtain ⟨M, I, l, m, hw, hI, rfl, hlm, _, _, hl, q⟩ := h
    unfold t_within
    walk_at "sx"
    refine lc_zipM (as := l) (bs := m) (enc := H48.e1) (enc2 := H48.e1) (fun p => .bl (decide (p.1 = 46) || decide (p.2 = 43))) hw hI (.str _) rfl (.str _) rfl (by walk_at "sz") (fun _ _ => rfl) ?_ ?_
    · intro L acc k a b v u H hL ha hb rv rw wf hi ex Qe q
      cases rep_str rv
      cases rep_str rw
      walk_at "sx"
      refine ifB (fun h => ?_) (fun h => ?_)
      · refine q _ _ (?_ : Rep K _ _ _ _) hi (Ex.refl _)
        (try rw [dec1] at h)
        rw [h, Bool.true_or]
        exact .bl _
      · walk_at "sx"
        refine q _ _ (?_ : Rep K _ _ _ _) hi (Ex.refl _)
        (try rw [dec1] at h)
        rw [h, Bool.false_or]
        (try rw [dec1])
        exact .bl _
    · intro y H' rp ex hi
      walk_at "sx"
      exact all_M _ rp (q _ ex hi)
def spAg (K : PySem.W.Frag) : Sp := fun vs H Q _ => ∃ M I l m, Wf M I ∧ I H ∧ vs = [.str (T l), .str (T m)] ∧ l.length = m.length ∧ l.length ≤ 1000 ∧ ∀ H', Ex M H H' → I H' → Q (.bl (agB l m)) H'
def spCut (K : PySem.W.Frag) : Sp := fun vs H Q _ => ∃ (M : Addr → Prop) (I : Hp → Prop) (l : List Nat) (x : V) (d : D) (ks : List Nat), Wf M I ∧ I H ∧ vs = [.str (T l), x] ∧ Rep K M H x d ∧ (d = .lst (ks.map eI) ∨ d = .tup (ks.map eI)) ∧ ks.length ≤ 1000 ∧ l.length ≤ 1000 ∧ (∀ k ∈ ks, k < l.length) ∧ ∀ H', Ex M H H' → I H' → Q (.str (T (cutF l ks))) H'
end



def gC (l : List Nat) : Int := Txt.count (T l) (T [43])
section
variable {P : Program} {w : World} {K : PySem.W.Frag} {mg : Str → Option Value} {base : Heap}
/-- lots in order, handed back new -/
def spOrd (K : PySem.W.Frag) : Sp := fun vs H Q _ => ∃ (M : Addr → Prop) (I : Hp → Prop) (x : V) (d : D) (L : List (List Nat)), Wf M I ∧ I H ∧ vs = [x] ∧ Rep K M H x d ∧ (d = .lst (L.map eS) ∨ d = .tup (L.map eS)) ∧ L.length ≤ 1000 ∧ (∀ l ∈ L, LotS l) ∧ ∀ p H', H p = none → ¬ M p → H' p = some (.lst ((ordF gC L).map fun l => V.str (T l))) → Ex M H H' → I H' → Q (.ref p) H'
def t_ordered_lots (P : Program) (w : World) (K : PySem.W.Frag) : TS := tRet (tCKw (rSortKey K (He.ga K "lot_size") fun z => Txt.count z (T [43])) (tCons (tCB (rSortT P w) (tCons (tCB (rSetU K P w) (tCons (tVar 0) tNil)) tNil)) tNil) (tCons (tC (.ref (He.ga K "lot_size"))) tNil))
theorem w_ordered_lots (B : Bl mg) (L : At K mg "lot_size" s_lot_size ["lot"] []) {f : Addr} {cdv : Value} {A : Around} {outer : List Env} {s : Shared} {H : Hp} {E : XK} (hr : Room 3 (A.deeper (envOfC "ordered_lots" (defScope s_ordered_lots) s.heap.objs.size f cdv))) :
    PSs (cxOf (L2.CX P w) P w K mg base n_ordered_lots "ordered_lots" (defScope s_ordered_lots) f cdv A outer s H E).nox (defBody s_ordered_lots) (t_ordered_lots P w K) := by
  have nd := sc_ordered_lots.nd
  have hu := hr.units
  have hv := units5 hr
  have h1 := units1 hr
  obtain ⟨fd, F1, F2⟩ := L.ex
  have b := FunD.bindsA (ps := ["lot"]) F1 fun _ _ _ _ _ _ us hl => match us, hl with | [_], _ => rfl
  exact (pss_one (ps_ret (pe_callBK (cr_sortKey (x := "lot") (c := T [43]) (k0 := _) (p1 := _) (p2 := _) (p3 := _) (p4 := _) (p5 := _) F1 sc_lot_size rfl (by decide) rfl (hr.in1.in1) hv fun s v => b s [v] rfl) (by rfl) B.f_sorted (by decide +kernel)
    (pa_cons (pe_callB (cr_sortT rfl) (by rfl) B.f_sorted (by decide +kernel) (pa_cons (pe_callTy (cr_setU rfl) (by rfl) B.f_set (by decide +kernel) (pa_cons (pv 0) pa_nil)) pa_nil)) pa_nil) (pk_cons (pe_gref (by rfl) L.mgx) pk_nil))))
theorem sx_ckw {r : List V → List V → Hp → VK → Prop} {t tk : TA} {σ : L2.St} {H : Hp} {Q : VK} (h : t σ H fun vs H1 => tk σ H1 fun zs H2 => r vs zs H2 Q) : tCKw r t tk σ H Q := h
theorem ofT : ∀ {ys : List Str} {S : List (List Nat)}, (∀ z ∈ ys, z ∈ S.map T) → ∃ zs : List (List Nat), ys = zs.map T
  | [], _, _ => ⟨[], rfl⟩
  | y :: ys, S, h => by
    obtain ⟨zs, rfl⟩ := ofT (ys := ys) (S := S) fun z hz => h z (List.mem_cons_of_mem _ hz)
    obtain ⟨l, _, rfl⟩ := List.mem_map.mp (h y List.mem_cons_self)
    exact ⟨l :: zs, rfl⟩
theorem inT {zs : List (List Nat)} {r : List Nat} : T r ∈ zs.map T ↔ r ∈ zs := by
  rw [List.mem_map]
  exact ⟨fun ⟨a, h, e⟩ => by rw [← T_inj e]; exact h, fun h => ⟨r, h, rfl⟩⟩
theorem seq_T {M : Addr → Prop} {H : Hp} {x : V} {d : D} {S : List (List Nat)} (hx : Rep K M H x d) (hd : d = .lst (S.map eS) ∨ d = .tup (S.map eS)) : ∃ a, x = .ref a ∧ (SqL K H a ((S.map T).map V.str) ∨ SqT K H a ((S.map T).map V.str)) := by
  have key : ∀ {xs : List V} {S : List (List Nat)}, Reps K M H xs (S.map eS) → xs = (S.map T).map V.str := by
    intro xs S
    induction S generalizing xs with
    | nil => intro h; cases h; rfl
    | cons l S ih =>
      intro h
      cases h with
      | cons r1 r2 =>
        cases rep_str r1
        rw [ih r2]
        rfl
  rcases hd with rfl | rfl
  · cases hx with
    | lst h n r =>
      refine ⟨_, rfl, .inl ?_⟩
      rw [← key r]
      exact SqL.of h
  · cases hx with
    | tup h n r =>
      refine ⟨_, rfl, .inr ?_⟩
      rw [← key r]
      exact SqT.of h
theorem ok_ordered_lots (B : Bl mg) (L : At K mg "lot_size" s_lot_size ["lot"] []) (F : At K mg "ordered_lots" s_ordered_lots ["lots"] []) : Df P w K mg base 4 "ordered_lots" ["lots"] [] (spOrd K) := by
  refine F.df sc_ordered_lots (fun vs H Q E h => ?_) (fun f cdv A outer s H vs Q E hr h => ⟨_, w_ordered_lots B L hr, ?_⟩)
  · obtain ⟨M, I, x, d, L, _, _, rfl, _⟩ := h
    rfl
  · obtain ⟨M, I, x, d, S, hw, hI, rfl, hx, hd, hl, hs, q⟩ := h
    unfold t_ordered_lots
    walk_at "sx"
    obtain ⟨a, rfl, ha⟩ := seq_T hx hd
    refine sx_ckw ?_
    walk_at "sx"
    have hsb : 1001 < scanBound := by decide
    refine ⟨a, S.map T, rfl, ha, by rw [List.length_map]; omega, fun p hp => ?_⟩
    have s1 := same_upd (o := SetTO P w p (S.map T)) hp
    walk_at "sx"
    refine ⟨p, S.map T, rfl, upd_same, by rw [List.length_map]; exact hl, fun ys p2 hso hnd hme hp2 => ?_⟩
    have s2 := same_upd (o := .lst (ys.map V.str)) hp2
    have i1 := hw.same s1 hI
    have i2 := hw.same s2 i1
    obtain ⟨zs, rfl⟩ := ofT fun z hz => (hme z).mp hz
    have hm : ∀ r, r ∈ zs ↔ r ∈ S := fun r => by rw [← inT, hme, inT]
    have hn : zs.Nodup := by
      have h := hnd
      unfold List.Nodup at h ⊢
      rw [List.pairwise_map] at h
      exact h.imp fun {a b} n e => n (by rw [e])
    have hzl : zs.length ≤ 1000 := Nat.le_trans (nodup_len hn fun r h => (hm r).mp h) hl
    walk_at "sx"
    refine ⟨p2, zs.map T, rfl, rfl, SqL.of upd_same, by rw [List.length_map]; exact hzl, fun p3 hp3 => ?_⟩
    have s3 := same_upd (o := .lst (((zs.map T).mergeSort (leK fun z => Txt.count z (T [43]))).map V.str)) hp3
    have e02 : Ex M H _ := (Ex.of s1).trans (Ex.of s2)
    have i3 := hw.same s3 i2
    refine q p3 _ (e02.non hw i2 hp3) (hw.fresh i2 hp3) ?_ (e02.trans (Ex.of s3)) i3
    rw [upd_same, ms_map gC (fun z => Txt.count z (T [43])) (fun _ => rfl), ord_one hso hn hm, List.map_map]
    rfl
end


section
variable {K : PySem.W.Frag}
theorem lt_tup {M : Addr → Prop} {I : Hp → Prop} {Z : VK} {H : Hp} (hw : Wf M I) (hI : I H) (q : ∀ p H2, H2 p = some (.tup [.ty "list", .ty "tuple"]) → Ex M H H2 → I H2 → Z (.ref p) H2) : TupK Z [.ty "list", .ty "tuple"] H := by
  refine ⟨by show 2 ≤ sizeLine; decide, fun p hp => ?_⟩
  have s := same_upd (o := .tup [.ty "list", .ty "tuple"]) hp
  exact q p _ upd_same (Ex.of s) (hw.same s hI)
theorem isi_lt {M : Addr → Prop} {H : Hp} {x : V} {d : D} {p : Addr} {Q : VK} (hp : H p = some (.tup [.ty "list", .ty "tuple"])) (h : Rep K M H x d) (hs : Shows d) (q : Q (.bl (isLst d || isTup d)) H) : rIsiT K [x, .ref p] H Q := by
  obtain ⟨t, ht⟩ := hs
  have tx := tyx_of h ht
  cases ht with
  | non => exact kit_lt hp tx (b1 := false) (b2 := false) (by decide +kernel) (by decide +kernel) q
  | bl b => exact kit_lt hp tx (b1 := false) (b2 := false) (by decide +kernel) (by decide +kernel) q
  | int b => exact kit_lt hp tx (b1 := false) (b2 := false) (by decide +kernel) (by decide +kernel) q
  | str b => exact kit_lt hp tx (b1 := false) (b2 := false) (by decide +kernel) (by decide +kernel) q
  | lst b => exact kit_lt hp tx (b1 := true) (b2 := false) (by decide +kernel) (by decide +kernel) q
  | tup b => exact kit_lt hp tx (b1 := false) (b2 := true) (by decide +kernel) (by decide +kernel) q
  | dct b => exact kit_lt hp tx (b1 := false) (b2 := false) (by decide +kernel) (by decide +kernel) q
def LstM (Q : VK) : List V → Hp → Prop := LstK Q
theorem sx_lstm {a : TA} {σ : L2.St} {H : Hp} {Q : VK} (h : a σ H (LstM Q)) : tLst a σ H Q := h
def LstS (K : PySem.W.Frag) (I : Hp → Prop) (x : V) (ls : List (List Nat)) : Prop := ∃ p, x = .ref p ∧ ∀ H, I H → H p = some (.lst (ls.map fun l => V.str (T l)))
theorem LstS.inn {I : Hp → Prop} {x : V} {ls : List (List Nat)} {l : List Nat} {H : Hp} {Q : VK} (h : LstS K I x ls) (hI : I H) (q : Q (.bl (decide (l ∈ ls))) H) : rInU K (.str (T l)) x H Q := by
  obtain ⟨p, rfl, hp⟩ := h
  exact .inr (.inl ⟨p, _, rfl, .inl (SqL.of (hp H hI)), rfl, by simp [List.all_map, flatV], by rw [inV_T]; exact q⟩)
theorem LstS.nin {I : Hp → Prop} {x : V} {ls : List (List Nat)} {l : List Nat} {H : Hp} {Q : VK} (h : LstS K I x ls) (hI : I H) (q : Q (.bl (!decide (l ∈ ls))) H) : rNiU K (.str (T l)) x H Q := by
  obtain ⟨p, rfl, hp⟩ := h
  exact .inr (.inl ⟨p, _, rfl, .inl (SqL.of (hp H hI)), rfl, by simp [List.all_map, flatV], by rw [inV_T]; exact q⟩)
theorem sx_di {td ty : TE} {σ : L2.St} {H : Hp} {Q : VK} (h : ty σ H fun y H1 => td σ H1 fun x H2 => ∃ a o, x = .ref a ∧ DGet H2 a y o ∧ Q (.bl o.isSome) H2) : tDIn ty td σ H Q := h
theorem sx_dni {td ty : TE} {σ : L2.St} {H : Hp} {Q : VK} (h : ty σ H fun y H1 => td σ H1 fun x H2 => ∃ a o, x = .ref a ∧ DGet H2 a y o ∧ Q (.bl (!o.isSome)) H2) : tDNotIn ty td σ H Q := h
theorem sx_dput {td ty tv : TE} {D : Ends} {σ : L2.St} {H : Hp} (h : tv σ H fun v H1 => td σ H1 fun x H2 => ty σ H2 fun y H3 => ∃ a H4, x = .ref a ∧ DPut H3 a y v H4 ∧ D.nx σ H4) : sDPut td ty tv D σ H := h
end


section
variable {P : Program} {w : World} {K : PySem.W.Frag} {mg : Str → Option Value} {base : Heap}
def spIsName (K : PySem.W.Frag) : Sp := fun vs H Q _ => ∃ (M : Addr → Prop) (I : Hp → Prop) (t : List Nat), Wf M I ∧ I H ∧ vs = [.str (T t)] ∧ TOk t ∧ ∀ H', Ex M H H' → I H' → Q (.bl true) H'
theorem abc_mem : ∀ {c : Nat}, 97 ≤ c → c ≤ 122 → c ∈ ([97, 98, 99, 100, 101, 102, 103, 104, 105, 106, 107, 108, 109, 110, 111, 112, 113, 114, 115, 116, 117, 118, 119, 120, 121, 122] : List Nat) := by
  intro c h1 h2
  have key : ∀ d : Fin 26, 97 + d.val ∈ ([97, 98, 99, 100, 101, 102, 103, 104, 105, 106, 107, 108, 109, 110, 111, 112, 113, 114, 115, 116, 117, 118, 119, 120, 121, 122] : List Nat) := by decide
  have := key ⟨c - 97, by omega⟩
  have e : 97 + (c - 97) = c := by omega
  rw [e] at this
  exact this
theorem ok_is_name (B : Bl mg) (F : At K mg "is_name" s_is_name ["value"] []) : Df P w K mg base 1 "is_name" ["value"] [] (spIsName K) := by
  refine F.df sc_is_name (fun vs H Q E h => ?_) (fun f cdv A outer s H vs Q E hr h => ⟨_, w_is_name B hr, ?_⟩)
  · obtain ⟨M, I, t, _, _, rfl, _⟩ := h
    rfl
  · obtain ⟨M, I, t, hw, hI, rfl, ⟨h1, h2, h3⟩, q⟩ := h
    unfold t_is_name
    walk_at "sx"
    refine isi_str (.str _ : Rep K M H (.str (T t)) (.str (T t))) ⟨_, .str _⟩ ?_
    walk_at "sx"
    refine ifIsF rfl ?_
    walk_at "sx"
    refine ifIsT (decide_eq_true (by omega)) ?_
    walk_at "sx"
    refine ifIsF (by rw [decide_eq_true (by omega)]; rfl) ?_
    walk_at "sx"
    refine lc_srcM (as := t) (enc := H48.e1) (fun _ => .bl true) hw hI (.str _) rfl (szOk (by omega)) (fun _ => rfl) ?_ ?_
    · intro L acc k a v H hL ha rv wf hi ex Qe q
      cases rep_str rv
      have := h3 a (List.mem_of_getElem? ha)
      walk_at "sx"
      rw [decide_eq_true (abc_mem this.1 this.2)]
      exact q _ _ (.bl _) hi (Ex.refl _)
    · intro y H' rp ex hi
      walk_at "sx"
      refine all_M (as := t) (fun _ => true) rp ?_
      rw [show t.all (fun _ => true) = true from List.all_eq_true.mpr fun _ _ => rfl]
      exact q _ ex hi
def spIsNum : Sp := fun vs H Q _ => ∃ a l m : Int, vs = [.int a, .int l, .int m] ∧ l ≤ a ∧ a ≤ m ∧ Q (.bl true) H
theorem isi_intI {M : Addr → Prop} {H : Hp} {i : Int} {Q : VK} (q : Q (.bl true) H) : rIsi K [.int i, .ty "int"] H Q := isi_D (.int i : Rep K M H (.int i) (.int i)) (.int i) (kit_ty (b := "int") (r := true) (by decide +kernel)) q
theorem isi_intB {M : Addr → Prop} {H : Hp} {i : Int} {Q : VK} (q : Q (.bl false) H) : rIsi K [.int i, .ty "bool"] H Q := isi_D (.int i : Rep K M H (.int i) (.int i)) (.int i) (kit_ty (b := "bool") (r := false) (by decide +kernel)) q
theorem ok_is_number (B : Bl mg) (F : At K mg "is_number" s_is_number ["value", "least", "most"] []) : Df P w K mg base 1 "is_number" ["value", "least", "most"] [] spIsNum := by
  refine F.df sc_is_number (fun vs H Q E h => ?_) (fun f cdv A outer s H vs Q E hr h => ⟨_, w_is_number B hr, ?_⟩)
  · obtain ⟨a, l, m, rfl, _⟩ := h
    rfl
  · obtain ⟨a, l, m, rfl, h1, h2, q⟩ := h
    unfold t_is_number
    walk_at "sx"
    refine isi_intI (M := fun _ => False) ?_
    walk_at "sx"
    refine isi_intB (M := fun _ => False) ?_
    walk_at "sx"
    refine ifIsT (decide_eq_true h1) ?_
    walk_at "sx"
    rw [decide_eq_true h2]
    exact q
theorem nd_take {l : List (List Nat)} (h : l.Nodup) {k : Nat} {a : List Nat} (ha : l[k]? = some a) : a ∉ l.take k := fun hm => by
  obtain ⟨hk, e⟩ := List.getElem?_eq_some_iff.mp ha
  have e2 : l = l.take k ++ a :: l.drop (k + 1) := by rw [← e, List.getElem_cons_drop, List.take_append_drop]
  rw [e2] at h
  exact (List.nodup_append.mp h).2.2 a hm a List.mem_cons_self rfl
def spCheckC (K : PySem.W.Frag) : Sp := fun vs H Q _ => ∃ (M : Addr → Prop) (I : Hp → Prop) (x : V) (fr : List (List Nat × Nat)), Wf M I ∧ I H ∧ vs = [x] ∧ Rep K M H x (.lst (fr.map eC)) ∧ FrOk fr ∧ (fr.map (·.1)).Nodup ∧ 1 ≤ fr.length ∧ fr.length ≤ 12 ∧ ∀ H', Ex M H H' → I H' → Q .non H'
theorem ok_check_cells (B : Bl mg) (G1 : Df P w K mg base 1 "is_name" ["value"] [] (spIsName K)) (G2 : Df P w K mg base 1 "is_number" ["value", "least", "most"] [] spIsNum)
    (F : At K mg "check_cells" s_check_cells ["cells"] []) : Df P w K mg base 2 "check_cells" ["cells"] [] (spCheckC K) := by
  refine F.df sc_check_cells (fun vs H Q E h => ?_) (fun f cdv A outer s H vs Q E hr h => ⟨_, w_check_cells B G1 G2 hr, ?_⟩)
  · obtain ⟨M, I, x, fr, _, _, rfl, _⟩ := h
    rfl
  · obtain ⟨M, I, x, fr, hw, hI, rfl, hx, hfr, hnd, hf1, hf2, q⟩ := h
    unfold t_check_cells
    walk_at "sx"
    refine lt_tup hw hI fun p0 H1 hp0 e1 i1 => ?_
    walk_at "sx"
    refine isi_lt hp0 (hx.ex e1) ⟨_, .lst _⟩ ?_
    walk_at "sx"
    refine ifIsF rfl ?_
    walk_at "sx"
    refine len_R (hx.ex e1) (.inl rfl) ?_
    rw [List.length_map]
    walk_at "sx"
    refine ifIsT (decide_eq_true (by omega)) ?_
    walk_at "sx"
    refine ifIsF (by rw [decide_eq_true (by omega)]; rfl) ?_
    walk_at "sx"
    refine lst_mut hw i1 (by decide) fun p H2 hp np e2 w2 i2 => ?_
    walk_at "sx"
    have hx2 := ((hx.ex e1).off hp).ex e2
    refine for_enum (as := fr) (enc := eC) hx2 rfl (fun k σ H3 => ∃ u2 u3 u4 u5, σ = [some x, some (.ref p), u2, u3, u4, u5] ∧ Wf (Mq M p) (Iq I p (.lst (((fr.take k).map (·.1)).map fun l => V.str (T l)))) ∧ Iq I p (.lst (((fr.take k).map (·.1)).map fun l => V.str (T l))) H3 ∧ Ex (Mq M p) H2 H3)
      ⟨_, _, _, _, rfl, w2, i2, Ex.refl _⟩ (fun k σ H h => by obtain ⟨_, _, _, _, _, _, _, h⟩ := h; exact h) ?_ ?_
    · rintro k c v σ H3 H4 hc ⟨u2, u3, u4, u5, rfl, w3, i3, e3⟩ sm rv
      have i4 := w3.same sm i3
      have e4 := e3.trans (Ex.of sm)
      have hk := (List.getElem?_eq_some_iff.mp hc).1
      obtain ⟨hm1, hm2, ht⟩ := hfr c (List.mem_of_getElem? hc)
      walk_at "sx"
      refine isi_tup rv ⟨_, .tup _⟩ ?_
      walk_at "sx"
      refine ifIsF rfl ?_
      walk_at "sx"
      refine len_R rv (.inr rfl) ?_
      walk_at "sx"
      refine ifIsF (by simp) ?_
      walk_at "sx"
      refine gs_pair rv fun n m rn rm => ?_
      cases rep_str rn
      cases rep_int rm
      walk_at "sx"
      refine ⟨_, _, c.1, w3, i4, rfl, ht, fun H5 e5 i5 => ?_⟩
      walk_at "sx"
      refine ⟨_, 1, 4, rfl, by omega, by omega, ?_⟩
      walk_at "sx"
      refine LstS.inn (K := K) (I := Iq I p (.lst (((fr.take k).map (·.1)).map fun l => V.str (T l)))) ⟨p, rfl, fun H h => h.2⟩ i5 ?_
      have hni : c.1 ∉ (fr.take k).map (·.1) := by
        rw [List.map_take]
        exact nd_take hnd (by rw [List.getElem?_map, hc]; rfl)
      rw [decide_eq_false hni]
      walk_at "sx"
      refine ⟨tyv_l i5.2, ?_⟩
      walk_at "sx"
      refine app_mut hw np i5 (by simp; omega) fun H6 e6 w6 i6 => ?_
      have et : ((fr.take k).map (·.1)).map (fun l => V.str (T l)) ++ [V.str (T c.1)] = ((fr.take (k + 1)).map (·.1)).map fun l => V.str (T l) := by rw [take_snoc hc]; simp
      rw [et] at w6 i6
      exact ⟨_, _, _, _, rfl, w6, i6, (e4.trans e5).trans e6⟩
    · rintro σ H3 ⟨u2, u3, u4, u5, rfl, w3, i3, e3⟩
      walk_at "sx"
      exact q H3 (e1.trans ((e2.trans e3).shut hp)) i3.1
end


section
variable {P : Program} {w : World} {K : PySem.W.Frag} {mg : Str → Option Value} {base : Heap}
def spGrown (K : PySem.W.Frag) : Sp := fun vs H Q _ => ∃ (M : Addr → Prop) (I : Hp → Prop) (x : V) (S Y : List (List Nat)) (n : Nat), Wf M I ∧ I H ∧ vs = [x, .str (T (List.replicate n 46)), .int 800] ∧ Rep K M H x (.lst (S.map eS)) ∧ n ≤ 1000 ∧ S.length ≤ 1000 ∧ (∀ s ∈ S, s.length = n) ∧ RowsOf S n Y ∧
  ∀ p (F : List (List Nat)) H', H p = none → ¬ M p → H' p = some (.lst (F.map fun l => V.str (T l))) → F.Perm Y → Ex M H H' → I H' → Q (.ref p) H'
theorem ok_grown_rows (B : Bl mg) (G : Df P w K mg base 1 "over" ["newer", "older"] [] (spLay K)) (F : At K mg "grown_rows" s_grown_rows ["seeds", "first", "most"] []) : Df P w K mg base 2 "grown_rows" ["seeds", "first", "most"] [] (spGrown K) := by
  refine F.df sc_grown_rows (fun vs H Q E h => ?_) (fun f cdv A outer s H vs Q E hr h => ⟨_, w_grown_rows B G hr, ?_⟩)
  · obtain ⟨M, I, x, S, Y, n, _, _, rfl, _⟩ := h
    rfl
  · obtain ⟨M, I, x, S, Y, n, hw, hI, rfl, hx, hn, hSl, hS, hY, q⟩ := h
    unfold t_grown_rows
    refine sx_seq ?_
    with_reducible refine sx_asg ?_
    refine sx_lstm ?_
    walk_at "sx"
    refine lst_mut (xs := [.str (T (List.replicate n 46))]) hw hI (show 1 ≤ sizeLine by decide) fun p H1 hp np e1 w1 i1 => ?_
    refine gs_name ?_
    with_reducible refine sx_seq ?_
    with_reducible refine sx_asg ?_
    intro q0 hq0
    have nq : ¬ Mq M p q0 := w1.fresh i1 hq0
    have nqp : q0 ≠ p := fun e => nq (e ▸ .inr rfl)
    show tVar 1 _ _ _
    walk_at "sx"
    refine ⟨upd_same, [keyT (List.replicate n 46)], rfl, by simp, ?_⟩
    have hmk : mergeK [] [keyT (List.replicate n 46)] = [List.replicate n 46].map keyT := rfl
    rw [hmk]
    have hu : upd (upd H1 q0 (.dK [])) q0 (.dK ([List.replicate n 46].map keyT)) = upd H1 q0 (.dK ([List.replicate n 46].map keyT)) := by
      funext a
      by_cases h : a = q0
      · rw [h, upd_same, upd_same]
      · rw [upd_ne h, upd_ne h, upd_ne h]
    rw [hu]
    have e2 : Ex (Mq (Mq M p) q0) H1 (upd H1 q0 (.dK ([List.replicate n 46].map keyT))) := Ex.of (same_upd hq0)
    have i2 : Iq (Iq I p (.lst ([List.replicate n 46].map fun l => V.str (T l)))) q0 (.dK ([List.replicate n 46].map keyT)) (upd H1 q0 (.dK ([List.replicate n 46].map keyT))) := ⟨w1.same (same_upd hq0) i1, upd_same⟩
    generalize upd H1 q0 (.dK ([List.replicate n 46].map keyT)) = H2 at e2 i2
    have hx2 : Rep K (Mq (Mq M p) q0) H2 x (.lst (S.map eS)) := (((hx.off hp).ex e1).off hq0).ex e2
    clear w1
    refine gs_name ?_
    walk_at "sx"
    have hbound : ∀ {F : List (List Nat)}, F.Nodup → (∀ r ∈ F, Cl S n r) → F.length ≤ 40 := fun {F} nd hc => Nat.le_trans (nodup_len nd fun r hr => (hY.mem r).mpr (hc r hr)) hY.len
    let W : Nat → L2.St → Hp → Prop := fun m σ H => ∃ (F : List (List Nat)) (k : Nat) (u6 u7 : Option V), m = 41 - k ∧ k ≤ F.length ∧ σ = [some x, some (.str (T (List.replicate n 46))), some (.int 800), some (.ref p), some (.ref q0), some (.int (k : Nat)), u6, u7] ∧ Iq (Iq I p (.lst (F.map fun l => V.str (T l)))) q0 (.dK (F.map keyT)) H ∧ Ex (Mq (Mq M p) q0) H2 H ∧
        F.Nodup ∧ List.replicate n 46 ∈ F ∧ (∀ r ∈ F, Cl S n r) ∧ ∀ i r, i < k → F[i]? = some r → ∀ s ∈ S, lay s r ∈ F
    have fin : ∀ (F : List (List Nat)) (u6 u7 : Option V) (H4 : Hp), True → Iq (Iq I p (.lst (F.map fun l => V.str (T l)))) q0 (.dK (F.map keyT)) H4 → Ex (Mq (Mq M p) q0) H2 H4 → F.Nodup → List.replicate n 46 ∈ F → (∀ r ∈ F, Cl S n r) → (∀ i r, i < F.length → F[i]? = some r → ∀ s ∈ S, lay s r ∈ F) → Q (.ref p) H4 := by
      intro F u6 u7 H4 _ i4 e4 nd h0 hcl hdone
      have hmem : ∀ r, r ∈ F ↔ Cl S n r := fun r => by
        refine ⟨hcl r, cl_in h0 (fun r hr s hs => ?_) r⟩
        obtain ⟨i, hi⟩ := List.getElem?_of_mem hr
        have := (List.getElem?_eq_some_iff.mp hi).1
        exact hdone i r (by omega) hi s hs
      have hperm : F.Perm Y := (List.perm_ext_iff_of_nodup nd hY.nd).mpr fun r => by rw [hmem, hY.mem]
      exact q p F H4 hp np i4.1.2 hperm ((e1.trans ((e2.trans e4).shut hq0)).shut hp) i4.1.1
    refine ⟨W, ⟨_, [List.replicate n 46], 0, _, _, rfl, by simp, rfl, i2, Ex.refl _, by simp, by simp, fun r hr => by rw [List.mem_singleton.mp hr]; exact .base, fun i r h => by omega⟩, ?_⟩
    rintro m σ H3 ⟨F, k, u6, u7, rfl, hk, rfl, i3, e3, nd, h0, hcl, hdone⟩
    have hFl := hbound nd hcl
    walk_at "sx"
    refine len_raw i3.1.2 ?_
    rw [List.length_map]
    walk_at "sx"
    refine ifB (fun h => ?_) (fun h => ?_)
    · have hkF : k < F.length := by have := of_decide_eq_true h; omega
      walk_at "sx"
      refine len_raw i3.1.2 ?_
      rw [List.length_map]
      walk_at "sx"
      refine ifIsT (decide_eq_true (by omega)) ?_
      refine ⟨fun σ' H' => ∃ m', m' < 41 - k ∧ W m' σ' H', fun _ _ h => h, ?_⟩
      have hcr : Cl S n F[k] := hcl _ (List.getElem_mem hkF)
      have hFk := hcr.len hS
      walk_at "sx"
      refine for_src (K := K) (M := Mq (Mq M p) q0) (as := S) (enc := eS) (hx2.ex e3) rfl (fun j σ H => ∃ (G : List (List Nat)) (u6 u7 : Option V), σ = [some x, some (.str (T (List.replicate n 46))), some (.int 800), some (.ref p), some (.ref q0), some (.int (k : Nat)), u6, u7] ∧ Iq (Iq I p (.lst ((F ++ G).map fun l => V.str (T l)))) q0 (.dK ((F ++ G).map keyT)) H ∧ Ex (Mq (Mq M p) q0) H3 H ∧
          (F ++ G).Nodup ∧ (∀ r ∈ G, Cl S n r) ∧ ∀ s ∈ S.take j, lay s F[k] ∈ F ++ G)
        ⟨[], _, _, rfl, by rw [List.append_nil]; exact i3, Ex.refl _, by rw [List.append_nil]; exact nd, all_nil, fun s h => by simp at h⟩ (fun k σ H h => by obtain ⟨_, _, _, _, _, h, _⟩ := h; exact h) ?_ ?_
      · rintro j s v σ H5 ha ⟨G, u6, u7, rfl, i5, e5, nd5, hc5, hd5⟩ rv
        cases rep_str rv
        have hsS := List.mem_of_getElem? ha
        have hsl := hS s hsS
        have hbd := hbound nd5 fun r hr => by
          rcases List.mem_append.mp hr with z | z
          · exact hcl r z
          · exact hc5 r z
        have hw5 := (hw.add p (.lst ((F ++ G).map fun l => V.str (T l)))).add q0 (.dK ((F ++ G).map keyT))
        walk_at "sx"
        refine ix_raw (v := .str (T F[k])) i5.1.2 ?_ ?_
        · have hkG : k < (F ++ G).length := by rw [List.length_append]; omega
          unfold atI
          rw [show ixN ((F ++ G).map fun l => V.str (T l)).length ((k : Nat) : Int) = some k by unfold ixN; rw [if_pos (by omega), if_pos (by rw [List.length_map]; omega)]; simp]
          rw [Option.bind_some, List.getElem?_map, List.getElem?_append_left hkF, List.getElem?_eq_getElem hkF]
          rfl
        walk_at "sx"
        refine ⟨_, _, s, F[k], hw5, i5, rfl, by omega, fun H6 e6 i6 => ?_⟩
        have e56 := e5.trans e6
        walk_at "sx"
        with_reducible refine sx_dni ?_
        walk_at "sx"
        refine ⟨_, _, rfl, DGet.k (k := .inr (T (lay s F[k]))) i6.2, ?_⟩
        rw [valV_key]
        walk_at "sx"
        refine ifB (fun h => ?_) (fun h => ?_)
        · have hnin : lay s F[k] ∉ F ++ G := by simpa using h
          with_reducible refine sx_seq ?_
          with_reducible refine sx_dput ?_
          walk_at "sx"
          refine ⟨_, _, rfl, DPut.k (k := .inr (T (lay s F[k]))) i6.2 (by rw [List.length_map]; exact Nat.lt_of_lt_of_le (show (F ++ G).length < 100000 by omega) (by decide)), ?_⟩
          rw [putK_key hnin]
          have i7 : Iq (Iq I p (.lst ((F ++ G).map fun l => V.str (T l)))) q0 (.dK ((F ++ G ++ [lay s F[k]]).map keyT)) (upd H6 q0 (.dK ((F ++ G ++ [lay s F[k]]).map keyT))) := ((hw.add p _).put nq i6).1
          have e7 : Ex (Mq (Mq M p) q0) H6 (upd H6 q0 (.dK ((F ++ G ++ [lay s F[k]]).map keyT))) := fun a o n h => by rw [upd_ne fun z => n (.inr z)]; exact h
          generalize upd H6 q0 (.dK ((F ++ G ++ [lay s F[k]]).map keyT)) = H7 at i7 e7
          walk_at "sx"
          refine ⟨tyv_l i7.1.2, ?_⟩
          walk_at "sx"
          refine ⟨p, _, .str (T (lay s F[k])), rfl, rfl, i7.1.2, Nat.lt_of_lt_of_le (show ((F ++ G).map fun l => V.str (T l)).length < 100000 by rw [List.length_map]; omega) (by decide), ?_⟩
          rw [map_snocS]
          have i8 : Iq (Iq I p (.lst ((F ++ G ++ [lay s F[k]]).map fun l => V.str (T l)))) q0 (.dK ((F ++ G ++ [lay s F[k]]).map keyT)) (upd H7 p (.lst ((F ++ G ++ [lay s F[k]]).map fun l => V.str (T l)))) := by
            obtain ⟨u1, u2⟩ := hw.put (o' := .lst ((F ++ G ++ [lay s F[k]]).map fun l => V.str (T l))) np i7.1
            exact ⟨u1, by rw [upd_ne nqp]; exact i7.2⟩
          have e8 : Ex (Mq (Mq M p) q0) H7 (upd H7 p (.lst ((F ++ G ++ [lay s F[k]]).map fun l => V.str (T l)))) := fun a o n h => by rw [upd_ne fun z => n (.inl (.inr z))]; exact h
          generalize upd H7 p (.lst ((F ++ G ++ [lay s F[k]]).map fun l => V.str (T l))) = H8 at i8 e8
          refine ⟨G ++ [lay s F[k]], _, _, rfl, by rw [← List.append_assoc]; exact i8, (e56.trans e7).trans e8, ?_, ?_, ?_⟩
          · rw [← List.append_assoc]
            exact List.nodup_append.mpr ⟨nd5, by simp, fun a ha b hb => by rw [List.mem_singleton.mp hb]; exact fun e => hnin (e ▸ ha)⟩
          · intro r hr
            rcases List.mem_append.mp hr with z | z
            · exact hc5 r z
            · rw [List.mem_singleton.mp z]; exact .step hsS hcr
          · intro s2 h2
            rw [take_snoc ha] at h2
            rcases List.mem_append.mp h2 with z | z
            · rw [← List.append_assoc]
              exact List.mem_append.mpr (.inl (hd5 s2 z))
            · rw [List.mem_singleton.mp z, ← List.append_assoc]
              exact List.mem_append.mpr (.inr List.mem_cons_self)
        · have hin : lay s F[k] ∈ F ++ G := by
            have h : (!decide (lay s F[k] ∈ F ++ G)) = false := h
            rw [Bool.not_eq_false'] at h
            exact of_decide_eq_true h
          refine sx_next ?_
          refine ⟨G, _, _, rfl, i6, e56, nd5, hc5, fun s2 h2 => ?_⟩
          rw [take_snoc ha] at h2
          rcases List.mem_append.mp h2 with z | z
          · exact hd5 s2 z
          · rw [List.mem_singleton.mp z]; exact hin
      · rintro σ H5 ⟨G, u6, u7, rfl, i5, e5, nd5, hc5, hd5⟩
        rw [List.take_length] at hd5
        walk_at "sx"
        have ek : ((k : Nat) : Int) + 1 = ((k + 1 : Nat) : Int) := by omega
        rw [ek]
        refine ⟨41 - (k + 1), by omega, F ++ G, k + 1, _, _, rfl, by rw [List.length_append]; omega, rfl, i5, e3.trans e5, nd5, List.mem_append.mpr (.inl h0), fun r hr => ?_, fun i r hi hr s hs => ?_⟩
        · rcases List.mem_append.mp hr with z | z
          · exact hcl r z
          · exact hc5 r z
        · by_cases hik : i < k
          · have hiF : i < F.length := by omega
            have : F[i]? = some r := by rw [List.getElem?_append_left hiF] at hr; exact hr
            exact List.mem_append.mpr (.inl (hdone i r hik this s hs))
          · have e : i = k := by omega
            subst e
            have : r = F[i] := by
              rw [List.getElem?_append_left hkF] at hr
              simp [hkF] at hr
              exact hr.symm
            rw [this]
            exact hd5 s hs
    · have hkF : k = F.length := by have := of_decide_eq_false h; omega
      refine ifF ?_
      walk_at "sx"
      refine fin F u6 u7 H3 trivial i3 e3 nd h0 hcl fun i r hi => hdone i r (by omega)
end


section
variable {P : Program} {w : World} {K : PySem.W.Frag} {mg : Str → Option Value} {base : Heap}
def spCheckS (K : PySem.W.Frag) : Sp := fun vs H Q _ => ∃ (M : Addr → Prop) (I : Hp → Prop) (x y : V) (fr : List (List Nat × Nat)) (S : List (List Nat)), Wf M I ∧ I H ∧ vs = [x, y] ∧ Rep K M H x (.lst (fr.map eC)) ∧ fr.length ≤ 12 ∧ Rep K M H y (.lst (S.map eS)) ∧ S.length ≤ 30 ∧ GoodS fr S ∧ ∀ H', Ex M H H' → I H' → Q .non H'
theorem ok_check_seeds (B : Bl mg) (G1 : Df P w K mg base 1 "blank" ["many"] [] (spBlank K)) (G2 : Df P w K mg base 1 "is_row" ["cells", "value"] [] (spIsRowD K))
    (F : At K mg "check_seeds" s_check_seeds ["cells", "seeds"] []) : Df P w K mg base 2 "check_seeds" ["cells", "seeds"] [] (spCheckS K) := by
  refine F.df sc_check_seeds (fun vs H Q E h => ?_) (fun f cdv A outer s H vs Q E hr h => ⟨_, w_check_seeds B G1 G2 hr, ?_⟩)
  · obtain ⟨M, I, x, y, fr, S, _, _, rfl, _⟩ := h
    rfl
  · obtain ⟨M, I, x, y, fr, S, hw, hI, rfl, hx, hf, hy, hSl, hS, q⟩ := h
    unfold t_check_seeds
    walk_at "sx"
    refine lt_tup hw hI fun p0 H1 hp0 e1 i1 => ?_
    walk_at "sx"
    refine isi_lt hp0 (hy.ex e1) ⟨_, .lst _⟩ ?_
    walk_at "sx"
    refine ifIsF rfl ?_
    walk_at "sx"
    refine len_R (hy.ex e1) (.inl rfl) ?_
    rw [List.length_map]
    walk_at "sx"
    refine ifIsF (decide_eq_false (by omega)) ?_
    walk_at "sx"
    refine for_enum (as := S) (enc := eS) (hy.ex e1) rfl (fun k σ H3 => ∃ u2 u3, σ = [some x, some y, u2, u3, none] ∧ I H3 ∧ Ex M H1 H3)
      ⟨_, _, rfl, i1, Ex.refl _⟩ (fun k σ H h => by obtain ⟨_, _, _, _, h⟩ := h; exact h) ?_ ?_
    · rintro k s v σ H3 H4 hs ⟨u2, u3, rfl, i3, e3⟩ sm rv
      cases rep_str rv
      have i4 := hw.same sm i3
      have e4 : Ex M H1 H4 := e3.trans (Ex.of sm)
      have e04 := e1.trans e4
      have hsS := List.mem_of_getElem? hs
      obtain ⟨hrow, j, c, hj1, hj2⟩ := hS.rw s hsS
      have hsl := isRow_len hrow
      walk_at "sx"
      refine ⟨M, I, x, .str (T s), fr, .str (T s), hw, i4, rfl, .ofL (hx.ex e04), .str _, ⟨_, .str _⟩, fun l e => by cases (T_inj (by injection e) : s = l); omega, by omega, fun H5 e5 i5 => ?_⟩
      rw [show isRowD fr (.str (T s)) = true from hrow]
      walk_at "sx"
      refine len_R ((hx.ex e04).ex e5) (.inl rfl) ?_
      rw [List.length_map]
      walk_at "sx"
      refine ⟨fr.length, rfl, by omega, ?_⟩
      walk_at "sx"
      refine ifIsF (decide_eq_false fun e => ?_) ?_
      · rw [e] at hj1
        exact hj2 (List.eq_of_mem_replicate (List.mem_of_getElem? hj1))
      walk_at "sx"
      refine sl_Lto hw i5 ((hy.ex e04).ex e5) fun v6 H6 e6 i6 r6 => ?_
      rw [← List.map_take] at r6
      refine in_L (ls := S.take k) r6 (.inl rfl) ?_
      rw [decide_eq_false (nd_take hS.nd hs)]
      walk_at "sx"
      exact ⟨_, _, rfl, i6, (e4.trans e5).trans e6⟩
    · rintro σ H3 ⟨u2, u3, rfl, i3, e3⟩
      have e03 := e1.trans e3
      walk_at "sx"
      refine for_enum (as := fr) (enc := eC) (hx.ex e03) rfl (fun k σ H4 => ∃ u2 u3 u4, σ = [some x, some y, u2, u3, u4] ∧ I H4 ∧ Ex M H3 H4)
        ⟨_, _, _, rfl, i3, Ex.refl _⟩ (fun k σ H h => by obtain ⟨_, _, _, _, _, h⟩ := h; exact h) ?_ ?_
      · rintro k c v σ H4 H5 hc ⟨u2, u3, u4, rfl, i4, e4⟩ sm rv
        have i5 := hw.same sm i4
        have e5 : Ex M H3 H5 := e4.trans (Ex.of sm)
        have hk := (List.getElem?_eq_some_iff.mp hc).1
        walk_at "sx"
        refine lc_srcM (as := S) (enc := eS) (fun s => .bl (decide (s.getD k 46 = 46))) hw i5 ((hy.ex e03).ex e5) rfl (szOk (by omega)) (fun _ => rfl) ?_ ?_
        · intro L acc k2 s v H6 hL ha rv wf hi ex Qe qe
          cases rep_str rv
          have hsl := isRow_len (hS.rw s (List.mem_of_getElem? ha)).1
          walk_at "sx"
          refine ix_T (z := s.getD k 46) (by walk_at "sz") (by simp [List.getD_eq_getElem?_getD, show k < s.length by omega]) ?_
          walk_at "sx"
          (try rw [dec1])
          exact qe _ _ (.bl _) hi (Ex.refl _)
        · intro y7 H7 r7 e7 i7
          walk_at "sx"
          refine all_M (as := S) (fun s => decide (s.getD k 46 = 46)) r7 ?_
          have hno : S.all (fun s => decide (s.getD k 46 = 46)) = false := by
            obtain ⟨s, hs, c, h1, h2⟩ := hS.all k hk
            rw [List.all_eq_false]
            refine ⟨s, hs, ?_⟩
            rw [List.getD_eq_getElem?_getD, h1]
            simpa using h2
          rw [hno]
          walk_at "sx"
          exact ⟨_, _, _, rfl, i7, e5.trans e7⟩
      · rintro σ H4 ⟨u2, u3, u4, rfl, i4, e4⟩
        walk_at "sx"
        exact q H4 (e03.trans e4) i4
/-- the fields of a band -/
def bandD (fr : List (List Nat × Nat)) (S Y R : List (List Nat)) : List (Str × D) := [("cell_list", .lst (fr.map eC)), ("seed_list", .lst (S.map eS)), ("row_list", .lst (Y.map eS)), ("known_rows", .dct (R.map fun r => ((.inr (T r) : Key), D.bl true))), ("lot_list", .lst ((ordF gC (Y.map lot)).map eS))]
def Flds (K : PySem.W.Frag) (M : Addr → Prop) (H : Hp) (fs : List (Str × V)) (ds : List (Str × D)) : Prop := (∀ f d, ds.lookup f = some d → ∃ u, fs.lookup f = some u ∧ Rep K M H u d) ∧ ∀ f, ds.lookup f = none → fs.lookup f = none
theorem flds_nil {M : Addr → Prop} {H : Hp} : Flds K M H [] [] := ⟨fun f d h => (nomatch h), fun f _ => rfl⟩
theorem flds_put {M : Addr → Prop} {H : Hp} {fs : List (Str × V)} {ds : List (Str × D)} {f : Str} {u : V} {d : D} (h : Flds K M H fs ds) (r : Rep K M H u d) (hn : ds.lookup f = none) : Flds K M H (putF f u fs) (ds ++ [(f, d)]) := by
  have key : ∀ (l : List (Str × D)) (g : Str), (l ++ [(f, d)]).lookup g = (match l.lookup g with | some x => some x | none => if g = f then some d else none) := by
    intro l g
    induction l with
    | nil =>
      show List.lookup g [(f, d)] = _
      by_cases e : g = f
      · subst e; simp [List.lookup]
      · have : (g == f) = false := by simpa using e
        simp [List.lookup, this, e]
    | cons a l ih =>
      obtain ⟨a1, a2⟩ := a
      by_cases e : g = a1
      · subst e; simp [List.lookup]
      · have : (g == a1) = false := by simpa using e
        simp only [List.cons_append, List.lookup, this]
        exact ih
  refine ⟨fun g e hg => ?_, fun g hg => ?_⟩
  · rw [key] at hg
    rw [lookup_putF]
    by_cases hgf : g = f
    · subst hgf
      rw [hn] at hg
      simp at hg
      subst hg
      exact ⟨u, by simp, r⟩
    · cases hl : ds.lookup g with
      | none =>
        rw [hl] at hg
        simp [hgf] at hg
      | some x =>
        rw [hl] at hg
        cases hg
        rw [if_neg hgf]
        exact h.1 g _ hl
  · rw [key] at hg
    rw [lookup_putF]
    by_cases hgf : g = f
    · subst hgf
      rw [hn] at hg
      simp at hg
    · cases hl : ds.lookup g with
      | none =>
        rw [if_neg hgf]
        exact h.2 g hl
      | some x =>
        rw [hl] at hg
        cases hg
theorem Flds.ex {M : Addr → Prop} {H H' : Hp} {fs : List (Str × V)} {ds : List (Str × D)} (e : Ex M H H') (h : Flds K M H fs ds) : Flds K M H' fs ds := ⟨fun f d hf => by obtain ⟨u, l, r⟩ := h.1 f d hf; exact ⟨u, l, r.ex e⟩, h.2⟩
end


section
variable {P : Program} {w : World} {K : PySem.W.Frag} {mg : Str → Option Value} {base : Heap}
def spInit (K : PySem.W.Frag) : Sp := fun vs H Q _ => ∃ (M : Addr → Prop) (I : Hp → Prop) (a dx : Addr) (cv sv : V) (fr : List (List Nat × Nat)) (S Y : List (List Nat)), Wf M I ∧ ¬ M a ∧ Iq I a (.ins (He.ga K "Band") dx []) H ∧ vs = [.ref a, cv, sv, .int 800] ∧ Rep K (Mq M a) H cv (.lst (fr.map eC)) ∧ FrOk fr ∧ (fr.map (·.1)).Nodup ∧ 1 ≤ fr.length ∧ fr.length ≤ 12 ∧
  Rep K (Mq M a) H sv (.lst (S.map eS)) ∧ S.length ≤ 30 ∧ GoodS fr S ∧ RowsOf S fr.length Y ∧ ∀ fs R H', R.Perm Y → Flds K (Mq M a) H' fs (bandD fr S Y R) → Ex (Mq M a) H H' → Iq I a (.ins (He.ga K "Band") dx fs) H' → Q .non H'
theorem lput {n : Nat} {f : Str} {y : V} {fs : List (Str × V)} (h : fs.length ≤ n) : (putF f y fs).length ≤ n + 1 := by
  have := length_putF f y fs; omega
theorem ord_rep {M : Addr → Prop} {H : Hp} {p : Addr} {S : List (List Nat)} (np : ¬ M p) (h : H p = some (.lst (S.map fun l => V.str (T l)))) : Rep K M H (.ref p) (.lst (S.map eS)) := .lst h np (reps_S S)
theorem sorted_is {F Y : List (List Nat)} {S : List (List Nat)} {n : Nat} {ys : List Str} (hY : RowsOf S n Y) (hp : F.Perm Y) (h1 : ys.Perm (F.map T)) (h2 : sortedS ys = true) : ys = Y.map T := by
  have eY : ∃ Z : List (List Nat), ys = Z.map T ∧ Z.Perm F := by
    refine ⟨ys.map fun z => z.cps.toList, ?_, ?_⟩
    · rw [List.map_map]
      conv => lhs; rw [← List.map_id ys]
      refine List.map_congr_left fun z hz => ?_
      obtain ⟨l, _, rfl⟩ := List.mem_map.mp (h1.mem_iff.mp hz)
      rfl
    · have := h1.map fun z => z.cps.toList
      rw [List.map_map] at this
      have e : (F.map ((fun z : Str => z.cps.toList) ∘ T)) = F := by
        conv => rhs; rw [← List.map_id F]
        rfl
      rw [e] at this
      exact this
  obtain ⟨Z, rfl, hZ⟩ := eY
  rw [sort_one h2 hY.so (hZ.nodup_iff.mpr (hp.nodup_iff.mpr hY.nd)) hY.nd fun r => by rw [hZ.mem_iff, hp.mem_iff]]
theorem ok_init (B : Bl mg) (CB : ClsF K "Band" fl_Band) (G1 : Df P w K mg base 1 "blank" ["many"] [] (spBlank K)) (G2 : Df P w K mg base 2 "check_cells" ["cells"] [] (spCheckC K)) (G3 : Df P w K mg base 2 "check_seeds" ["cells", "seeds"] [] (spCheckS K)) (G4 : Df P w K mg base 2 "grown_rows" ["seeds", "first", "most"] [] (spGrown K)) (G5 : Df P w K mg base 1 "is_number" ["value", "least", "most"] [] spIsNum) (G6 : Df P w K mg base 1 "lot_of" ["row"] [] (spLot K)) (G7 : Df P w K mg base 4 "ordered_lots" ["lots"] [] (spOrd K))
    (F : AtI K mg "Band" "Band.__init__" s_Band___init__ ["self", "cells", "seeds", "most"] [.int 800]) : DfI P w K mg base 5 "Band" ["self", "cells", "seeds", "most"] [.int 800] (spInit K) := by
  refine F.df sc_Band___init__ (fun vs H Q E h => ?_) (fun f cdv A outer s H vs Q E hr h => ⟨_, w_Band___init__ B CB G1 G2 G3 G4 G5 G6 G7 hr, ?_⟩)
  · obtain ⟨M, I, a, dx, cv, sv, fr, S, Y, _, _, _, rfl, _⟩ := h
    rfl
  · obtain ⟨M, I, a, dx, cv, sv, fr, S, Y, hw, na, i0, rfl, hc, hfr, hnd, hf1, hf2, hs, hSl, hS, hY, q⟩ := h
    have hWf : ∀ fs, Wf (Mq M a) (Iq I a (.ins (He.ga K "Band") dx fs)) := fun fs => hw.add a _
    have lnS : ∀ s ∈ S, s.length = fr.length := fun s h => isRow_len (hS.rw s h).1
    unfold t_Band___init__
    walk_at "sx"
    refine ⟨_, _, cv, fr, hWf [], i0, rfl, hc, hfr, hnd, hf1, hf2, fun H1 e1 i1 => ?_⟩
    walk_at "sx"
    refine ⟨_, _, cv, sv, fr, S, hWf [], i1, rfl, hc.ex e1, hf2, hs.ex e1, hSl, hS, fun H2 e2 i2 => ?_⟩
    walk_at "sx"
    refine ⟨800, 1, 800, rfl, by omega, by omega, ?_⟩
    walk_at "sx"
    have e02 := e1.trans e2
    refine len_R (hc.ex e02) (.inl rfl) ?_
    rw [List.length_map]
    walk_at "sx"
    refine ⟨fr.length, rfl, by omega, ?_⟩
    walk_at "sx"
    refine ⟨_, _, sv, S, Y, fr.length, hWf [], i2, rfl, hs.ex e02, by omega, by omega, lnS, hY, fun p R H3 _ np hp hperm e3 i3 => ?_⟩
    have rp : Rep K (Mq M a) H3 (.ref p) (.lst (R.map eS)) := ord_rep np hp
    have hRl : R.length ≤ 40 := by rw [hperm.length_eq]; exact hY.len
    have hRn : R.Nodup := hperm.nodup_iff.mpr hY.nd
    have hRrow : ∀ r ∈ R, r.length = fr.length := fun r hr => ((hY.mem r).mp (hperm.mem_iff.mp hr)).len lnS
    have e03 := e02.trans e3
    walk_at "sx"
    refine len_R rp (.inl rfl) ?_
    rw [List.length_map]
    walk_at "sx"
    refine ifIsF (decide_eq_false (by omega)) ?_
    walk_at "sx"
    with_reducible refine sx_sfld ?_
    walk_at "sx"
    refine list_R (hWf []) i3 (hc.ex e03) (.inl rfl) fun v4 H4 e4 i4 r4 => ?_
    walk_at "sx"
    refine set_fld hw na i4 CB (by decide) (by decide) fun H5 e5 i5 => ?_
    have f5 := flds_put (f := "cell_list") (flds_nil (K := K) (M := Mq M a) (H := H5)) (r4.ex e5) rfl
    have e35 := e4.trans e5
    walk_at "sx"
    with_reducible refine sx_sfld ?_
    walk_at "sx"
    refine list_R (hWf _) i5 (hs.ex (e03.trans e35)) (.inl rfl) fun v6 H6 e6 i6 r6 => ?_
    walk_at "sx"
    refine set_fld hw na i6 CB (by decide) (Nat.lt_of_le_of_lt (lput (Nat.le_refl 0)) (by decide)) fun H7 e7 i7 => ?_
    have e57 := e6.trans e7
    have f7 := flds_put (f := "seed_list") (f5.ex e57) (r6.ex e7) rfl
    have e37 := e35.trans e57
    walk_at "sx"
    with_reducible refine sx_sfld ?_
    walk_at "sx"
    refine ⟨p, R.map T, rfl, by rw [List.map_map]; exact SqL.of ((e37 p _ np hp)), by rw [List.length_map]; omega, fun ys p8 hys hso hp8 => ?_⟩
    have eys := sorted_is hY hperm hys hso
    subst eys
    have s8 := same_upd (o := .lst ((Y.map T).map V.str)) hp8
    have i8 := (hWf _).same s8 i7
    have np8 := (hWf _).fresh i7 hp8
    have e8 := Ex.of (M := Mq M a) s8
    have r8 : Rep K (Mq M a) (upd H7 p8 (.lst ((Y.map T).map V.str))) (.ref p8) (.lst (Y.map eS)) := by
      refine .lst upd_same np8 ?_
      rw [List.map_map]
      exact reps_S Y
    generalize upd H7 p8 (.lst ((Y.map T).map V.str)) = H8 at i8 e8 r8
    walk_at "sx"
    refine set_fld hw na i8 CB (by decide) (Nat.lt_of_le_of_lt (lput (lput (Nat.le_refl 0))) (by decide)) fun H9 e9 i9 => ?_
    have e79 := e8.trans e9
    have f9 := flds_put (f := "row_list") (f7.ex e79) (r8.ex e9) rfl
    have e39 := e37.trans e79
    walk_at "sx"
    with_reducible refine sx_sfld ?_
    with_reducible refine sx_dc ?_
    walk_at "sx"
    refine dc_true (F := R) (hWf _) i9 (rp.ex e39) rfl hRn (by omega) (fun _ => rfl) (fun _ => rfl) fun D H10 hD nD hDd e10 i10 => ?_
    walk_at "sx"
    have r10 : Rep K (Mq M a) H10 (.ref D) (.dct (R.map fun r => ((.inr (T r) : Key), Nt.D.bl true))) := by
      refine .dct hDd nD (by rw [List.map_map, List.map_map]; rfl) ?_
      rw [List.map_map, List.map_map]
      exact Reps.scal (f := fun _ => V.bl true) (g := fun _ => Nt.D.bl true) (fun _ => .bl _) R
    refine set_fld hw na i10 CB (by decide) (Nat.lt_of_le_of_lt (lput (lput (lput (Nat.le_refl 0)))) (by decide)) fun H11 e11 i11 => ?_
    have e9B := e10.trans e11
    have f11 := flds_put (f := "known_rows") (f9.ex e9B) (r10.ex e11) rfl
    have e3B := e39.trans e9B
    walk_at "sx"
    with_reducible refine sx_sfld ?_
    walk_at "sx"
    refine lc_srcM (as := R) (enc := eS) (fun r => eS (lot r)) (hWf _) i11 (rp.ex e3B) rfl (szOk (by omega)) (fun _ => rfl) ?_ ?_
    · intro L acc k r v H hL ha rv wf hi ex Qe qe
      cases rep_str rv
      have := hRrow r (List.mem_of_getElem? ha)
      walk_at "sx"
      refine ⟨_, _, r, wf, hi, rfl, by omega, fun H' e' i' => ?_⟩
      exact qe _ _ (.str _) i' e'
    intro y12 H12 r12 e12 i12
    have h12 : (R.map fun r => eS (lot r)) = (R.map lot).map eS := by rw [List.map_map]; rfl
    rw [h12] at r12
    walk_at "sx"
    refine ⟨_, _, y12, _, R.map lot, hWf _, i12, rfl, r12, .inl rfl, by rw [List.length_map]; omega, fun l hl => by obtain ⟨r, _, rfl⟩ := List.mem_map.mp hl; exact lotS_lot r, fun p13 H13 _ np13 hp13 e13 i13 => ?_⟩
    have r13 : Rep K (Mq M a) H13 (.ref p13) (.lst ((ordF gC (R.map lot)).map eS)) := ord_rep np13 hp13
    rw [show ordF gC (R.map lot) = ordF gC (Y.map lot) from sort_two (ordF_pw _ _) (ordF_pw _ _) (ordF_nd _ _) (ordF_nd _ _) fun r => by
      rw [ordF_mem, ordF_mem]
      exact (hperm.map lot).mem_iff] at r13
    walk_at "sx"
    refine set_fld hw na i13 CB (by decide) (Nat.lt_of_le_of_lt (lput (lput (lput (lput (Nat.le_refl 0))))) (by decide)) fun H14 e14 i14 => ?_
    have eBE := (e12.trans e13).trans e14
    have f14 := flds_put (f := "lot_list") (f11.ex eBE) (r13.ex e14) rfl
    exact q _ R H14 hperm f14 (e03.trans (e3B.trans eBE)) i14
end


/-! ### ordered: ascending, without duplicates -/
section
variable {α : Type} [DecidableEq α]
def insO (lt : α → α → Bool) (acc : List α) (a : α) : List α := if a ∈ acc then acc else acc.take (acc.filter fun b => lt b a).length ++ [a] ++ acc.drop (acc.filter fun b => lt b a).length
def ordO (lt : α → α → Bool) (as : List α) : List α := as.foldl (insO lt) []
theorem split_at {p : α → Bool} : ∀ {l : List α}, l.Pairwise (fun x y => p y = true → p x = true) → l.take (l.filter p).length = l.filter p ∧ l.drop (l.filter p).length = l.filter fun x => !p x
  | [], _ => ⟨rfl, rfl⟩
  | a :: l, h => by
    obtain ⟨h1, h2⟩ := List.pairwise_cons.mp h
    obtain ⟨i1, i2⟩ := split_at h2
    by_cases hp : p a = true
    · rw [List.filter_cons_of_pos hp, List.filter_cons_of_neg (by simp [hp])]
      simp only [List.length_cons, List.take_succ_cons, List.drop_succ_cons]
      exact ⟨by rw [i1], i2⟩
    · have hn : ∀ b ∈ l, ¬ p b = true := fun b hb hpb => hp (h1 b hb hpb)
      have e : l.filter p = [] := List.filter_eq_nil_iff.mpr hn
      have e2 : l.filter (fun x => !p x) = l := List.filter_eq_self.mpr fun b hb => by simp [hn b hb]
      rw [List.filter_cons_of_neg hp, List.filter_cons_of_pos (by simp [hp]), e, e2]
      exact ⟨rfl, rfl⟩
/-- a strict order that compares any two -/
structure StO (lt : α → α → Bool) : Prop where
  irr : ∀ a, lt a a = false
  tra : ∀ a b c, lt a b = true → lt b c = true → lt a c = true
  tot : ∀ a b, a ≠ b → lt a b = true ∨ lt b a = true
theorem insO_ok {lt : α → α → Bool} (h : StO lt) {acc : List α} {a : α} (hs : acc.Pairwise fun x y => lt x y = true) : (insO lt acc a).Pairwise (fun x y => lt x y = true) ∧ ∀ b, b ∈ insO lt acc a ↔ b = a ∨ b ∈ acc := by
  unfold insO
  by_cases ha : a ∈ acc
  · rw [if_pos ha]
    exact ⟨hs, fun b => ⟨.inr, fun h => h.elim (fun e => e ▸ ha) id⟩⟩
  · rw [if_neg ha]
    obtain ⟨e1, e2⟩ := split_at (p := fun b => lt b a) (hs.imp fun {x y} hxy hy => h.tra _ _ _ hxy hy)
    rw [e1, e2]
    refine ⟨?_, fun b => ?_⟩
    · refine List.pairwise_append.mpr ⟨List.pairwise_append.mpr ⟨hs.sublist List.filter_sublist, by simp, fun x hx y hy => ?_⟩, hs.sublist List.filter_sublist, fun x hx y hy => ?_⟩
      · rw [List.mem_singleton.mp hy]
        exact (List.mem_filter.mp hx).2
      · have hy2 := (List.mem_filter.mp hy)
        have hay : lt a y = true := by
          have hn : ¬ lt y a = true := by have := hy2.2; simpa using this
          have : y ≠ a := fun e => ha (e ▸ hy2.1)
          exact (h.tot y a this).resolve_left hn
        rcases List.mem_append.mp hx with hx | hx
        · exact h.tra _ _ _ (List.mem_filter.mp hx).2 hay
        · rw [List.mem_singleton.mp hx]; exact hay
    · simp only [List.mem_append, List.mem_singleton, List.mem_filter]
      constructor
      · rintro ((⟨h, _⟩ | h) | ⟨h, _⟩)
        · exact .inr h
        · exact .inl h
        · exact .inr h
      · rintro (h1 | h1)
        · exact .inl (.inr h1)
        · cases hb : lt b a with
          | true => exact .inl (.inl ⟨h1, rfl⟩)
          | false => exact .inr ⟨h1, rfl⟩
theorem ordO_gen {lt : α → α → Bool} (h : StO lt) : ∀ {as acc : List α}, acc.Pairwise (fun x y => lt x y = true) → (as.foldl (insO lt) acc).Pairwise (fun x y => lt x y = true) ∧ ∀ b, b ∈ as.foldl (insO lt) acc ↔ b ∈ acc ∨ b ∈ as
  | [], acc, hs => ⟨hs, fun b => by simp⟩
  | a :: as, acc, hs => by
    obtain ⟨h1, h2⟩ := insO_ok h (a := a) hs
    obtain ⟨i1, i2⟩ := ordO_gen h (as := as) h1
    refine ⟨i1, fun b => ?_⟩
    rw [List.foldl_cons, i2, h2]
    simp only [List.mem_cons]
    constructor
    · rintro ((h | h) | h)
      · exact .inr (.inl h)
      · exact .inl h
      · exact .inr (.inr h)
    · rintro (h | h | h)
      · exact .inl (.inr h)
      · exact .inl (.inl h)
      · exact .inr h
theorem ordO_ok {lt : α → α → Bool} (h : StO lt) (as : List α) : (ordO lt as).Pairwise (fun x y => lt x y = true) ∧ ∀ b, b ∈ ordO lt as ↔ b ∈ as := by
  obtain ⟨h1, h2⟩ := ordO_gen h (as := as) (acc := []) .nil
  exact ⟨h1, fun b => by unfold ordO; rw [h2]; simp⟩
theorem insO_len {lt : α → α → Bool} {acc : List α} {a : α} : (insO lt acc a).length ≤ acc.length + 1 := by
  unfold insO
  split
  · omega
  · simp only [List.length_append, List.length_take, List.length_drop, List.length_singleton]
    omega
theorem ordO_snoc {lt : α → α → Bool} {as : List α} {a : α} : ordO lt (as ++ [a]) = insO lt (ordO lt as) a := by
  unfold ordO
  rw [List.foldl_append]
  rfl
theorem ordO_len {lt : α → α → Bool} : ∀ {as acc : List α}, (as.foldl (insO lt) acc).length ≤ acc.length + as.length
  | [], _ => by simp
  | a :: as, acc => by
    have := ordO_len (lt := lt) (as := as) (acc := insO lt acc a)
    have := insO_len (lt := lt) (acc := acc) (a := a)
    rw [List.foldl_cons, List.length_cons]
    omega
theorem ordO_in {lt : α → α → Bool} : ∀ {as acc : List α} {b : α}, b ∈ as.foldl (insO lt) acc → b ∈ acc ∨ b ∈ as
  | [], acc, b, h => .inl h
  | a :: as, acc, b, h => by
    rcases ordO_in (as := as) h with h | h
    · unfold insO at h
      split at h
      · exact .inl h
      · rcases List.mem_append.mp h with h | h
        · rcases List.mem_append.mp h with h | h
          · exact .inl (List.mem_of_mem_take h)
          · exact .inr (by rw [List.mem_singleton.mp h]; exact List.mem_cons_self)
        · exact .inl (List.mem_of_mem_drop h)
    · exact .inr (List.mem_cons_of_mem _ h)
end
section
variable {P : Program} {w : World} {K : PySem.W.Frag} {mg : Str → Option Value} {base : Heap}
theorem eqAll_of {α : Type} {f : α → D} {n : Nat} : ∀ {l : List α}, (∀ a ∈ l, eqOk n (f a) = true) → eqAll n (l.map f) = true
  | [], _ => by simp only [List.map_nil, eqAll]
  | a :: l, h => by
    simp only [List.map_cons, eqAll, Bool.and_eq_true]
    exact ⟨h a List.mem_cons_self, eqAll_of fun b hb => h b (List.mem_cons_of_mem _ hb)⟩
/-- what may be put in order -/
structure OrdE {α : Type} [DecidableEq α] (enc : α → D) (lt : α → α → Bool) (as : List α) : Prop where
  ok : ∀ a ∈ as, eqOk 3 (enc a) = true
  nn : ∀ a ∈ as, pyD (enc a) ≠ .none
  al : ∀ a ∈ as, ∀ b ∈ as, PySem.W.alike (pyD (enc a)) (pyD (enc b)) = true
  eq : ∀ a ∈ as, ∀ b ∈ as, PyData.eqv (pyD (enc a)) (pyD (enc b)) = decide (a = b)
  le : ∀ a ∈ as, ∀ b ∈ as, PySem.W.dataLt (pyD (enc a)) (pyD (enc b)) = lt a b
def spOrdr (K : PySem.W.Frag) : Sp := fun vs H Q _ => ∃ (M : Addr → Prop) (I : Hp → Prop) (x : V) (d : D) (α : Type) (_ : DecidableEq α) (enc : α → D) (lt : α → α → Bool) (as : List α), Wf M I ∧ I H ∧ vs = [x] ∧ Rep K M H x d ∧ d.elems = some (as.map enc) ∧ as.length ≤ 1000 ∧ OrdE enc lt as ∧ ∀ p H', H p = none → Ex M H H' → I H' → Rep K M H' (.ref p) (.lst ((ordO lt as).map enc)) → Q (.ref p) H'
theorem any_in {α : Type} [DecidableEq α] {enc : α → D} {a : α} : ∀ {acc : List α}, (∀ b ∈ acc, PyData.eqv (pyD (enc b)) (pyD (enc a)) = decide (b = a)) → ((pyAll (acc.map enc)).any fun z => PyData.eqv z (pyD (enc a))) = decide (a ∈ acc)
  | [], _ => rfl
  | b :: acc, h => by
    show (PyData.eqv (pyD (enc b)) (pyD (enc a)) || (pyAll (acc.map enc)).any _) = _
    rw [h b List.mem_cons_self, any_in fun c hc => h c (List.mem_cons_of_mem _ hc), Bool.eq_iff_iff]
    simp only [Bool.or_eq_true, decide_eq_true_eq, List.mem_cons]
    exact ⟨fun h => h.elim (fun e => .inl e.symm) .inr, fun h => h.elim (fun e => .inl e.symm) .inr⟩
theorem Reps.insert {M : Addr → Prop} {H : Hp} {xs : List V} {ds : List D} {y : V} {e : D} (k : Nat) (h : Reps K M H xs ds) (hy : Rep K M H y e) : Reps K M H (xs.take k ++ [y] ++ xs.drop k) (ds.take k ++ [e] ++ ds.drop k) := ((h.take k).append (.cons hy .nil)).append (h.drop k)
theorem ok_ordered (B : Bl mg) : Bok P w K mg base 1 "_law_ordered" s__law_ordered ["_law_some"] (spOrdr K) := by
  refine Bok.mk sc__law_ordered (fun vs H Q E h => ?_) (fun f cdv A outer s H vs Q E hr h => ⟨_, w__law_ordered B hr, ?_⟩)
  · obtain ⟨M, I, x, d, α, _, enc, lt, as, _, _, rfl, _⟩ := h
    rfl
  · obtain ⟨M, I, x, d, α, dec, enc, lt, as, hw, hI, rfl, hx, hd, hl, oe, q⟩ := h
    unfold t__law_ordered
    refine st_eq (σ' := [some x, none, none, none]) rfl ?_
    walk_at "sx"
    refine lst_mut hw hI (by decide) fun p H1 hp np e1 w1 i1 => ?_
    have hx1 := (hx.off hp).ex e1
    walk_at "sx"
    refine for_src (M := Mq M p) (as := as) (enc := enc) hx1 hd (fun k σ H3 => ∃ (xs : List V) (u2 : Option V), σ = [some x, some (.ref p), u2, none] ∧ Reps K (Mq M p) H3 xs ((ordO lt (as.take k)).map enc) ∧ Iq I p (.lst xs) H3 ∧ Ex (Mq M p) H1 H3)
      ⟨[], _, rfl, .nil, i1, Ex.refl _⟩ (fun k σ H h => by obtain ⟨_, _, _, _, _, e⟩ := h; exact e) ?_ ?_
    · rintro k a v σ H3 ha ⟨xs, u2, rfl, rxs, i3, e3⟩ rv
      dsimp only [List.set_cons_zero, List.set_cons_succ]
      have hain := List.mem_of_getElem? ha
      have hin : ∀ b ∈ ordO lt (as.take k), b ∈ as := fun b hb => by
        rcases ordO_in hb with h | h
        · cases h
        · exact List.mem_of_mem_take h
      have hal : (ordO lt (as.take k)).length ≤ 1000 := by
        have := ordO_len (lt := lt) (as := as.take k) (acc := [])
        rw [List.length_take] at this
        unfold ordO
        simp at this
        omega
      have rp : Rep K M H3 (.ref p) (.lst ((ordO lt (as.take k)).map enc)) := .lst i3.2 np (rxs.le fun _ m => .inl m)
      have est : ordO lt (as.take (k + 1)) = insO lt (ordO lt (as.take k)) a := by rw [take_snoc ha, ordO_snoc]
      walk_at "sx"
      refine ni_D (n := 3) (m := 4) rv.on rp (oe.ok a hain) ?_ (by decide) (by decide) ?_
      · show eqAll 3 _ = true
        exact eqAll_of fun b hb => oe.ok b (hin b hb)
      rw [any_in fun b hb => oe.eq b (hin b hb) a hain]
      by_cases hm : a ∈ ordO lt (as.take k)
      · rw [decide_eq_true hm]
        walk_at "sx"
        refine ⟨xs, _, rfl, ?_, i3, e3⟩
        rw [est]
        unfold insO
        rw [if_pos hm]
        exact rxs
      · rw [decide_eq_false hm]
        walk_at "sx"
        refine ⟨tyv_l i3.2, ?_⟩
        walk_at "sx"
        refine lc_srcF (K := K) (M := M) (I := I) (as := ordO lt (as.take k)) (enc := enc) (fun b => lt b a) enc hw i3.1 rp rfl (szOk (by omega)) (fun _ => rfl) ?_ ?_ ?_
        · intro L acc j b u H4 hL hb rb wf hi ex Qt qt
          have hbin := hin b (List.mem_of_getElem? hb)
          walk_at "sx"
          refine lt_D (n := 3) (m := 3) rb ((rv.on.off hL).ex ex) (oe.ok b hbin) (oe.ok a hain) (oe.al b hbin a hain) (oe.nn b hbin) (by decide) ?_
          walk_at "sx"
          rw [oe.le b hbin a hain]
          exact qt H4 hi (Ex.refl _)
        · intro L acc j b u H4 hL hb hp' rb wf hi ex Qe qe
          walk_at "sx"
          exact qe _ H4 rb hi (Ex.refl _)
        · intro y H4 r4 e4 i4
          walk_at "sx"
          refine len_R r4 (.inl rfl) ?_
          rw [List.length_map]
          walk_at "sx"
          have hp4 := e4 _ _ np i3.2
          have e34 : Ex (Mq M p) H3 H4 := Ex.wide e4
          have hxl : xs.length ≤ 1000 := by rw [rxs.length, List.length_map]; exact hal
          refine ⟨p, xs, _, v, rfl, rfl, hp4, Nat.lt_of_lt_of_le (show xs.length < 100000 by omega) (by decide), by omega, ?_, ?_⟩
          · have := List.length_filter_le (fun b => lt b a) (ordO lt (as.take k))
            omega
          rw [Int.toNat_natCast]
          obtain ⟨i5, e5⟩ := hw.put (o' := .lst (xs.take (List.filter (fun b => lt b a) (ordO lt (as.take k))).length ++ [v] ++ xs.drop (List.filter (fun b => lt b a) (ordO lt (as.take k))).length)) np ⟨i4, hp4⟩
          refine ⟨_, _, rfl, ?_, i5, e3.trans (e34.trans e5)⟩
          rw [est]
          unfold insO
          rw [if_neg hm, List.map_append, List.map_append, List.map_take, List.map_drop]
          exact Reps.insert _ ((rxs.ex e34).ex e5) ((rv.ex e34).ex e5)
    · rintro σ H3 ⟨xs, u2, rfl, rxs, i3, e3⟩
      rw [List.take_length] at rxs
      walk_at "sx"
      exact q p H3 hp ((e1.trans e3).shut hp) i3.1 (.lst i3.2 np (rxs.le fun _ m => .inl m))
theorem ok_lover (B : Bl mg) : Bok P w K mg base 1 "_law_over" s__law_over ["_law_newer", "_law_older"] (spOver K) := by
  refine Bok.mk sc__law_over (fun vs H Q E h => ?_) (fun f cdv A outer s H vs Q E hr h => ⟨_, w__law_over B hr, ?_⟩)
  · obtain ⟨M, I, l, m, _, _, rfl, _⟩ := h
    rfl
  · obtain ⟨M, I, l, m, hw, hI, rfl, hl, hl2, q⟩ := h
    unfold t__law_over
    walk_at "sx"
    refine lc_zipM (as := l) (bs := m) (enc := H48.e1) (enc2 := H48.e1) (fun p => .str (T [if p.1 = 46 then p.2 else p.1])) hw hI (.str _) rfl (.str _) rfl (by walk_at "sz") (fun _ _ => rfl) ?_ ?_
    · intro L acc k a b v u H hL ha hb rv rw wf hi ex Qe q
      cases rep_str rv
      cases rep_str rw
      walk_at "sx"
      refine ifB (fun h => ?_) (fun h => ?_) <;> walk_at "sx"
      · exact q _ _ (by simp at h; simp [h]; exact .str _) hi (Ex.refl _)
      · exact q _ _ (by simp at h; simp [h]; exact .str _) hi (Ex.refl _)
    · intro y H' rp ex hi
      walk_at "sx"
      exact join_1 _ rp (by simp; omega) (q _ ex hi)
end


/-! ### the closure -/
section
variable {P : Program} {w : World} {K : PySem.W.Frag} {mg : Str → Option Value} {base : Heap}
def ltS (a b : List Nat) : Bool := decide (a < b)
theorem stoS : StO ltS where
  irr a := decide_eq_false (List.lt_irrefl a)
  tra a b c h1 h2 := decide_eq_true (List.lt_trans (of_decide_eq_true h1) (of_decide_eq_true h2))
  tot a b h := by
    by_cases h1 : a < b
    · exact .inl (decide_eq_true h1)
    · by_cases h2 : b < a
      · exact .inr (decide_eq_true h2)
      · exact absurd (List.le_antisymm (List.not_lt.mp h2) (List.not_lt.mp h1)) h
theorem eqv_T (a b : List Nat) : PyData.eqv (.str (T a)) (.str (T b)) = decide (a = b) := by
  rw [Bool.eq_iff_iff]
  simp only [PyData.eqv, beq_iff_eq, decide_eq_true_eq]
  exact ⟨fun h => T_inj h, fun h => by rw [h]⟩
theorem ordS {as : List (List Nat)} (h : ∀ a ∈ as, ∀ c ∈ a, c < 128) : OrdE eS ltS as where
  ok a ha := by
    show eqOk 3 (.str (T a)) = true
    simp only [eqOk]
    exact ok_T (h a ha)
  nn a _ := nofun
  al a _ b _ := by simp [PySem.W.alike, pyD]
  eq a _ b _ := eqv_T a b
  le a _ b _ := by
    show PySem.W.dataLt (.str (T a)) (.str (T b)) = decide (a < b)
    rw [PySem.W.dataLt_str, T_cps, T_cps]
/-- the rows of a band, ascending -/
structure CloA (S : List (List Nat)) (n lim : Nat) (X : List (List Nat)) : Prop where
  up : X.Pairwise (· < ·)
  len : X.length ≤ lim
  mem : ∀ r, r ∈ X ↔ Cl S n r
def spClo (K : PySem.W.Frag) : Sp := fun vs H Q _ => ∃ (M : Addr → Prop) (I : Hp → Prop) (y : V) (S : List (List Nat)) (n lim : Nat), Wf M I ∧ I H ∧ vs = [.int (n : Nat), y, .int (lim : Nat)] ∧ Rep K M H y (.lst (S.map eS)) ∧ S.length ≤ 20 ∧ (∀ s ∈ S, s.length = n) ∧ (∀ s ∈ S, ∀ c ∈ s, c < 128) ∧ n ≤ 1000 ∧ lim ≤ 40 ∧
  (∀ H' (F : List (List Nat)), F.Nodup → (∀ r ∈ F, Cl S n r) → lim < F.length → Ex M H H' → I H' → Q .non H') ∧ ∀ v X H', CloA S n lim X → Rep K M H' v (.lst (X.map eS)) → Ex M H H' → I H' → Q v H'
theorem cl_lt {S : List (List Nat)} {n : Nat} (hS : ∀ s ∈ S, ∀ c ∈ s, c < 128) {r : List Nat} (h : Cl S n r) : ∀ c ∈ r, c < 128 := by
  induction h with
  | base => intro c hc; rw [List.eq_of_mem_replicate hc]; decide
  | step hs _ ih =>
    intro c hc
    obtain ⟨p, hp, rfl⟩ := List.mem_map.mp hc
    have hp1 := List.of_mem_zip hp
    split
    · exact ih _ hp1.2
    · exact hS _ hs _ hp1.1
theorem ok_closure (B : Bl mg) (G1 : Df P w K mg base 1 "_law_ordered" ["_law_some"] [] (spOrdr K)) (G2 : Df P w K mg base 1 "_law_over" ["_law_newer", "_law_older"] [] (spOver K)) : Bok P w K mg base 2 "_law_closure" s__law_closure ["_law_size", "_law_given", "_law_limit"] (spClo K) := by
  refine Bok.mk sc__law_closure (fun vs H Q E h => ?_) (fun f cdv A outer s H vs Q E hr h => ⟨_, w__law_closure B G1 G2 hr, ?_⟩)
  · obtain ⟨M, I, y, S, n, lim, _, _, rfl, _⟩ := h
    rfl
  · obtain ⟨M, I, x, S, n, lim, hw, hI, rfl, hx, hSl, hS, hSc, hn, hlim, q1, q2⟩ := h
    unfold t__law_closure
    refine st_eq (σ' := [some (.int (n : Nat)), some x, some (.int (lim : Nat)), none, none, none, none, none]) rfl ?_
    refine sx_seq ?_
    walk_at "sx"
    refine mul_Ti (by omega) (by decide) ?_
    rw [show (List.replicate n [46]).flatten = List.replicate n 46 by rw [List.flatten_replicate_singleton]]
    with_reducible refine sx_nil ?_
    refine lst_mut (xs := [.str (T (List.replicate n 46))]) hw hI (show 1 ≤ sizeLine by decide) fun p H1 hp np e1 w1 i1 => ?_
    with_reducible refine sx_cons ?_
    intro q0 hq0
    have nq : ¬ Mq M p q0 := w1.fresh i1 hq0
    have nqp : q0 ≠ p := fun e => nq (e ▸ .inr rfl)
    show tOp rMulU (tC (.str (T [46]))) (tVar 0) _ _ _
    walk_at "sx"
    refine mul_Ti (by omega) (by decide) ?_
    rw [show (List.replicate n [46]).flatten = List.replicate n 46 by rw [List.flatten_replicate_singleton]]
    walk_at "sx"
    refine ⟨upd_same, [keyT (List.replicate n 46)], rfl, by simp, ?_⟩
    have hmk : mergeK [] [keyT (List.replicate n 46)] = [List.replicate n 46].map keyT := rfl
    rw [hmk]
    have hu : upd (upd H1 q0 (.dK [])) q0 (.dK ([List.replicate n 46].map keyT)) = upd H1 q0 (.dK ([List.replicate n 46].map keyT)) := by
      funext a
      by_cases h : a = q0
      · rw [h, upd_same, upd_same]
      · rw [upd_ne h, upd_ne h, upd_ne h]
    rw [hu]
    have e2 : Ex (Mq (Mq M p) q0) H1 (upd H1 q0 (.dK ([List.replicate n 46].map keyT))) := Ex.of (same_upd hq0)
    have i2 : Iq (Iq I p (.lst ([List.replicate n 46].map fun l => V.str (T l)))) q0 (.dK ([List.replicate n 46].map keyT)) (upd H1 q0 (.dK ([List.replicate n 46].map keyT))) := ⟨w1.same (same_upd hq0) i1, upd_same⟩
    generalize upd H1 q0 (.dK ([List.replicate n 46].map keyT)) = H2 at e2 i2
    have hx2 : Rep K (Mq (Mq M p) q0) H2 x (.lst (S.map eS)) := (((hx.off hp).ex e1).off hq0).ex e2
    clear w1
    with_reducible refine sx_nil ?_
    refine ⟨_, _, rfl, ?_⟩
    dsimp only [List.set_cons_zero, List.set_cons_succ]
    have fin : ∀ (F : List (List Nat)) (u5 u6 u7 : Option V) (H4 : Hp), Iq (Iq I p (.lst (F.map fun l => V.str (T l)))) q0 (.dK (F.map keyT)) H4 → Ex (Mq (Mq M p) q0) H2 H4 → F.Nodup → List.replicate n 46 ∈ F → (∀ r ∈ F, Cl S n r) → F.length ≤ 1000 → (F.length ≤ lim → ∀ i r, i < F.length → F[i]? = some r → ∀ s ∈ S, lay s r ∈ F) →
        tRet (tIf (tTest (tOp rLeU (tCB (rLen K) (tCons (tVar 3) tNil)) (tVar 2))) (tCall (spOrdr K) (([] : List V).drop 0) E0 (tCons (tVar 3) tNil)) (tC .non)) { nx := fun _ H' => Q .non H', rt := Q } [some (.int (n : Nat)), some x, some (.int (lim : Nat)), some (.ref p), some (.ref q0), u5, u6, u7] H4 := by
      intro F u5 u6 u7 H4 i4 e4 nd h0 hcl hFl hdone
      have e04 : Ex M H H4 := (e1.trans ((e2.trans e4).shut hq0)).shut hp
      walk_at "sx"
      refine len_raw i4.1.2 ?_
      rw [List.length_map]
      walk_at "sx"
      refine ifB (fun h => ?_) (fun h => ?_)
      · have hle : F.length ≤ lim := by have := of_decide_eq_true h; omega
        walk_at "sx"
        refine ⟨M, I, .ref p, .lst (F.map eS), List Nat, (inferInstance : DecidableEq (List Nat)), eS, ltS, F, hw, i4.1.1, rfl, .lst i4.1.2 np (reps_S F), rfl, hFl, ordS fun a ha => cl_lt hSc (hcl a ha), fun pz H5 hpz e5 i5 r5 => ?_⟩
        have hmem : ∀ r, r ∈ F ↔ Cl S n r := fun r => by
          refine ⟨hcl r, cl_in h0 (fun r hr s hs => ?_) r⟩
          obtain ⟨i, hi⟩ := List.getElem?_of_mem hr
          have := (List.getElem?_eq_some_iff.mp hi).1
          exact hdone hle i r (by omega) hi s hs
        obtain ⟨o1, o2⟩ := ordO_ok stoS F
        have o1' : (ordO ltS F).Pairwise (· < ·) := o1.imp fun h => of_decide_eq_true h
        have hperm : (ordO ltS F).Perm F := (List.perm_ext_iff_of_nodup (o1'.imp fun h e => by rw [e] at h; exact List.lt_irrefl _ h) nd).mpr o2
        exact q2 _ _ H5 ⟨o1', by rw [hperm.length_eq]; exact hle, fun r => by rw [o2, hmem]⟩ r5 (e04.trans e5) i5
      · have hle : lim < F.length := by have := of_decide_eq_false h; omega
        walk_at "sx"
        exact q1 H4 F nd hcl hle e04 i4.1.1
    walk_at "sx"
    refine ⟨_, rfl, by omega, by omega, ?_⟩
    rw [Int.toNat_natCast]
    refine for_rng (fun k σ H => ∃ (F : List (List Nat)) (u5 u6 u7 : Option V), σ = [some (.int (n : Nat)), some x, some (.int (lim : Nat)), some (.ref p), some (.ref q0), u5, u6, u7] ∧ Iq (Iq I p (.lst (F.map fun l => V.str (T l)))) q0 (.dK (F.map keyT)) H ∧ Ex (Mq (Mq M p) q0) H2 H ∧ F.Nodup ∧ List.replicate n 46 ∈ F ∧ (∀ r ∈ F, Cl S n r) ∧ F.length ≤ 1 + 20 * k ∧ ∀ i r, i < k → F[i]? = some r → ∀ s ∈ S, lay s r ∈ F)
      ⟨[List.replicate n 46], _, _, _, rfl, i2, Ex.refl _, by simp, by simp, fun r hr => by rw [List.mem_singleton.mp hr]; exact .base, by simp, fun i r h => by omega⟩ ?_ ?_
    · rintro k σ H3 hk ⟨F, u5, u6, u7, rfl, i3, e3, nd, h0, hcl, hFl, hdone⟩
      dsimp only [List.set_cons_zero, List.set_cons_succ]
      rw [Int.zero_add]
      walk_at "sx"
      refine len_raw i3.1.2 ?_
      rw [List.length_map]
      walk_at "sx"
      refine ifB (fun h => ?_) (fun h => ?_)
      · have hk2 : F.length ≤ k := by have := of_decide_eq_true h; omega
        exact fin F _ _ _ H3 i3 e3 nd h0 hcl (by omega) fun _ i r hi => hdone i r (by omega)
      · have hkF : k < F.length := by have := of_decide_eq_false h; omega
        have hcr : Cl S n F[k] := hcl _ (List.getElem_mem hkF)
        have hFk := hcr.len hS
        walk_at "sx"
        refine for_src (K := K) (M := Mq (Mq M p) q0) (as := S) (enc := eS) (hx2.ex e3) rfl (fun j σ H => ∃ (G : List (List Nat)) (u6 u7 : Option V), σ = [some (.int (n : Nat)), some x, some (.int (lim : Nat)), some (.ref p), some (.ref q0), some (.int (k : Nat)), u6, u7] ∧ Iq (Iq I p (.lst ((F ++ G).map fun l => V.str (T l)))) q0 (.dK ((F ++ G).map keyT)) H ∧ Ex (Mq (Mq M p) q0) H3 H ∧
            (F ++ G).Nodup ∧ G.length ≤ j ∧ (∀ r ∈ G, Cl S n r) ∧ ∀ s ∈ S.take j, lay s F[k] ∈ F ++ G)
          ⟨[], _, _, rfl, by rw [List.append_nil]; exact i3, Ex.refl _, by rw [List.append_nil]; exact nd, by simp, all_nil, fun s h => by simp at h⟩ (fun k σ H h => by obtain ⟨_, _, _, _, _, h, _⟩ := h; exact h) ?_ ?_
        · rintro j s v σ H5 ha ⟨G, u6, u7, rfl, i5, e5, nd5, hGl, hc5, hd5⟩ rv
          cases rep_str rv
          have hsS := List.mem_of_getElem? ha
          have hsl := hS s hsS
          have hj : j < S.length := (List.getElem?_eq_some_iff.mp ha).1
          have hbd : (F ++ G).length ≤ 1000 := by rw [List.length_append]; omega
          have hw5 := (hw.add p (.lst ((F ++ G).map fun l => V.str (T l)))).add q0 (.dK ((F ++ G).map keyT))
          dsimp only [List.set_cons_zero, List.set_cons_succ]
          walk_at "sx"
          refine ix_raw (v := .str (T F[k])) i5.1.2 ?_ ?_
          · have hkG : k < (F ++ G).length := by rw [List.length_append]; omega
            refine atI_nat' ?_
            rw [List.getElem?_map, List.getElem?_append_left hkF, List.getElem?_eq_getElem hkF]
            rfl
          walk_at "sx"
          refine ⟨_, _, s, F[k], hw5, i5, rfl, by omega, by omega, fun H6 e6 i6 => ?_⟩
          have e56 := e5.trans e6
          walk_at "sx"
          with_reducible refine sx_dni ?_
          walk_at "sx"
          refine ⟨_, _, rfl, DGet.k (k := .inr (T (lay s F[k]))) i6.2, ?_⟩
          rw [valV_key]
          walk_at "sx"
          refine ifB (fun h => ?_) (fun h => ?_)
          · have hnin : lay s F[k] ∉ F ++ G := by simpa using h
            with_reducible refine sx_seq ?_
            with_reducible refine sx_dput ?_
            walk_at "sx"
            refine ⟨_, _, rfl, DPut.k (k := .inr (T (lay s F[k]))) i6.2 (by rw [List.length_map]; exact Nat.lt_of_lt_of_le (show (F ++ G).length < 100000 by omega) (by decide)), ?_⟩
            rw [putK_key hnin]
            have i7 : Iq (Iq I p (.lst ((F ++ G).map fun l => V.str (T l)))) q0 (.dK ((F ++ G ++ [lay s F[k]]).map keyT)) (upd H6 q0 (.dK ((F ++ G ++ [lay s F[k]]).map keyT))) := ((hw.add p _).put nq i6).1
            have e7 : Ex (Mq (Mq M p) q0) H6 (upd H6 q0 (.dK ((F ++ G ++ [lay s F[k]]).map keyT))) := fun a o n h => by rw [upd_ne fun z => n (.inr z)]; exact h
            generalize upd H6 q0 (.dK ((F ++ G ++ [lay s F[k]]).map keyT)) = H7 at i7 e7
            walk_at "sx"
            refine ⟨tyv_l i7.1.2, ?_⟩
            walk_at "sx"
            refine ⟨p, _, .str (T (lay s F[k])), rfl, rfl, i7.1.2, Nat.lt_of_lt_of_le (show ((F ++ G).map fun l => V.str (T l)).length < 100000 by rw [List.length_map]; omega) (by decide), ?_⟩
            rw [map_snocS]
            have i8 : Iq (Iq I p (.lst ((F ++ G ++ [lay s F[k]]).map fun l => V.str (T l)))) q0 (.dK ((F ++ G ++ [lay s F[k]]).map keyT)) (upd H7 p (.lst ((F ++ G ++ [lay s F[k]]).map fun l => V.str (T l)))) := by
              obtain ⟨u1, u2⟩ := hw.put (o' := .lst ((F ++ G ++ [lay s F[k]]).map fun l => V.str (T l))) np i7.1
              exact ⟨u1, by rw [upd_ne nqp]; exact i7.2⟩
            have e8 : Ex (Mq (Mq M p) q0) H7 (upd H7 p (.lst ((F ++ G ++ [lay s F[k]]).map fun l => V.str (T l)))) := fun a o n h => by rw [upd_ne fun z => n (.inl (.inr z))]; exact h
            generalize upd H7 p (.lst ((F ++ G ++ [lay s F[k]]).map fun l => V.str (T l))) = H8 at i8 e8
            refine ⟨G ++ [lay s F[k]], _, _, rfl, by rw [← List.append_assoc]; exact i8, (e56.trans e7).trans e8, ?_, by simp; omega, ?_, ?_⟩
            · rw [← List.append_assoc]
              exact List.nodup_append.mpr ⟨nd5, by simp, fun a ha b hb => by rw [List.mem_singleton.mp hb]; exact fun e => hnin (e ▸ ha)⟩
            · intro r hr
              rcases List.mem_append.mp hr with z | z
              · exact hc5 r z
              · rw [List.mem_singleton.mp z]; exact .step hsS hcr
            · intro s2 h2
              rw [take_snoc ha] at h2
              rcases List.mem_append.mp h2 with z | z
              · rw [← List.append_assoc]
                exact List.mem_append.mpr (.inl (hd5 s2 z))
              · rw [List.mem_singleton.mp z, ← List.append_assoc]
                exact List.mem_append.mpr (.inr List.mem_cons_self)
          · have hin : lay s F[k] ∈ F ++ G := by
              have h : (!decide (lay s F[k] ∈ F ++ G)) = false := h
              rw [Bool.not_eq_false'] at h
              exact of_decide_eq_true h
            refine sx_next ?_
            refine ⟨G, _, _, rfl, i6, e56, nd5, by omega, hc5, fun s2 h2 => ?_⟩
            rw [take_snoc ha] at h2
            rcases List.mem_append.mp h2 with z | z
            · exact hd5 s2 z
            · rw [List.mem_singleton.mp z]; exact hin
        · rintro σ H5 ⟨G, u6, u7, rfl, i5, e5, nd5, hGl, hc5, hd5⟩
          rw [List.take_length] at hd5
          refine ⟨F ++ G, _, _, _, rfl, i5, e3.trans e5, nd5, List.mem_append.mpr (.inl h0), fun r hr => ?_, by rw [List.length_append]; omega, fun i r hi hr s hs => ?_⟩
          · rcases List.mem_append.mp hr with z | z
            · exact hcl r z
            · exact hc5 r z
          · by_cases hik : i < k
            · have hiF : i < F.length := by omega
              have : F[i]? = some r := by rw [List.getElem?_append_left hiF] at hr; exact hr
              exact List.mem_append.mpr (.inl (hdone i r hik this s hs))
            · have e : i = k := by omega
              subst e
              have : r = F[i] := by
                rw [List.getElem?_append_left hkF] at hr
                simp [hkF] at hr
                exact hr.symm
              rw [this]
              exact hd5 s hs
    · rintro σ H3 ⟨F, u5, u6, u7, rfl, i3, e3, nd, h0, hcl, hFl, hdone⟩
      exact fin F u5 u6 u7 H3 i3 e3 nd h0 hcl (by omega) fun h i r hi => hdone i r (by omega)
end


/-! ### seeds, with all cells told -/
section
variable {K : PySem.W.Frag} {M : Addr → Prop} {I : Hp → Prop} {H1 : Hp} {α : Type} {as : List α} {σ : L2.St} {vs : List Nat} {enc : α → D} {tt : TT} {te : TE} {Q : VK}
/-- [f(x) for x in s if p(x)], the list new -/
theorem lc_srcN {i : Nat} {x : V} {d : D} (f : α → D) (hw : Wf M I) (hI : I H1) (hx : Rep K M H1 x d) (hd : d.elems = some (as.map enc)) (hlen : as.length ≤ sizeLine) (hwp : ∀ v, wipe ((wipe σ vs).set i (some v)) vs = wipe σ vs)
    (he : ∀ (L : Addr) (acc : List V) (k : Nat) (a : α) (v : V) (H : Hp), H1 L = none → ¬ M L → as[k]? = some a → Rep K (Mq M L) H v (enc a) → Wf (Mq M L) (Iq I L (.lst acc)) → Iq I L (.lst acc) H → Ex (Mq M L) H1 H →
      ∀ Qe : VK, (∀ y H4, Rep K (Mq M L) H4 y (f a) → Iq I L (.lst acc) H4 → Ex (Mq M L) H H4 → Qe y H4) → te ((wipe σ vs).set i (some v)) H Qe)
    (hq : ∀ L H', H1 L = none → Rep K M H' (.ref L) (.lst (as.map f)) → Ex M H1 H' → I H' → Q (.ref L) H') : srcR K (LcR (gName i) tYes te vs σ Q) x H1 := by
  obtain ⟨S, xs, rfl, r, hS⟩ := src_of hx hd
  have hl := reps_len r
  have key : ∀ {J : It} {G : Hp → Prop} {Y : Nat → Hp → V → Hp → Prop}, L2.Walk J as.length G Y → (∀ H', Ex M H1 H' → G H') → (∀ k H x H', Y k H x H' → H' = H ∧ xs[k]? = some x) → LcR (gName i) tYes te vs σ Q J H1 := fun {J G Y} w hG hY => by
    refine lc_any (K := K) w hw hI (fun _ => true) (fun a d => d = f a) (fun k _ => (wipe σ vs).set i (some (xs.getD k .non))) hG hlen (fun k a ha => ?_) (fun k a => hwp _) ?_ ?_ ?_
    · exact bd_name fun H x H' y => by
        obtain ⟨e1, e2⟩ := hY k H x H' y
        exact ⟨e1, by simp [List.getD, e2]⟩
    · intro L acc k a H hL nL ha wf hi ex Qt q
      exact q H hi (Ex.refl _)
    · intro L acc k a H hL nL ha hp wf hi ex Qt q
      obtain ⟨v, hv, rv⟩ := reps_at r ha
      have e : xs.getD k .non = v := by simp [List.getD, hv]
      rw [e]
      exact he L acc k a v H hL nL ha ((rv.off hL).ex ex) wf hi ex Qt fun y H4 r4 i4 e4 => q y _ H4 rfl r4 i4 e4
    · intro L ds H' hL a2 rp ex hi
      rw [filter_tt] at a2
      rw [a2.eq] at rp
      exact hq L H' hL rp ex hi
  cases S with
  | lst a =>
    refine .inl ⟨a, rfl, ⟨xs, hS H1 (Ex.refl _)⟩, ?_⟩
    have w := walk_list (K := K) (a := a) (xs := xs)
    rw [hl] at w
    exact key w hS fun k H x H' y => y
  | tup a =>
    refine .inr (.inl ⟨a, rfl, ⟨xs, hS H1 (Ex.refl _)⟩, ?_⟩)
    have w := walk_tup (K := K) (a := a) (xs := xs)
    rw [hl] at w
    exact key w hS fun k H x H' y => y
  | txt z =>
    refine .inr (.inr ⟨z, rfl, ?_⟩)
    have hxs : xs = Nt.signs z := hS H1 (Ex.refl _)
    have w := walk_str (z := z)
    have hz : z.cps.size = as.length := by rw [← hl, hxs]; simp [Nt.signs]
    rw [hz] at w
    refine key w (fun _ _ => trivial) fun k H x H' y => ⟨y.1, ?_⟩
    obtain ⟨_, c, e1, e2⟩ := y
    rw [hxs, e2]
    simp [Nt.signs, e1]
theorem any_M {H : Hp} {x : V} (h : α → Bool) (hx : Rep K M H x (.lst (as.map fun a => .bl (h a)))) (q : Q (.bl (as.any h)) H) : rAny K [x] H Q := by
  have hx : Rep K M H x (.lst ((as.map h).map .bl)) := by rw [List.map_map]; exact hx
  cases hx with
  | lst h1 n1 r =>
    have e := Reps.scal_inv (f := V.bl) (fun a v h => rep_bl h) r
    subst e
    refine ⟨_, as.map h, rfl, SqL.of h1, ?_⟩
    rw [List.any_map]
    exact q
theorem strs_of : ∀ {R : List (List Nat)} {H : Hp} {xs : List V}, Reps K M H xs (R.map eS) → xs = R.map fun l => V.str (T l)
  | [], _, xs, h => by cases h; rfl
  | r :: R, _, xs, h => by
    cases h with
    | cons h1 h2 => cases rep_str h1; rw [strs_of h2]; rfl
end
/-- a seed that is not blank -/
def fixR (fl : List Nat) (pl : Nat) (r : List Nat) : List Nat := if r = List.replicate r.length 46 then r.take pl ++ [fl.getD pl 46] ++ r.drop (pl + 1) else r
/-- the last one, with a sign for each cell that none tells -/
def lastR (fl : List Nat) (F : List (List Nat)) (l : List Nat) : List Nat := (List.range l.length).map fun k => if F.any (fun r => !decide (r.getD k 46 = 46)) then l.getD k 46 else fl.getD k 46
def onceR (F : List (List Nat)) : List (List Nat) := ((List.range F.length).filter fun k => !decide (F.getD k [] ∈ F.take k)).map fun k => F.getD k []
theorem onceR_snoc {F : List (List Nat)} {a : List Nat} : onceR (F ++ [a]) = if a ∈ F then onceR F else onceR F ++ [a] := by
  unfold onceR
  rw [List.length_append, List.length_singleton, List.range_succ, List.filter_append, List.map_append]
  have e1 : ((List.range F.length).filter fun k => !decide ((F ++ [a]).getD k [] ∈ (F ++ [a]).take k)) = (List.range F.length).filter fun k => !decide (F.getD k [] ∈ F.take k) := by
    refine List.filter_congr fun k hk => ?_
    have hk := List.mem_range.mp hk
    rw [List.getD_eq_getElem?_getD, List.getD_eq_getElem?_getD, List.getElem?_append_left hk, List.take_append_of_le_length (by omega)]
  have e2 : ((List.range F.length).filter fun k => !decide (F.getD k [] ∈ F.take k)).map (fun k => (F ++ [a]).getD k []) = ((List.range F.length).filter fun k => !decide (F.getD k [] ∈ F.take k)).map fun k => F.getD k [] := by
    refine List.map_congr_left fun k hk => ?_
    have hk := List.mem_range.mp (List.mem_filter.mp hk).1
    rw [List.getD_eq_getElem?_getD, List.getD_eq_getElem?_getD, List.getElem?_append_left hk]
  have e3 : (F ++ [a]).getD F.length [] = a := by simp [List.getD_eq_getElem?_getD]
  have e4 : (F ++ [a]).take F.length = F := by simp
  rw [e1, e2, List.filter_cons, e3, e4]
  by_cases h : a ∈ F
  · rw [if_pos h, if_neg (by simp [h])]
    simp
  · rw [if_neg h, if_pos (by simp [h])]
    simp [e3]
theorem once_ok : ∀ (n : Nat) (F : List (List Nat)), F.length = n → (onceR F).Nodup ∧ (∀ a, a ∈ onceR F ↔ a ∈ F) ∧ (onceR F).length ≤ F.length
  | 0, F, h => by
    have : F = [] := List.length_eq_zero_iff.mp h
    subst this
    exact ⟨by simp [onceR], by simp [onceR], by simp [onceR]⟩
  | n + 1, F, h => by
    rcases List.eq_nil_or_concat F with e | ⟨F2, a, e⟩
    · rw [e] at h; simp at h
    · rw [List.concat_eq_append] at e
      subst e
      rw [List.length_append, List.length_singleton] at h
      obtain ⟨h1, h2, h3⟩ := once_ok n F2 (by omega)
      rw [onceR_snoc]
      by_cases ha : a ∈ F2
      · rw [if_pos ha]
        refine ⟨h1, fun b => ?_, by simp; omega⟩
        rw [h2]
        simp only [List.mem_append, List.mem_singleton]
        exact ⟨.inl, fun h => h.elim id fun e => e ▸ ha⟩
      · rw [if_neg ha]
        refine ⟨List.nodup_append.mpr ⟨h1, by simp, fun x hx y hy e => ?_⟩, fun b => ?_, by simp; omega⟩
        · rw [List.mem_singleton.mp hy] at e
          exact ha (e ▸ (h2 x).mp hx)
        · simp only [List.mem_append, List.mem_singleton, h2]
/-- the seeds -/
def toldF (fl : List Nat) (pl : Nat) (R : List (List Nat)) : List (List Nat) :=
  let F := R.map (fixR fl pl)
  onceR (F.dropLast ++ [lastR fl F (F.getLastD [])])
def sgL (v : Nat) : List Nat := ([46, 48, 49, 50, 51] : List Nat).take (v + 1)
theorem isRow_D {fr : List (List Nat × Nat)} {r : List Nat} : isRow fr r = true ↔ r.length = fr.length ∧ ∀ k, k < fr.length → r.getD k 46 ∈ sgL (fr.getD k ([], 0)).2 := by
  unfold isRow
  rw [Bool.and_eq_true, decide_eq_true_eq, List.all_eq_true]
  refine and_congr_right fun hl => ⟨fun h k hk => ?_, fun h p hp => ?_⟩
  · have hk1 : k < r.length := by omega
    have hm : (r[k], fr[k]) ∈ r.zip fr := by
      have : (r.zip fr)[k]? = some (r[k], fr[k]) := List.getElem?_zip_eq_some.mpr ⟨by simp [hk1], by simp [hk]⟩
      exact List.mem_of_getElem? this
    have := of_decide_eq_true (h _ hm)
    rw [List.getD_eq_getElem?_getD (l := r), List.getElem?_eq_getElem hk1, List.getD_eq_getElem?_getD (l := fr), List.getElem?_eq_getElem hk]
    exact this
  · obtain ⟨k, hk⟩ := List.getElem?_of_mem hp
    obtain ⟨a, b⟩ := p
    obtain ⟨h1, h2⟩ := List.getElem?_zip_eq_some.mp hk
    obtain ⟨hk1, e1⟩ := List.getElem?_eq_some_iff.mp h1
    obtain ⟨hk2, e2⟩ := List.getElem?_eq_some_iff.mp h2
    have := h k hk2
    rw [List.getD_eq_getElem?_getD (l := r), h1, List.getD_eq_getElem?_getD (l := fr), h2] at this
    exact decide_eq_true this
theorem mid_D {r : List Nat} {pl c k : Nat} (h : pl < r.length) : (r.take pl ++ [c] ++ r.drop (pl + 1)).getD k 46 = if k = pl then c else r.getD k 46 := by
  rw [List.getD_eq_getElem?_getD, List.getD_eq_getElem?_getD]
  by_cases h1 : k < pl
  · rw [if_neg (by omega), List.append_assoc, List.getElem?_append_left (by rw [List.length_take]; omega), List.getElem?_take_of_lt h1]
  · by_cases h2 : k = pl
    · subst h2
      rw [if_pos rfl, List.append_assoc, List.getElem?_append_right (by rw [List.length_take]; omega), List.length_take, Nat.min_eq_left (by omega), Nat.sub_self]
      rfl
    · rw [if_neg h2, List.getElem?_append_right (by simp; omega), List.getElem?_drop]
      simp only [List.length_append, List.length_take, List.length_singleton]
      rw [Nat.min_eq_left (by omega)]
      congr 2
      omega
theorem mid_len {r : List Nat} {pl c : Nat} (h : pl < r.length) : (r.take pl ++ [c] ++ r.drop (pl + 1)).length = r.length := by
  simp only [List.length_append, List.length_take, List.length_singleton, List.length_drop]
  omega
theorem mk_D {s : List Nat} {k : Nat} : Mk0 s k ↔ s.getD k 46 ≠ 46 := by
  rw [List.getD_eq_getElem?_getD]
  cases h : s[k]? with
  | none => exact ⟨fun ⟨c, h1, _⟩ => (nomatch (h.symm.trans h1)), fun h => absurd rfl h⟩
  | some c => exact ⟨fun ⟨c', h1, h2⟩ => by cases h.symm.trans h1; exact h2, fun h2 => ⟨c, h, h2⟩⟩
section
variable {fr : List (List Nat × Nat)} {fl : List Nat} {pl : Nat} {R : List (List Nat)}
theorem blank_iff {r : List Nat} : r = List.replicate r.length 46 ↔ ∀ k, r.getD k 46 = 46 := by
  constructor
  · intro h k
    rw [h, List.getD_eq_getElem?_getD, List.getElem?_replicate]
    split <;> rfl
  · intro h
    refine List.ext_getElem (by simp) fun k h1 h2 => ?_
    have := h k
    rw [List.getD_eq_getElem?_getD, List.getElem?_eq_getElem h1] at this
    simpa using this
theorem fix_row (hfl : isRow fr fl = true) (hpl : pl < fr.length) {r : List Nat} (hr : isRow fr r = true) : isRow fr (fixR fl pl r) = true := by
  unfold fixR
  split
  · obtain ⟨h1, h2⟩ := isRow_D.mp hr
    obtain ⟨h3, h4⟩ := isRow_D.mp hfl
    refine isRow_D.mpr ⟨by rw [mid_len (by omega)]; exact h1, fun k hk => ?_⟩
    rw [mid_D (by omega)]
    split
    · rename_i e; subst e; exact h4 k hk
    · exact h2 k hk
  · exact hr
theorem fix_told (hfl : ∀ k, k < fr.length → fl.getD k 46 ≠ 46) (hpl : pl < fr.length) {r : List Nat} (hr : isRow fr r = true) : ∃ k, Mk0 (fixR fl pl r) k := by
  unfold fixR
  have hl := isRow_len hr
  split
  · exact ⟨pl, mk_D.mpr (by rw [mid_D (by omega), if_pos rfl]; exact hfl pl hpl)⟩
  · rename_i h
    apply Classical.byContradiction
    intro hn
    exact h (blank_iff.mpr fun k => Classical.byContradiction fun h => hn ⟨k, mk_D.mpr h⟩)
theorem last_D {F : List (List Nat)} {l : List Nat} {k : Nat} (hk : k < l.length) : (lastR fl F l).getD k 46 = if F.any (fun r => !decide (r.getD k 46 = 46)) then l.getD k 46 else fl.getD k 46 := by
  unfold lastR
  rw [List.getD_eq_getElem?_getD, List.getElem?_map, List.getElem?_range hk]
  rfl
theorem last_len {F : List (List Nat)} {l : List Nat} : (lastR fl F l).length = l.length := by unfold lastR; simp
theorem told_ok (hfl : isRow fr fl = true) (hfl2 : ∀ k, k < fr.length → fl.getD k 46 ≠ 46) (hpl : pl < fr.length) (hR : ∀ r ∈ R, isRow fr r = true) (hne : R ≠ []) : GoodS fr (toldF fl pl R) ∧ (toldF fl pl R).length ≤ R.length ∧ toldF fl pl R ≠ [] := by
  obtain ⟨R0, r0, rfl⟩ : ∃ R0 r0, R = R0 ++ [r0] := by
    rcases List.eq_nil_or_concat R with e | ⟨A, a, e⟩
    · exact absurd e hne
    · exact ⟨A, a, by rw [e, List.concat_eq_append]⟩
  have hF : ∀ r ∈ (R0 ++ [r0]).map (fixR fl pl), isRow fr r = true ∧ ∃ k, Mk0 r k := fun r hr => by
    obtain ⟨q, hq, rfl⟩ := List.mem_map.mp hr
    exact ⟨fix_row hfl hpl (hR q hq), fix_told hfl2 hpl (hR q hq)⟩
  generalize hFe : (R0 ++ [r0]).map (fixR fl pl) = F at hF
  have hFe2 : F = R0.map (fixR fl pl) ++ [fixR fl pl r0] := by rw [← hFe, List.map_append]; rfl
  have hgl : F.getLastD [] = fixR fl pl r0 := by rw [hFe2]; simp [List.getLastD_eq_getLast?]
  have hdl : F.dropLast = R0.map (fixR fl pl) := by rw [hFe2]; simp
  have hl0 : fixR fl pl r0 ∈ F := by rw [hFe2]; simp
  obtain ⟨hr0, k0, hk0⟩ := hF _ hl0
  have hlen0 := isRow_len hr0
  have hlast : isRow fr (lastR fl F (fixR fl pl r0)) = true := by
    obtain ⟨h1, h2⟩ := isRow_D.mp hr0
    obtain ⟨h3, h4⟩ := isRow_D.mp hfl
    refine isRow_D.mpr ⟨by rw [last_len]; exact h1, fun k hk => ?_⟩
    rw [last_D (by omega)]
    split
    · exact h2 k hk
    · exact h4 k hk
  have e : toldF fl pl (R0 ++ [r0]) = onceR (R0.map (fixR fl pl) ++ [lastR fl F (fixR fl pl r0)]) := by
    unfold toldF
    simp only [hFe, hgl, hdl]
  obtain ⟨o1, o2, o3⟩ := once_ok _ (R0.map (fixR fl pl) ++ [lastR fl F (fixR fl pl r0)]) rfl
  rw [e]
  refine ⟨⟨fun s hs => ?_, o1, fun k hk => ?_⟩, by simpa using o3, fun h => ?_⟩
  · rcases List.mem_append.mp ((o2 s).mp hs) with h | h
    · exact hF s (by rw [hFe2]; exact List.mem_append.mpr (.inl h))
    · rw [List.mem_singleton.mp h]
      refine ⟨hlast, k0, mk_D.mpr ?_⟩
      have hk1 : k0 < (fixR fl pl r0).length := by
        obtain ⟨c, hc, _⟩ := hk0
        exact (List.getElem?_eq_some_iff.mp hc).1
      rw [last_D hk1, if_pos (List.any_eq_true.mpr ⟨_, hl0, by simpa using mk_D.mp hk0⟩)]
      exact mk_D.mp hk0
  · by_cases ha : F.any (fun r => !decide (r.getD k 46 = 46)) = true
    · obtain ⟨r, hr, hk2⟩ := List.any_eq_true.mp ha
      have hk2 : r.getD k 46 ≠ 46 := by simpa using hk2
      rw [hFe2] at hr
      rcases List.mem_append.mp hr with h | h
      · exact ⟨r, (o2 r).mpr (List.mem_append.mpr (.inl h)), mk_D.mpr hk2⟩
      · rw [List.mem_singleton.mp h] at hk2
        refine ⟨_, (o2 _).mpr (List.mem_append.mpr (.inr List.mem_cons_self)), mk_D.mpr ?_⟩
        rw [last_D (by omega), if_pos ha]
        exact hk2
    · refine ⟨_, (o2 _).mpr (List.mem_append.mpr (.inr List.mem_cons_self)), mk_D.mpr ?_⟩
      rw [last_D (by omega), if_neg ha]
      exact hfl2 k hk
  · have := (o2 (lastR fl F (fixR fl pl r0))).mpr (List.mem_append.mpr (.inr List.mem_cons_self))
    rw [h] at this
    cases this
end


/-! ### the law's draws -/
section
variable {P : Program} {w : World} {K : PySem.W.Frag} {mg : Str → Option Value} {base : Heap}
theorem tup_raw {M : Addr → Prop} {I : Hp → Prop} {H : Hp} {xs : List V} {Q : VK} (hw : Wf M I) (hI : I H) (sz : xs.length ≤ sizeLine) (q : ∀ p H', ¬ M p → H' p = some (.tup xs) → Ex M H H' → I H' → Q (.ref p) H') : TupK Q xs H := ⟨sz, fun p hp => by
  have e := same_upd (o := .tup xs) hp
  exact q p _ (hw.fresh hI hp) upd_same (Ex.of e) (hw.same e hI)⟩
def spToldA (K : PySem.W.Frag) : Sp := fun vs H Q _ => ∃ (M : Addr → Prop) (I : Hp → Prop) (x : V) (R : List (List Nat)) (fl : List Nat) (pl : Nat), Wf M I ∧ I H ∧ vs = [x, .str (T fl), .int (pl : Nat)] ∧ Rep K M H x (.lst (R.map eS)) ∧ R ≠ [] ∧ R.length ≤ 20 ∧ fl.length ≤ 90 ∧ pl < fl.length ∧ (∀ r ∈ R, r.length = fl.length) ∧ ∀ v H', Ex M H H' → I H' → Rep K M H' v (.lst ((toldF fl pl R).map eS)) → Q v H'
theorem fixR_len {fl : List Nat} {pl : Nat} {r : List Nat} (h : pl < r.length) : (fixR fl pl r).length = r.length := by
  unfold fixR
  split
  · exact mid_len h
  · rfl
theorem set_last {A : List (List Nat)} {a l : List Nat} : ((A ++ [a]).map fun l => V.str (T l)).set A.length (.str (T l)) = (A ++ [l]).map fun l => V.str (T l) := by
  rw [List.map_append, List.set_append_right _ _ (by simp), List.map_append]
  simp
theorem ok_told_all (B : Bl mg) : Bok P w K mg base 1 "_law_told_all" s__law_told_all ["_law_given", "_law_filler", "_law_place"] (spToldA K) := by
  refine Bok.mk sc__law_told_all (fun vs H Q E h => ?_) (fun f cdv A outer s H vs Q E hr h => ⟨_, w__law_told_all B hr, ?_⟩)
  · obtain ⟨M, I, x, R, fl, pl, _, _, rfl, _⟩ := h
    rfl
  · obtain ⟨M, I, x, R, fl, pl, hw, hI, rfl, hx, hne, hRl, hfl, hpl, hR, q⟩ := h
    unfold t__law_told_all
    refine st_eq (σ' := [some x, some (.str (T fl)), some (.int (pl : Nat)), none, none, none, none, none, none]) rfl ?_
    walk_at "sx"
    refine lc_srcN (as := R) (enc := eS) (fun r => eS (fixR fl pl r)) hw hI hx rfl (szOk (by omega)) (fun _ => rfl) ?_ ?_
    · intro L acc k a v H4 hL nL ha rv wf hi ex Qe qe
      cases rep_str rv
      have hal := hR a (List.mem_of_getElem? ha)
      walk_at "sx"
      refine mul_Ti (by omega) (by decide) ?_
      rw [show (List.replicate a.length [46]).flatten = List.replicate a.length 46 by rw [List.flatten_replicate_singleton]]
      walk_at "sx"
      refine ifB (fun h => ?_) (fun h => ?_)
      · have hb : ¬ a = List.replicate a.length 46 := by simpa using h
        walk_at "sx"
        refine qe _ H4 ?_ hi (Ex.refl _)
        unfold fixR
        rw [if_neg hb]
        exact .str _
      · have hb : a = List.replicate a.length 46 := by simpa using h
        walk_at "sx"
        refine sl_Tto (szOk (by omega)) ?_
        walk_at "sx"
        refine ix_T (szOk (by omega)) (show fl[pl]? = some (fl.getD pl 46) by rw [List.getD_eq_getElem?_getD, List.getElem?_eq_getElem hpl]; rfl) ?_
        walk_at "sx"
        rw [show ((pl : Nat) : Int) + 1 = ((pl + 1 : Nat) : Int) by omega]
        refine sl_Tfrom (szOk (by omega)) ?_
        refine add_TT (szOk (by simp; omega)) ?_
        refine qe _ H4 ?_ hi (Ex.refl _)
        unfold fixR
        rw [if_pos hb]
        exact .str _
    · intro L H4 hL r4 e4 i4
      obtain ⟨R0, r0, rfl⟩ : ∃ R0 r0, R = R0 ++ [r0] := by
        rcases List.eq_nil_or_concat R with e | ⟨A, a, e⟩
        · exact absurd e hne
        · exact ⟨A, a, by rw [e, List.concat_eq_append]⟩
      rw [show ((R0 ++ [r0]).map fun r => eS (fixR fl pl r)) = (R0.map (fixR fl pl) ++ [fixR fl pl r0]).map eS by simp] at r4
      have hTe : toldF fl pl (R0 ++ [r0]) = onceR (R0.map (fixR fl pl) ++ [lastR fl (R0.map (fixR fl pl) ++ [fixR fl pl r0]) (fixR fl pl r0)]) := by
        unfold toldF
        simp [List.getLastD_eq_getLast?]
      rw [hTe] at q
      have hAl : ∀ r ∈ R0.map (fixR fl pl) ++ [fixR fl pl r0], r.length = fl.length := fun r hr => by
        have hm : r ∈ (R0 ++ [r0]).map (fixR fl pl) := by simpa using hr
        obtain ⟨z, hz, rfl⟩ := List.mem_map.mp hm
        have := hR z hz
        rw [fixR_len (by omega)]; exact this
      have hbl : (R0.map (fixR fl pl)).length ≤ 19 := by simp at hRl ⊢; omega
      generalize R0.map (fixR fl pl) = A at r4 q hAl hbl
      generalize fixR fl pl r0 = b at r4 q hAl
      have hbb : b.length = fl.length := hAl b (by simp)
      walk_at "sx"
      refine ix_last (by rw [List.map_append] at r4; exact r4) fun v1 r1 => ?_
      cases rep_str r1
      walk_at "sx"
      refine ⟨_, rfl, by omega, by omega, ?_⟩
      rw [Int.toNat_natCast]
      refine lc_rngF (K := K) (fun _ => true) (fun k => .str (T [(lastR fl (A ++ [b]) b).getD k 46])) hw i4 (szOk (by omega)) (fun _ => rfl) ?_ ?_ ?_
      · intro L2 acc k H5 hL2 hk wf hi ex Qt qt
        exact qt H5 hi (Ex.refl _)
      · intro L2 acc k H5 hL2 hk _ wf hi ex Qe qe
        rw [Int.zero_add]
        walk_at "sx"
        refine lc_srcM (K := K) (as := A ++ [b]) (enc := eS) (fun r => .bl (!decide (r.getD k 46 = 46))) wf hi ((r4.off hL2).ex ex) rfl (szOk (by simp; omega)) (fun _ => rfl) ?_ ?_
        · intro L3 acc3 j a v H6 hL3 ha rv wf3 hi3 ex3 Qe3 qe3
          cases rep_str rv
          have hal := hAl a (List.mem_of_getElem? ha)
          walk_at "sx"
          refine ix_T (szOk (by omega)) (show a[k]? = some (a.getD k 46) by rw [List.getD_eq_getElem?_getD, List.getElem?_eq_getElem (by omega)]; rfl) ?_
          walk_at "sx"
          exact qe3 _ H6 (.bl _) hi3 (Ex.refl _)
        · intro y H6 r6 e6 i6
          walk_at "sx"
          refine any_M (fun r : List Nat => !decide (r.getD k 46 = 46)) r6 ?_
          walk_at "sx"
          have hld := last_D (fl := fl) (F := A ++ [b]) (l := b) (k := k) (by omega)
          refine ifB (fun h => ?_) (fun h => ?_)
          · rw [if_pos h] at hld
            walk_at "sx"
            refine ix_T (szOk (by omega)) (show b[k]? = some (b.getD k 46) by rw [List.getD_eq_getElem?_getD, List.getElem?_eq_getElem (by omega)]; rfl) ?_
            rw [← hld]
            exact qe _ H6 (.str _) i6 e6
          · rw [if_neg (by rw [h]; decide)] at hld
            walk_at "sx"
            refine ix_T (szOk (by omega)) (show fl[k]? = some (fl.getD k 46) by rw [List.getD_eq_getElem?_getD, List.getElem?_eq_getElem (by omega)]; rfl) ?_
            rw [← hld]
            exact qe _ H6 (.str _) i6 e6
      · intro y H5 r5 e5 i5
        rw [filter_tt] at r5
        walk_at "sx"
        refine join_1 (fun k => (lastR fl (A ++ [b]) b).getD k 46) r5 (by simp; omega) ?_
        have hle : (List.range b.length).map (fun k => (lastR fl (A ++ [b]) b).getD k 46) = lastR fl (A ++ [b]) b := by
          refine ext_D (by rw [List.length_map, List.length_range, last_len]) fun k => ?_
          by_cases hk : k < b.length
          · rw [List.getD_eq_getElem?_getD, List.getElem?_map, List.getElem?_range hk]; rfl
          · rw [get_out (by simp; omega), get_out (by rw [last_len]; omega)]
        rw [hle]
        generalize hlr : lastR fl (A ++ [b]) b = l2 at q
        have hl2 : l2.length = fl.length := by rw [← hlr, last_len]; exact hbb
        obtain ⟨nL, hx5⟩ : ¬ M L ∧ H5 L = some (.lst ((A ++ [b]).map fun l => V.str (T l))) := by
          cases r4 with
          | lst h n r => rw [strs_of r] at h; exact ⟨n, e5 _ _ n h⟩
        with_reducible refine gs_sub ?_
        walk_at "sx"
        refine set_raw (n := A.length) hx5 ?_ ?_
        · rw [List.length_map, List.length_append, List.length_singleton]
          unfold ixN
          rw [if_neg (by omega), if_pos (by omega)]
          congr 1
          omega
        rw [set_last]
        obtain ⟨i6, e6⟩ := hw.put (o' := .lst ((A ++ [l2]).map fun l => V.str (T l))) nL ⟨i5, hx5⟩
        generalize upd H5 L (.lst ((A ++ [l2]).map fun l => V.str (T l))) = H6 at i6 e6
        have e06 : Ex M H H6 := ((Ex.wide (p := L) (e4.trans e5)).trans e6).shut hL
        have r6 : Rep K M H6 (.ref L) (.lst ((A ++ [l2]).map eS)) := .lst i6.2 nL (reps_S _)
        have hxx := hx.ex e06
        clear hx5 r5 r4 hx
        have hAl2 : ∀ r ∈ A ++ [l2], r.length = fl.length := fun r hr => by
          rcases List.mem_append.mp hr with h | h
          · exact hAl r (by simp [h])
          · rw [List.mem_singleton.mp h]; exact hl2
        have hF2 : (A ++ [l2]).length ≤ 1000 := by rw [List.length_append, List.length_singleton]; omega
        generalize A ++ [l2] = F2 at q r6 hAl2 hF2
        walk_at "sx"
        refine len_R r6 (.inl rfl) ?_
        rw [List.length_map]
        walk_at "sx"
        refine ⟨_, rfl, by omega, by omega, ?_⟩
        rw [Int.toNat_natCast]
        refine lc_rngF (K := K) (fun k => !decide (F2.getD k [] ∈ F2.take k)) (fun k => eS (F2.getD k [])) hw i6.1 (szOk (by omega)) (fun _ => rfl) ?_ ?_ ?_
        · intro L3 acc k H7 hL3 hk wf hi ex Qt qt
          rw [Int.zero_add]
          have r7 := (r6.off hL3).ex ex
          walk_at "sx"
          refine ix_R (n := k) (e := eS (F2.getD k [])) r7 (.inl rfl) (by simp only [List.getElem?_map, List.getD_eq_getElem?_getD, List.getElem?_eq_getElem hk]; rfl) fun v3 r3 => ?_
          cases rep_str r3
          walk_at "sx"
          refine sl_Lto wf hi r7 fun v4 H8 e8 i8 r8 => ?_
          rw [← List.map_take] at r8
          refine ni_L (ls := F2.take k) r8 (.inl rfl) ?_
          walk_at "sx"
          exact qt H8 i8 e8
        · intro L3 acc k H7 hL3 hk _ wf hi ex Qe qe
          rw [Int.zero_add]
          have r7 := (r6.off hL3).ex ex
          walk_at "sx"
          refine ix_R (n := k) (e := eS (F2.getD k [])) r7 (.inl rfl) (by simp only [List.getElem?_map, List.getD_eq_getElem?_getD, List.getElem?_eq_getElem hk]; rfl) fun v3 r3 => ?_
          exact qe _ H7 r3 hi (Ex.refl _)
        · intro y H7 r7 e7 i7
          walk_at "sx"
          refine q y H7 (e06.trans e7) i7 ?_
          unfold onceR
          rw [List.map_map]
          exact r7
/-! a name that is none of some names -/
def abcW : List Nat := [113, 104, 122, 98, 109, 120, 101, 111, 107, 97, 117, 118, 114, 115, 100, 116, 103, 112, 119, 121, 102, 106, 110, 108, 99, 105]
theorem abcW_get {m : Nat} (h : m < 26) : ∃ c, abcW[m]? = some c ∧ 97 ≤ c ∧ c ≤ 122 := by
  have : ∀ m : Fin 26, ∃ c, abcW[m.val]? = some c ∧ 97 ≤ c ∧ c ≤ 122 := by decide
  exact this ⟨m, h⟩
theorem abcW_in {c : Nat} (h : c ∈ abcW) : 97 ≤ c ∧ c ≤ 122 := by
  have : ∀ c ∈ abcW, 97 ≤ c ∧ c ≤ 122 := by decide
  exact this c h
theorem free_name {ls : List (List Nat)} {t : List Nat} (h : ls.length < 26) (ht : TOk t) : ∃ u us, ((t :: abcW.map fun c => c :: t.drop 1).filter fun u => !decide (u ∈ ls)) = u :: us ∧ TOk u ∧ u ∉ ls := by
  have hok : ∀ u ∈ (t :: abcW.map fun c => c :: t.drop 1), TOk u := fun u hu => by
    rcases List.mem_cons.mp hu with rfl | hu
    · exact ht
    · obtain ⟨c, hc, rfl⟩ := List.mem_map.mp hu
      refine ⟨by simp, ?_, fun d hd => ?_⟩
      · have := ht.2.1
        simp only [List.length_cons, List.length_drop]
        omega
      · rcases List.mem_cons.mp hd with rfl | hd
        · exact abcW_in hc
        · exact ht.2.2 d (List.mem_of_mem_drop hd)
  cases hf : (t :: abcW.map fun c => c :: t.drop 1).filter fun u => !decide (u ∈ ls) with
  | nil =>
    exfalso
    have hall : ∀ u ∈ (abcW.map fun c => c :: t.drop 1), u ∈ ls := fun u hu => by
      have := List.filter_eq_nil_iff.mp hf u (List.mem_cons_of_mem _ hu)
      simpa using this
    have hn : (abcW.map fun c => c :: t.drop 1).Nodup := by
      rw [List.Nodup, List.pairwise_map]
      exact (show abcW.Pairwise (· ≠ ·) by decide).imp fun {a b} h e => h (by injection e)
    have := nodup_len hn hall
    rw [List.length_map] at this
    have : abcW.length = 26 := rfl
    omega
  | cons u us =>
    have hu : u ∈ ((t :: abcW.map fun c => c :: t.drop 1).filter fun u => !decide (u ∈ ls)) := by rw [hf]; exact List.mem_cons_self
    obtain ⟨h1, h2⟩ := List.mem_filter.mp hu
    exact ⟨u, us, rfl, hok u h1, by simpa using h2⟩
theorem gs_tup2 {H : Hp} {p : Addr} {x y : V} {i j : Nat} {G : L2.St → Hp → Prop} {σ : L2.St} (h : H p = some (.tup [x, y])) (q : G ((σ.set i (some x)).set j (some y)) H) : gTup K 2 (gCons (gName i) (gCons (gName j) gNil)) (.ref p) σ H G :=
  ⟨p, [x, y], rfl, SqT.of h, rfl, x, [y], rfl, y, [], rfl, rfl, q⟩
theorem abc_let {m : Nat} (h : m < 26) : ∃ c, abcW[m]? = some c ∧ 97 ≤ c ∧ c ≤ 122 := abcW_get h
def spName (K : PySem.W.Frag) : Sp := fun vs H Q _ => ∃ (M : Addr → Prop) (I : Hp → Prop) (b : Addr) (x : V) (ls : List (List Nat)), Wf M I ∧ I H ∧ HasBag M I b ∧ vs = [.ref b, x] ∧ Rep K M H x (.lst (ls.map eS)) ∧ ls.length ≤ 20 ∧ ∀ t H', TOk t → t ∉ ls → Ex M H H' → I H' → Q (.str (T t)) H'
theorem ok_draw_name (B : Bl mg) (G1 : Df P w K mg base 1 "_law_pull" ["_law_bag", "_law_many"] [] (spDraw K)) : Bok P w K mg base 2 "_law_draw_name" s__law_draw_name ["_law_bag", "_law_names"] (spName K) := by
  refine Bok.mk sc__law_draw_name (fun vs H Q E h => ?_) (fun f cdv A outer s H vs Q E hr h => ⟨_, w__law_draw_name B G1 hr, ?_⟩)
  · obtain ⟨M, I, b, x, ls, _, _, _, rfl, _⟩ := h
    rfl
  · obtain ⟨M, I, b, x, ls, hw, hI, hB, rfl, hx, hl, q⟩ := h
    unfold t__law_draw_name
    refine st_eq (σ' := [some (.ref b), some x, none, none, none, none, none, none, none]) rfl ?_
    walk_at "sx"
    refine tup_raw hw hI (by show 2 ≤ sizeLine; decide) fun p H1 _ hp e1 i1 => ?_
    refine gs_tup2 (x := .str (T abcW)) (y := .str (T [])) hp ?_
    dsimp only [List.set_cons_zero, List.set_cons_succ]
    walk_at "sx"
    refine ⟨M, I, b, 6, hw, i1, hB, rfl, by decide, by decide, fun sz H2 hsz e2 i2 => ?_⟩
    walk_at "sx"
    refine ⟨_, rfl, by decide, by decide, ?_⟩
    refine for_rng (fun k σ H3 => ∃ (t : List Nat) (u5 u6 : Option V), σ = [some (.ref b), some x, some (.str (T abcW)), some (.str (T t)), some (.int (1 + (sz : Nat))), u5, u6, none, none] ∧ t.length = 3 * k ∧ (∀ c ∈ t, 97 ≤ c ∧ c ≤ 122) ∧ I H3 ∧ Ex M H2 H3)
      ⟨[], _, _, rfl, rfl, nofun, i2, Ex.refl _⟩ ?_ ?_
    · rintro k σ H3 hk ⟨t, u5, u6, rfl, htl, htc, i3, e3⟩
      have hk2 : k < 2 := hk
      dsimp only [List.set_cons_zero, List.set_cons_succ]
      walk_at "sx"
      refine ⟨M, I, b, 17576, hw, i3, hB, rfl, by decide, by decide, fun m H4 hm e4 i4 => ?_⟩
      walk_at "sx"
      refine mod_any (by decide) fun m1 hm1 => ?_
      obtain ⟨c1, hc1, hc1a⟩ := abc_let (m := m1) (by omega)
      refine ix_T (szOk (by decide)) hc1 ?_
      refine add_TT (szOk (by simp; omega)) ?_
      walk_at "sx"
      refine div_any (by decide) (by decide +kernel) fun d1 => ?_
      walk_at "sx"
      refine mod_any (by decide) fun m2 hm2 => ?_
      obtain ⟨c2, hc2, hc2a⟩ := abc_let (m := m2) (by omega)
      refine ix_T (szOk (by decide)) hc2 ?_
      refine add_TT (szOk (by simp; omega)) ?_
      walk_at "sx"
      refine div_any (by decide) (by decide +kernel) fun d2 => ?_
      walk_at "sx"
      refine mod_any (by decide) fun m3 hm3 => ?_
      obtain ⟨c3, hc3, hc3a⟩ := abc_let (m := m3) (by omega)
      refine ix_T (szOk (by decide)) hc3 ?_
      refine add_TT (szOk (by simp; omega)) ?_
      walk_at "sx"
      refine ⟨_, _, _, rfl, by simp [htl]; omega, fun c hc => ?_, i4, e3.trans e4⟩
      simp only [List.mem_append, List.mem_singleton] at hc
      rcases hc with ((hc | rfl) | rfl) | rfl
      · exact htc c hc
      · exact hc1a
      · exact hc2a
      · exact hc3a
    · rintro σ H3 ⟨t, u5, u6, rfl, htl, htc, i3, e3⟩
      have htl : t.length = 6 := htl
      have hsz6 : sz < 6 := by omega
      dsimp only [List.set_cons_zero, List.set_cons_succ]
      walk_at "sx"
      rw [show (1 : Int) + ((sz : Nat) : Int) = ((1 + sz : Nat) : Int) by omega]
      refine sl_Tto (szOk (by omega)) ?_
      have hto : TOk (t.take (1 + sz)) := ⟨by rw [List.length_take]; omega, by rw [List.length_take]; omega, fun c hc => htc c (List.mem_of_mem_take hc)⟩
      generalize t.take (1 + sz) = u at hto
      have hul := hto.2.1
      clear htl htc
      walk_at "sx"
      refine lst_end (K := K) (M := M) (ds := [eS u]) hw i3 (.cons (.str _) .nil) (szOk (by simp)) fun v4 H4 e4 i4 r4 => ?_
      walk_at "sx"
      refine lc_srcM (K := K) (as := abcW) (enc := H48.e1) (fun c => eS (c :: u.drop 1)) hw i4 (.str _) rfl (szOk (by decide)) (fun _ => rfl) ?_ ?_
      · intro L acc k a v H5 hL ha rv wf hi ex Qe qe
        cases rep_str rv
        walk_at "sx"
        refine sl_Tfrom (n := 1) (szOk (by omega)) ?_
        refine add_TT (szOk (by simp; omega)) ?_
        exact qe _ H5 (.str _) hi (Ex.refl _)
      · intro y5 H5 r5 e5 i5
        refine add_LL (K := K) hw i5 (r4.ex e5) r5 (szOk (by simp; decide)) fun v6 H6 e6 i6 r6 => ?_
        rw [show [eS u] ++ abcW.map (fun c => eS (c :: u.drop 1)) = (u :: abcW.map fun c => c :: u.drop 1).map eS by simp] at r6
        have e06 : Ex M H H6 := e1.trans (e2.trans (e3.trans (e4.trans (e5.trans e6))))
        refine lc_srcF (K := K) (as := u :: abcW.map fun c => c :: u.drop 1) (enc := eS) (fun w => !decide (w ∈ ls)) eS hw i6 r6 rfl (szOk (by simp; decide)) (fun _ => rfl) ?_ ?_ ?_
        · intro L acc k a v H7 hL ha rv wf hi ex Qt qt
          cases rep_str rv
          walk_at "sx"
          refine ni_L (ls := ls) (((hx.ex e06).off hL).ex ex) (.inl rfl) ?_
          walk_at "sx"
          exact qt H7 hi (Ex.refl _)
        · intro L acc k a v H7 hL ha hp' rv wf hi ex Qe qe
          walk_at "sx"
          exact qe _ H7 rv hi (Ex.refl _)
        · intro y7 H7 r7 e7 i7
          obtain ⟨w0, us, hw0, hok, hni⟩ := free_name (ls := ls) (by omega) hto
          rw [hw0] at r7
          walk_at "sx"
          refine ix_R (n := 0) (e := eS w0) r7 (.inl rfl) rfl fun v8 r8 => ?_
          cases rep_str r8
          exact q w0 H7 hok hni (e06.trans e7) i7
def spCells (K : PySem.W.Frag) : Sp := fun vs H Q _ => ∃ (M : Addr → Prop) (I : Hp → Prop) (b : Addr) (x : V) (n : Nat) (tk : List (List Nat)), Wf M I ∧ I H ∧ HasBag M I b ∧ vs = [.ref b, .int (n : Nat), x] ∧ Rep K M H x (.lst (tk.map eS)) ∧ n ≤ 6 ∧ tk.length ≤ 10 ∧ ∀ v fr H', fr.length = n → FrOk fr → (fr.map (·.1)).Nodup → (∀ p ∈ fr, p.1 ∉ tk) → Ex M H H' → I H' → Rep K M H' v (.lst (fr.map eC)) → Q v H'
theorem ok_draw_cells (B : Bl mg) (G1 : Df P w K mg base 2 "_law_draw_name" ["_law_bag", "_law_names"] [] (spName K)) (G2 : Df P w K mg base 2 "_law_pick" ["_law_bag", "_law_some"] [] (spOf K)) : Bok P w K mg base 3 "_law_draw_cells" s__law_draw_cells ["_law_bag", "_law_size", "_law_taken_here"] (spCells K) := by
  refine Bok.mk sc__law_draw_cells (fun vs H Q E h => ?_) (fun f cdv A outer s H vs Q E hr h => ⟨_, w__law_draw_cells B G1 G2 hr, ?_⟩)
  · obtain ⟨M, I, b, x, n, tk, _, _, _, rfl, _⟩ := h
    rfl
  · obtain ⟨M, I, b, x, n, tk, hw, hI, hB, rfl, hx, hn, htk, q⟩ := h
    unfold t__law_draw_cells
    refine st_eq (σ' := [some (.ref b), some (.int (n : Nat)), some x, none, none, none]) rfl ?_
    walk_at "sx"
    refine list_E hw hI hx (.inl rfl) fun p1 xs1 hp1 rx1 => ?_
    obtain rfl := strs_of rx1
    have s1 := same_upd (o := .lst (tk.map fun l => V.str (T l))) hp1
    have e1 : Ex M H (upd H p1 (.lst (tk.map fun l => V.str (T l)))) := Ex.of s1
    have i1 : Iq I p1 (.lst (tk.map fun l => V.str (T l))) (upd H p1 (.lst (tk.map fun l => V.str (T l)))) := ⟨hw.same s1 hI, upd_same⟩
    have np1 : ¬ M p1 := hw.fresh hI hp1
    generalize upd H p1 (.lst (tk.map fun l => V.str (T l))) = H1 at e1 i1
    have w1 := hw.add p1 (.lst (tk.map fun l => V.str (T l)))
    walk_at "sx"
    refine lst_mut w1 i1 (by decide) fun p2 H2 hp2 np2 e2 w2 i2 => ?_
    have ne : p1 ≠ p2 := fun e => np2 (.inr e.symm)
    have np2' : ¬ M p2 := fun m => np2 (.inl m)
    walk_at "sx"
    dsimp only [List.set_cons_zero, List.set_cons_succ]
    refine ⟨_, rfl, by omega, by omega, ?_⟩
    rw [Int.toNat_natCast]
    refine for_rng (fun k σ H3 => ∃ (fr : List (List Nat × Nat)) (xs2 : List V) (u5 : Option V), σ = [some (.ref b), some (.int (n : Nat)), some x, some (.ref p1), some (.ref p2), u5] ∧ fr.length = k ∧ FrOk fr ∧ (fr.map (·.1)).Nodup ∧ (∀ p ∈ fr, p.1 ∉ tk) ∧ Iq (Iq I p1 (.lst ((tk ++ fr.map (·.1)).map fun l => V.str (T l)))) p2 (.lst xs2) H3 ∧ Reps K (Mq (Mq M p1) p2) H3 xs2 (fr.map eC) ∧ Ex (Mq (Mq M p1) p2) H2 H3)
      ⟨[], [], _, rfl, rfl, nofun, .nil, nofun, by simpa using i2, .nil, Ex.refl _⟩ ?_ ?_
    · rintro k σ H3 hk ⟨fr, xs2, u5, rfl, hfk, hok, hnd, hnt, i3, r3, e3⟩
      dsimp only [List.set_cons_zero, List.set_cons_succ]
      have hlen : (tk ++ fr.map (·.1)).length ≤ 20 := by simp; omega
      walk_at "sx"
      refine ⟨tyv_l i3.1.2, ?_⟩
      walk_at "sx"
      refine ⟨M, I, b, .ref p1, tk ++ fr.map (·.1), hw, i3.1.1, hB, rfl, .lst i3.1.2 np1 (reps_S _), hlen, fun t H4 ht hnt2 e4 i4 => ?_⟩
      have hp14 := e4 _ _ np1 i3.1.2
      have hp24 := e4 _ _ np2' i3.2
      have e34 : Ex (Mq (Mq M p1) p2) H3 H4 := Ex.wide (Ex.wide e4)
      walk_at "sx"
      refine ⟨p1, _, .str (T t), rfl, rfl, hp14, Nat.lt_of_lt_of_le (show ((tk ++ fr.map (·.1)).map fun l => V.str (T l)).length < 100000 by rw [List.length_map]; omega) (by decide), ?_⟩
      rw [map_snocS]
      obtain ⟨i5a, e5a⟩ := hw.put (o' := .lst ((tk ++ fr.map (·.1) ++ [t]).map fun l => V.str (T l))) np1 ⟨i4, hp14⟩
      have i5 : Iq (Iq I p1 (.lst ((tk ++ fr.map (·.1) ++ [t]).map fun l => V.str (T l)))) p2 (.lst xs2) (upd H4 p1 (.lst ((tk ++ fr.map (·.1) ++ [t]).map fun l => V.str (T l)))) := ⟨i5a, by rw [upd_ne (Ne.symm ne)]; exact hp24⟩
      have e45 : Ex (Mq (Mq M p1) p2) H4 (upd H4 p1 (.lst ((tk ++ fr.map (·.1) ++ [t]).map fun l => V.str (T l)))) := Ex.wide e5a
      generalize upd H4 p1 (.lst ((tk ++ fr.map (·.1) ++ [t]).map fun l => V.str (T l))) = H5 at i5 e45
      clear i5a e5a
      have w5 : Wf (Mq (Mq M p1) p2) (Iq (Iq I p1 (.lst ((tk ++ fr.map (·.1) ++ [t]).map fun l => V.str (T l)))) p2 (.lst xs2)) := (hw.add p1 _).add p2 _
      have hB5 : HasBag (Mq (Mq M p1) p2) (Iq (Iq I p1 (.lst ((tk ++ fr.map (·.1) ++ [t]).map fun l => V.str (T l)))) p2 (.lst xs2)) b := (hB.add np1).add np2
      walk_at "sx"
      refine ⟨tyv_l i5.2, ?_⟩
      walk_at "sx"
      refine ix_raw i5.1.2 (show atI ((tk ++ fr.map (·.1) ++ [t]).map fun l => V.str (T l)) (-1) = some (.str (T t)) by rw [List.map_append]; exact atI_m1) ?_
      walk_at "sx"
      refine tup_end (K := K) w5 i5 (.cons (.int _) (.cons (.int _) (.cons (.int _) (.cons (.int _) (.cons (.int _) (.cons (.int _) (.cons (.int _) .nil))))))) (szOk (by simp)) fun v6 H6 e6 i6 r6 => ?_
      walk_at "sx"
      refine ⟨_, _, b, v6, _, _, w5, i6, hB5, rfl, r6, rfl, by simp, by simp, fun v7 d7 H7 hd7 r7 e7 i7 => ?_⟩
      obtain ⟨m, rfl, hm1, hm4⟩ : ∃ m : Nat, d7 = .int (m : Nat) ∧ 1 ≤ m ∧ m ≤ 4 := by
        simp only [List.mem_cons, List.not_mem_nil, or_false] at hd7
        rcases hd7 with h | h | h | h | h | h | h
        · exact ⟨2, h, by decide, by decide⟩
        · exact ⟨3, h, by decide, by decide⟩
        · exact ⟨2, h, by decide, by decide⟩
        · exact ⟨1, h, by decide, by decide⟩
        · exact ⟨3, h, by decide, by decide⟩
        · exact ⟨2, h, by decide, by decide⟩
        · exact ⟨4, h, by decide, by decide⟩
      walk_at "sx"
      refine tup_end (K := K) w5 i7 (.cons (.str (T t)) (.cons r7 .nil)) (szOk (by simp)) fun v8 H8 e8 i8 r8 => ?_
      walk_at "sx"
      have hxl : xs2.length ≤ 20 := by rw [r3.length, List.length_map]; omega
      refine ⟨p2, xs2, v8, rfl, rfl, i8.2, Nat.lt_of_lt_of_le (show xs2.length < 100000 by omega) (by decide), ?_⟩
      obtain ⟨i9, e9⟩ := (hw.add p1 (.lst ((tk ++ fr.map (·.1) ++ [t]).map fun l => V.str (T l)))).put (o' := .lst (xs2 ++ [v8])) np2 i8
      have e39 := e34.trans (e45.trans (e6.trans (e7.trans (e8.trans e9))))
      refine ⟨fr ++ [(t, m)], xs2 ++ [v8], _, rfl, by simp [hfk], fun p hp => ?_, ?_, fun p hp => ?_, ?_, ?_, e3.trans e39⟩
      · rcases List.mem_append.mp hp with h | h
        · exact hok p h
        · rw [List.mem_singleton.mp h]; exact ⟨hm1, hm4, ht⟩
      · rw [List.map_append]
        refine List.nodup_append.mpr ⟨hnd, by simp, fun a ha c hc e => ?_⟩
        have hc : c = t := by simpa using hc
        rw [hc] at e
        exact hnt2 (List.mem_append.mpr (.inr (e ▸ ha)))
      · rcases List.mem_append.mp hp with h | h
        · exact hnt p h
        · rw [List.mem_singleton.mp h]; exact fun h2 => hnt2 (List.mem_append.mpr (.inl h2))
      · rw [show tk ++ (fr ++ [(t, m)]).map (·.1) = tk ++ fr.map (·.1) ++ [t] by simp]
        exact i9
      · rw [List.map_append]
        exact (r3.ex e39).append (.cons (r8.ex e9) .nil)
    · rintro σ H3 ⟨fr, xs2, u5, rfl, hfk, hok, hnd, hnt, i3, r3, e3⟩
      walk_at "sx"
      have e03 : Ex M H H3 := ((Ex.wide (p := p1) e1).trans ((e2.trans e3).shut hp2)).shut hp1
      exact q (.ref p2) fr H3 hfk hok hnd hnt e03 i3.1.1 (.lst i3.2 np2' (r3.le fun _ m => .inl (.inl m)))
end


/-! ### a drawn band -/
structure WorldOk (fr : List (List Nat × Nat)) (S X : List (List Nat)) (lim : Nat) : Prop where
  ok : FrOk fr
  nd : (fr.map (·.1)).Nodup
  l1 : 1 ≤ fr.length
  l2 : fr.length ≤ 6
  good : GoodS fr S
  s1 : S ≠ []
  s2 : S.length ≤ 8
  clo : CloA S fr.length lim X
theorem sg_mem {q v : Nat} (h : q < v) (hv : v ≤ 4) : 48 + q ∈ sgL v := by
  have : ∀ v : Fin 5, ∀ q : Fin 5, q.val < v.val → 48 + q.val ∈ sgL v.val := by decide
  exact this ⟨v, by omega⟩ ⟨q, by omega⟩ h
theorem sg_dot (v : Nat) : 46 ∈ sgL v := by unfold sgL; simp
theorem str_dig {q : Nat} (h : q < 4) : (toString ((q : Nat) : Int) : Str) = T [48 + q] := by
  match q, h with
  | 0, _ => decide +kernel
  | 1, _ => decide +kernel
  | 2, _ => decide +kernel
  | 3, _ => decide +kernel
theorem A2_get {α β : Type} {P : α → β → Prop} : ∀ {as : List α} {bs : List β} {k : Nat} {a : α} {b : β}, A2 P as bs → as[k]? = some a → bs[k]? = some b → P a b
  | _, _, 0, _, _, .cons h _, h1, h2 => by cases h1; cases h2; exact h
  | _, _, k + 1, _, _, .cons _ t, h1, h2 => A2_get t h1 h2
theorem row_A2 {fr : List (List Nat × Nat)} {cs : List Nat} (h : A2 (fun (p : List Nat × Nat) c => c ∈ sgL p.2) fr cs) : isRow fr cs = true := by
  refine isRow_D.mpr ⟨h.length, fun k hk => ?_⟩
  have hk2 : k < cs.length := by rw [h.length]; exact hk
  rw [List.getD_eq_getElem?_getD (l := cs), List.getElem?_eq_getElem hk2, List.getD_eq_getElem?_getD (l := fr), List.getElem?_eq_getElem hk]
  exact A2_get (P := fun (p : List Nat × Nat) c => c ∈ sgL p.2) h (List.getElem?_eq_getElem hk) (List.getElem?_eq_getElem hk2)
section
variable {P : Program} {w : World} {K : PySem.W.Frag} {mg : Str → Option Value} {base : Heap}
theorem gs_tup3 {H : Hp} {p : Addr} {x y z : V} {i j k : Nat} {G : L2.St → Hp → Prop} {σ : L2.St} (h : H p = some (.tup [x, y, z])) (q : G (((σ.set i (some x)).set j (some y)).set k (some z)) H) : gTup K 3 (gCons (gName i) (gCons (gName j) (gCons (gName k) gNil))) (.ref p) σ H G :=
  ⟨p, [x, y, z], rfl, SqT.of h, rfl, x, [y, z], rfl, y, [z], rfl, z, [], rfl, rfl, q⟩
def Few (fw lim : Nat) : Prop := ∀ (S F : List (List Nat)) (n : Nat), (∀ s ∈ S, s.length = n) → S.length ≤ fw → F.Nodup → (∀ r ∈ F, Cl S n r) → F.length ≤ lim
theorem few3 : Few 3 40 := fun S F n hS hl hF hc => few_seeds hS hl hF hc
def spBand (K : PySem.W.Frag) : Sp := fun vs H Q _ => ∃ (M : Addr → Prop) (I : Hp → Prop) (b : Addr) (x : V) (n lim fw : Nat) (tk : List (List Nat)), Wf M I ∧ I H ∧ HasBag M I b ∧ vs = [.ref b, .int (n : Nat), x, .int (lim : Nat), .int (fw : Nat)] ∧ Rep K M H x (.lst (tk.map eS)) ∧ 1 ≤ n ∧ n ≤ 6 ∧ tk.length ≤ 10 ∧ lim ≤ 40 ∧ 1 ≤ fw ∧ fw ≤ 10 ∧ Few fw lim ∧ ∀ v fr S X H', fr.length = n → WorldOk fr S X lim → (∀ p ∈ fr, p.1 ∉ tk) → Ex M H H' → I H' → Rep K M H' v (.lst [.lst (fr.map eC), .lst (S.map eS), .lst (X.map eS)]) → Q v H'
theorem row_lt' {fr : List (List Nat × Nat)} {r : List Nat} (h : isRow fr r = true) : ∀ c ∈ r, c < 128 := row_lt h
theorem ok_draw_band (B : Bl mg) (G1 : Df P w K mg base 2 "_law_closure" ["_law_size", "_law_given", "_law_limit"] [] (spClo K)) (G2 : Df P w K mg base 3 "_law_draw_cells" ["_law_bag", "_law_size", "_law_taken_here"] [] (spCells K)) (G3 : Df P w K mg base 2 "_law_pick" ["_law_bag", "_law_some"] [] (spOf K)) (G4 : Df P w K mg base 1 "_law_pull" ["_law_bag", "_law_many"] [] (spDraw K)) (G5 : Df P w K mg base 1 "_law_told_all" ["_law_given", "_law_filler", "_law_place"] [] (spToldA K)) :
    Bok P w K mg base 4 "_law_draw_band" s__law_draw_band ["_law_bag", "_law_size", "_law_taken_here", "_law_limit", "_law_few"] (spBand K) := by
  refine Bok.mk sc__law_draw_band (fun vs H Q E h => ?_) (fun f cdv A outer s H vs Q E hr h => ⟨_, w__law_draw_band B G1 G2 G3 G4 G5 hr, ?_⟩)
  · obtain ⟨M, I, b, x, n, lim, fw, tk, _, _, _, rfl, _⟩ := h
    rfl
  · obtain ⟨M, I, b, x, n, lim, fw, tk, hw, hI, hB, rfl, hx, hn1, hn6, htk, hlim, hfw1, hfw2, hfew, q⟩ := h
    unfold t__law_draw_band
    refine st_eq (σ' := [some (.ref b), some (.int (n : Nat)), some x, some (.int (lim : Nat)), some (.int (fw : Nat)), none, none, none, none, none, none, none, none, none, none, none]) rfl ?_
    walk_at "sx"
    refine ⟨M, I, b, x, n, tk, hw, hI, hB, rfl, hx, hn6, htk, fun vc fr H1 hfl hok hnd hnt e1 i1 rc => ?_⟩
    walk_at "sx"
    refine lc_src (as := fr) (enc := eC) hw i1 rc rfl (szOk (by omega)) (fun _ => rfl) (fun _ => true) (fun p d => ∃ q : Nat, q < p.2 ∧ d = .str (T [48 + q])) ?_ ?_ ?_
    · intro L acc k a v H4 hL nL ha rv wf hi ex Qt qt
      exact qt H4 hi (Ex.refl _)
    · intro L acc k a v H4 hL nL ha _ rv wf hi ex Qe qe
      obtain ⟨h1, h4, _⟩ := hok a (List.mem_of_getElem? ha)
      walk_at "sx"
      refine ix_R (n := 1) (e := .int (a.2 : Nat)) rv (.inr rfl) rfl fun v2 r2 => ?_
      cases rep_int r2
      walk_at "sx"
      refine ⟨_, _, b, _, wf, hi, hB.add nL, rfl, by omega, by omega, fun m H5 hm e5 i5 => ?_⟩
      walk_at "sx"
      refine ⟨_, rfl, ?_, ?_⟩
      · have : (((m : Nat) : Int).natAbs) ≤ 4 := by omega
        exact Nat.lt_of_le_of_lt (Nat.log2_le_self _) (by omega)
      rw [str_dig (by omega)]
      exact qe _ _ H5 ⟨m, by omega, rfl⟩ (.str _) i5 e5
    intro y1 ds1 H2 a2 r2 e2 i2
    rw [filter_tt] at a2
    obtain ⟨fl, rfl, afl⟩ := A2.ex (g := fun c : Nat => D.str (T [c])) (Q := fun (p : List Nat × Nat) c => ∃ q : Nat, q < p.2 ∧ c = 48 + q) (fun a b ⟨q, h1, h2⟩ => ⟨48 + q, h2, q, h1, rfl⟩) a2
    have hfll : fl.length = fr.length := afl.length
    have hflr : isRow fr fl = true := row_A2 (by
      have : ∀ {as : List (List Nat × Nat)} {bs : List Nat}, (∀ p ∈ as, p.2 ≤ 4) → A2 (fun (p : List Nat × Nat) c => ∃ q : Nat, q < p.2 ∧ c = 48 + q) as bs → A2 (fun (p : List Nat × Nat) c => c ∈ sgL p.2) as bs := by
        intro as bs h4 h
        induction h with
        | nil => exact .nil
        | cons h _ ih =>
          obtain ⟨q, h1, rfl⟩ := h
          exact .cons (sg_mem h1 (h4 _ List.mem_cons_self)) (ih fun p hp => h4 p (List.mem_cons_of_mem _ hp))
      exact this (fun p hp => (hok p hp).2.1) afl)
    have hfl46 : ∀ k, k < fr.length → fl.getD k 46 ≠ 46 := fun k hk => by
      have hk2 : k < fl.length := by omega
      obtain ⟨q, _, h⟩ := A2_get (P := fun (p : List Nat × Nat) c => ∃ q : Nat, q < p.2 ∧ c = 48 + q) afl (List.getElem?_eq_getElem hk) (List.getElem?_eq_getElem hk2)
      rw [List.getD_eq_getElem?_getD, List.getElem?_eq_getElem hk2]
      show fl[k] ≠ 46
      omega
    walk_at "sx"
    refine join_1 (fun c => c) r2 (by omega) ?_
    rw [List.map_id']
    walk_at "sx"
    refine ⟨M, I, b, _, hw, i2, hB, rfl, by omega, by omega, fun pl H3 hpl e3 i3 => ?_⟩
    walk_at "sx"
    refine tup_end (K := K) hw i3 (.cons (.int _) (.cons (.int _) (.cons (.int _) (.cons (.int _) (.cons (.int _) (.cons (.int _) .nil)))))) (szOk (by simp)) fun v4 H4 e4 i4 r4 => ?_
    walk_at "sx"
    refine ⟨M, I, b, v4, _, _, hw, i4, hB, rfl, r4, rfl, by simp, by simp, fun v5 d5 H5 hd5 r5 e5 i5 => ?_⟩
    obtain ⟨dt, rfl⟩ : ∃ m : Nat, d5 = .int (m : Nat) := by
      simp only [List.mem_cons, List.not_mem_nil, or_false] at hd5
      rcases hd5 with h | h | h | h | h | h
      · exact ⟨3, h⟩
      · exact ⟨2, h⟩
      · exact ⟨3, h⟩
      · exact ⟨4, h⟩
      · exact ⟨3, h⟩
      · exact ⟨1, h⟩
    cases rep_int r5
    walk_at "sx"
    refine lst_mut hw i5 (by decide) fun p H6 hp np e6 w6 i6 => ?_
    walk_at "sx"
    refine tup_raw w6 i6 (by show 3 ≤ sizeLine; decide) fun pt H7 _ hpt e7 i7 => ?_
    refine gs_tup3 hpt ?_
    dsimp only [List.set_cons_zero, List.set_cons_succ]
    have hBp : ∀ xs, HasBag (Mq M p) (Iq I p (.lst xs)) b := fun xs => hB.add np
    have hWp : ∀ xs, Wf (Mq M p) (Iq I p (.lst xs)) := fun xs => hw.add p _
    have e26 : Ex M H1 H5 := e2.trans (e3.trans (e4.trans e5))
    have rc7 : Rep K (Mq M p) H7 vc (.lst (fr.map eC)) := ((rc.ex e26).off hp).ex (e6.trans e7)
    have hx7 : Rep K (Mq M p) H7 x (.lst (tk.map eS)) := ((hx.ex (e1.trans e26)).off hp).ex (e6.trans e7)
    have e07 : Ex (Mq M p) H5 H7 := e6.trans e7
    clear r2 r4 r5 w6 e6 e7 hpt
    walk_at "sx"
    refine tup_end (K := K) (hWp _) i7 (.cons (.int _) (.cons (.int _) (.cons (.int _) (.cons (.int _) (.cons (.int _) (.cons (.int _) (.cons (.int _) (.cons (.int _) .nil)))))))) (szOk (by simp)) fun v8 H8 e8 i8 r8 => ?_
    walk_at "sx"
    refine ⟨_, _, b, v8, _, _, hWp _, i8, hBp _, rfl, r8, rfl, by simp, by simp, fun v9 d9 H9 hd9 r9 e9 i9 => ?_⟩
    obtain ⟨tn, rfl, ht1, ht8⟩ : ∃ m : Nat, d9 = .int (m : Nat) ∧ 1 ≤ m ∧ m ≤ 8 := by
      simp only [List.mem_cons, List.not_mem_nil, or_false] at hd9
      rcases hd9 with h | h | h | h | h | h | h | h
      · exact ⟨4, h, by decide, by decide⟩
      · exact ⟨5, h, by decide, by decide⟩
      · exact ⟨3, h, by decide, by decide⟩
      · exact ⟨5, h, by decide, by decide⟩
      · exact ⟨4, h, by decide, by decide⟩
      · exact ⟨2, h, by decide, by decide⟩
      · exact ⟨6, h, by decide, by decide⟩
      · exact ⟨1, h, by decide, by decide⟩
    cases rep_int r9
    walk_at "sx"
    refine ⟨_, rfl, by omega, by omega, ?_⟩
    rw [Int.toNat_natCast]
    have e79 := e8.trans e9
    refine for_rng (fun k σ H10 => ∃ (R : List (List Nat)) (u10 u11 : Option V), σ = [some (.ref b), some (.int (n : Nat)), some x, some (.int (lim : Nat)), some (.int (fw : Nat)), some vc, some (.str (T fl)), some (.int (pl : Nat)), some (.int (dt : Nat)), some (.ref p), u10, u11, none, none, none, none] ∧ R.length = k ∧ (∀ r ∈ R, isRow fr r = true) ∧ Iq I p (.lst (R.map fun l => V.str (T l))) H10 ∧ Ex (Mq M p) H9 H10)
      ⟨[], _, _, rfl, rfl, nofun, i9, Ex.refl _⟩ ?_ ?_
    · rintro k σ H10 hk ⟨R, u10, u11, rfl, hRk, hRr, i10, e10⟩
      have rc10 := rc7.ex (e79.trans e10)
      dsimp only [List.set_cons_zero, List.set_cons_succ]
      walk_at "sx"
      refine lc_src (as := fr) (enc := eC) (hWp _) i10 rc10 rfl (szOk (by omega)) (fun _ => rfl) (fun _ => true) (fun pr d => ∃ m : Nat, m < 5 * pr.2 ∧ d = .int (m : Nat)) ?_ ?_ ?_
      · intro L acc k a v H4 hL nL ha rv wf hi ex Qt qt
        exact qt H4 hi (Ex.refl _)
      · intro L acc k a v H4 hL nL ha _ rv wf hi ex Qe qe
        obtain ⟨h1, h4, _⟩ := hok a (List.mem_of_getElem? ha)
        walk_at "sx"
        refine ix_R (n := 1) (e := .int (a.2 : Nat)) rv (.inr rfl) rfl fun v2 r2 => ?_
        cases rep_int r2
        refine mul_r (by omega) ?_
        walk_at "sx"
        refine ⟨_, _, b, _, wf, hi, (hBp _).add nL, rfl, by omega, by omega, fun m H5 hm e5 i5 => ?_⟩
        exact qe _ _ H5 ⟨m, by omega, rfl⟩ (.int _) i5 e5
      intro y11 ds11 H11 a11 r11 e11 i11
      rw [filter_tt] at a11
      obtain ⟨ms, rfl, ams⟩ := A2.ex (g := fun m : Nat => D.int (m : Nat)) (Q := fun (pr : List Nat × Nat) (m : Nat) => m < 5 * pr.2) (fun a b ⟨q, h1, h2⟩ => ⟨q, h2, h1⟩) a11
      have hms : ms.length = fr.length := ams.length
      have hml : ∀ m ∈ ms, m < 20 := by
        have : ∀ {as : List (List Nat × Nat)} {bs : List Nat}, (∀ p ∈ as, p.2 ≤ 4) → A2 (fun (pr : List Nat × Nat) (m : Nat) => m < 5 * pr.2) as bs → ∀ m ∈ bs, m < 20 := by
          intro as bs h4 h
          induction h with
          | nil => exact nofun
          | cons h _ ih =>
            intro m hm
            rcases List.mem_cons.mp hm with rfl | hm
            · have := h4 _ List.mem_cons_self; omega
            · exact ih (fun p hp => h4 p (List.mem_cons_of_mem _ hp)) m hm
        exact this (fun p hp => (hok p hp).2.1) ams
      walk_at "sx"
      refine ⟨tyv_l i11.2, ?_⟩
      walk_at "sx"
      refine lc_srcM (K := K) (as := ms) (enc := fun m : Nat => D.int (m : Nat)) (fun m => .str (T [if m % 5 < dt then 46 else 48 + m / 5])) (hWp _) i11 r11 rfl (szOk (by omega)) (fun _ => rfl) ?_ ?_
      · intro L acc j m v H12 hL ha rv wf hi ex Qe qe
        have hm20 := hml m (List.mem_of_getElem? ha)
        cases rep_int rv
        walk_at "sx"
        refine mod_ii (by decide) ?_
        rw [show ((m : Nat) : Int) % 5 = ((m % 5 : Nat) : Int) by omega]
        walk_at "sx"
        refine ifB (fun h => ?_) (fun h => ?_)
        · have h2 : m % 5 < dt := by have := of_decide_eq_true h; omega
          walk_at "sx"
          rw [if_pos h2] at qe
          exact qe _ H12 (.str _) hi (Ex.refl _)
        · have h2 : ¬ m % 5 < dt := by have := of_decide_eq_false h; omega
          rw [if_neg h2] at qe
          walk_at "sx"
          refine div_ii ⟨by decide, by decide +kernel⟩ ?_
          rw [show ((m : Nat) : Int) / 5 = ((m / 5 : Nat) : Int) by omega]
          walk_at "sx"
          refine ⟨_, rfl, ?_, ?_⟩
          · have : (((m / 5 : Nat) : Int).natAbs) ≤ 4 := by omega
            exact Nat.lt_of_le_of_lt (Nat.log2_le_self _) (by omega)
          rw [str_dig (by omega)]
          exact qe _ H12 (.str _) hi (Ex.refl _)
      · intro y12 H12 r12 e12 i12
        walk_at "sx"
        refine join_1 (fun m => if m % 5 < dt then 46 else 48 + m / 5) r12 (by omega) ?_
        walk_at "sx"
        refine ⟨p, _, .str (T (ms.map fun m => if m % 5 < dt then 46 else 48 + m / 5)), rfl, rfl, i12.2, Nat.lt_of_lt_of_le (show (R.map fun l => V.str (T l)).length < 100000 by rw [List.length_map]; omega) (by decide), ?_⟩
        rw [map_snocS]
        obtain ⟨i13, e13⟩ := hw.put (o' := .lst ((R ++ [ms.map fun m => if m % 5 < dt then 46 else 48 + m / 5]).map fun l => V.str (T l))) np i12
        refine ⟨R ++ [ms.map fun m => if m % 5 < dt then 46 else 48 + m / 5], _, _, rfl, by simp [hRk], fun r hr => ?_, i13, e10.trans (e11.trans (e12.trans e13))⟩
        rcases List.mem_append.mp hr with h | h
        · exact hRr r h
        · rw [List.mem_singleton.mp h]
          have : ∀ {as : List (List Nat × Nat)} {bs : List Nat}, (∀ p ∈ as, p.2 ≤ 4) → A2 (fun (pr : List Nat × Nat) (m : Nat) => m < 5 * pr.2) as bs → A2 (fun (p : List Nat × Nat) c => c ∈ sgL p.2) as (bs.map fun m => if m % 5 < dt then 46 else 48 + m / 5) := by
            intro as bs h4 h
            induction h with
            | nil => exact .nil
            | cons h _ ih =>
              refine .cons ?_ (ih fun p hp => h4 p (List.mem_cons_of_mem _ hp))
              rename_i pr m _ _ _
              show (if m % 5 < dt then 46 else 48 + m / 5) ∈ sgL pr.2
              split
              · exact sg_dot _
              · exact sg_mem (by omega) (h4 _ List.mem_cons_self)
          exact row_A2 (this (fun p hp => (hok p hp).2.1) ams)
    · rintro σ H10 ⟨R, u10, u11, rfl, hRk, hRr, i10, e10⟩
      have rR : Rep K M H10 (.ref p) (.lst (R.map eS)) := .lst i10.2 np (reps_S R)
      have i10 := i10.1
      have e010 : Ex M H H10 := e1.trans (e26.trans ((e07.trans (e79.trans e10)).shut hp))
      have rcM : Rep K M H10 vc (.lst (fr.map eC)) := (rc7.ex (e79.trans e10)).le fun _ m => .inl m
      subst hfl
      have hne : R ≠ [] := fun h => by rw [h] at hRk; simp at hRk; omega
      have told : ∀ (R' : List (List Nat)), (∀ r ∈ R', isRow fr r = true) → R' ≠ [] → R'.length ≤ 8 → GoodS fr (toldF fl pl R') ∧ toldF fl pl R' ≠ [] ∧ (toldF fl pl R').length ≤ R'.length ∧ (∀ s ∈ toldF fl pl R', s.length = fr.length) ∧ ∀ s ∈ toldF fl pl R', ∀ c ∈ s, c < 128 := fun R' h1 h2 h3 => by
        obtain ⟨g1, g2, g3⟩ := told_ok (pl := pl) hflr hfl46 (by omega) h1 h2
        exact ⟨g1, g3, g2, fun s hs => isRow_len (g1.rw s hs).1, fun s hs => row_lt (g1.rw s hs).1⟩
      have done : ∀ {v12 v13 : V} {S X : List (List Nat)} {H12 : Hp}, GoodS fr S → S ≠ [] → S.length ≤ 8 → CloA S fr.length lim X → Rep K M H12 v12 (.lst (S.map eS)) → Rep K M H12 v13 (.lst (X.map eS)) → Ex M H10 H12 → I H12 → LstK Q [vc, v12, v13] H12 := fun {v12 v13 S X H12} g1 g2 g3 hX r12 r13 e i =>
        lst_end (K := K) hw i (.cons (rcM.ex e) (.cons r12 (.cons r13 .nil))) (szOk (by simp)) fun v H13 e13 i13 r13 => q v fr S X H13 rfl ⟨hok, hnd, hn1, hn6, g1, g2, g3, hX⟩ hnt ((e010.trans e).trans e13) i13 r13
      obtain ⟨g1, g2, g3, g4, g5⟩ := told R hRr hne (by omega)
      walk_at "sx"
      refine ⟨M, I, .ref p, R, fl, pl, hw, i10, rfl, rR, hne, by omega, by omega, by omega, fun r hr => by rw [isRow_len (hRr r hr)]; omega, fun v11 H11 e11 i11 r11 => ?_⟩
      walk_at "sx"
      refine ⟨M, I, v11, _, fr.length, lim, hw, i11, rfl, r11, by omega, g4, g5, by omega, hlim, fun H12 F nd hc hlt e12 i12 => ?_, fun v13 X H12 hX r13 e12 i12 => ?_⟩
      · walk_at "sx"
        refine ifIsT (by simp) ?_
        walk_at "sx"
        refine sl_Lto hw i12 (rR.ex (e11.trans e12)) fun v14 H14 e14 i14 r14 => ?_
        rw [← List.map_take] at r14
        have hRt : ∀ r ∈ R.take fw, isRow fr r = true := fun r hr => hRr r (List.mem_of_mem_take hr)
        have hne2 : R.take fw ≠ [] := fun h => by
          rcases List.take_eq_nil_iff.mp h with h | h
          · omega
          · exact hne h
        have hl2 : (R.take fw).length ≤ fw := by rw [List.length_take]; omega
        obtain ⟨k1, k2, k3, k4, k5⟩ := told (R.take fw) hRt hne2 (by rw [List.length_take]; omega)
        have e1014 := e11.trans (e12.trans e14)
        walk_at "sx"
        refine ⟨M, I, v14, R.take fw, fl, pl, hw, i14, rfl, r14, hne2, by omega, by omega, by omega, fun r hr => by rw [isRow_len (hRt r hr)]; omega, fun v15 H15 e15 i15 r15 => ?_⟩
        walk_at "sx"
        refine ⟨M, I, v15, _, fr.length, lim, hw, i15, rfl, r15, by omega, k4, k5, by omega, hlim, fun H16 F nd hc hlt e16 i16 => ?_, fun v16 X H16 hX r16 e16 i16 => ?_⟩
        · exact absurd (hfew _ F fr.length k4 (by omega) nd hc) (by omega)
        · walk_at "sx"
          exact done k1 k2 (by rw [List.length_take] at k3; omega) hX (r15.ex e16) r16 (e1014.trans (e15.trans e16)) i16
      · have hnn : decide (v13 = .non) = false := decide_eq_false fun e => by subst e; cases r13
        walk_at "sx"
        refine ifIsF hnn ?_
        walk_at "sx"
        exact done g1 g2 (by omega) hX (r11.ex e12) r13 (e11.trans e12) i12
def spWorld (K : PySem.W.Frag) : Sp := fun vs H Q _ => ∃ (M : Addr → Prop) (I : Hp → Prop) (b : Addr), Wf M I ∧ I H ∧ HasBag M I b ∧ vs = [.ref b] ∧ ∀ v fr S X H', WorldOk fr S X 40 → Ex M H H' → I H' → Rep K M H' v (.lst [.lst (fr.map eC), .lst (S.map eS), .lst (X.map eS)]) → Q v H'
theorem ok_draw_world (B : Bl mg) (G1 : Df P w K mg base 4 "_law_draw_band" ["_law_bag", "_law_size", "_law_taken_here", "_law_limit", "_law_few"] [] (spBand K)) (G2 : Df P w K mg base 2 "_law_pick" ["_law_bag", "_law_some"] [] (spOf K)) : Bok P w K mg base 5 "_law_draw_world" s__law_draw_world ["_law_bag"] (spWorld K) := by
  refine Bok.mk sc__law_draw_world (fun vs H Q E h => ?_) (fun f cdv A outer s H vs Q E hr h => ⟨_, w__law_draw_world B G1 G2 hr, ?_⟩)
  · obtain ⟨M, I, b, _, _, _, rfl, _⟩ := h
    rfl
  · obtain ⟨M, I, b, hw, hI, hB, rfl, q⟩ := h
    unfold t__law_draw_world
    refine st_eq (σ' := [some (.ref b)]) rfl ?_
    walk_at "sx"
    refine tup_end (K := K) hw hI (.cons (.int _) (.cons (.int _) (.cons (.int _) (.cons (.int _) (.cons (.int _) (.cons (.int _) (.cons (.int _) (.cons (.int _) (.cons (.int _) (.cons (.int _) .nil)))))))))) (szOk (by simp)) fun v1 H1 e1 i1 r1 => ?_
    walk_at "sx"
    refine ⟨M, I, b, v1, _, _, hw, i1, hB, rfl, r1, rfl, by simp, by simp, fun v2 d2 H2 hd2 r2 e2 i2 => ?_⟩
    obtain ⟨n, rfl, hn1, hn6⟩ : ∃ m : Nat, d2 = .int (m : Nat) ∧ 1 ≤ m ∧ m ≤ 6 := by
      simp only [List.mem_cons, List.not_mem_nil, or_false] at hd2
      rcases hd2 with h | h | h | h | h | h | h | h | h | h
      · exact ⟨4, h, by decide, by decide⟩
      · exact ⟨3, h, by decide, by decide⟩
      · exact ⟨5, h, by decide, by decide⟩
      · exact ⟨4, h, by decide, by decide⟩
      · exact ⟨2, h, by decide, by decide⟩
      · exact ⟨3, h, by decide, by decide⟩
      · exact ⟨5, h, by decide, by decide⟩
      · exact ⟨6, h, by decide, by decide⟩
      · exact ⟨4, h, by decide, by decide⟩
      · exact ⟨1, h, by decide, by decide⟩
    cases rep_int r2
    walk_at "sx"
    refine lst_end (K := K) (M := M) (I := I) (ds := []) hw i2 .nil (szOk (by simp)) fun v3 H3 e3 i3 r3 => ?_
    walk_at "sx"
    exact ⟨M, I, b, v3, n, 40, 3, [], hw, i3, hB, rfl, r3, hn1, hn6, by simp, by decide, by decide, by decide, few3, fun v fr S X H4 _ ok _ e4 i4 r4 => q v fr S X H4 ok (e1.trans (e2.trans (e3.trans e4))) i4 r4⟩
end


section
variable {P : Program} {w : World} {K : PySem.W.Frag} {mg : Str → Option Value} {base : Heap}
theorem list_RN {M : Addr → Prop} {I : Hp → Prop} {Q : VK} {x : V} {H : Hp} {d : D} {ds : List D} (hw : Wf M I) (hI : I H) (hx : Rep K M H x d) (hd : d = .lst ds ∨ d = .tup ds) (q : ∀ L H', H L = none → Ex M H H' → I H' → Rep K M H' (.ref L) (.lst ds) → Q (.ref L) H') : rList1 K [x] H Q := by
  have key : ∀ {p : Addr} {xs : List V}, Reps K M H xs ds → H p = none → Q (.ref p) (upd H p (.lst xs)) := fun {p xs} r hp => by
    have e := same_upd (o := .lst xs) hp
    exact q _ _ hp (Ex.of e) (hw.same e hI) (.lst upd_same (hw.fresh hI hp) (r.same e))
  rcases hd with rfl | rfl
  · cases hx with
    | lst h n r => exact .inl ⟨_, _, rfl, .inl (SqL.of h), fun p hp => key r hp⟩
  · cases hx with
    | tup h n r => exact .inl ⟨_, _, rfl, .inr (SqT.of h), fun p hp => key r hp⟩
/-- a band of these cells, seeds and rows -/
def BandOk (K : PySem.W.Frag) (M : Addr → Prop) (H : Hp) (v : V) (fr : List (List Nat × Nat)) (S Y : List (List Nat)) : Prop := ∃ R, R.Perm Y ∧ Ob K M H v "Band" (bandD fr S Y R)
theorem BandOk.ex {M : Addr → Prop} {H H' : Hp} {v : V} {fr : List (List Nat × Nat)} {S Y : List (List Nat)} (e : Ex M H H') (h : BandOk K M H v fr S Y) : BandOk K M H' v fr S Y := by
  obtain ⟨R, hp, h⟩ := h
  exact ⟨R, hp, h.ex e⟩
theorem BandOk.off {M : Addr → Prop} {H : Hp} {v : V} {fr : List (List Nat × Nat)} {S Y : List (List Nat)} {q : Addr} (e : H q = none) (h : BandOk K M H v fr S Y) : BandOk K (Mq M q) H v fr S Y := by
  obtain ⟨R, hp, h⟩ := h
  exact ⟨R, hp, h.off e⟩
theorem dct_key {M : Addr → Prop} {H : Hp} {u : V} {R : List (List Nat)} (h : Rep K M H u (.dct (R.map fun r => ((.inr (T r) : Key), D.bl true)))) : ∃ a, u = .ref a ∧ H a = some (.dK (R.map keyT)) := by
  cases h with
  | @dct a kvs _ h n k r =>
    refine ⟨a, rfl, ?_⟩
    have e : kvs = R.map keyT := by
      clear h n
      induction R generalizing kvs with
      | nil =>
        cases kvs with
        | nil => rfl
        | cons x l => simp at k
      | cons x R ih =>
        cases kvs with
        | nil => simp at k
        | cons y l =>
          obtain ⟨y1, y2⟩ := y
          simp only [List.map_cons, List.cons.injEq] at k
          simp only [List.map_cons] at r
          cases r with
          | cons r1 r2 =>
            cases r1
            rw [ih k.2 r2]
            simp only [List.map_cons, keyT]
            rw [k.1]
    rw [← e]
    exact h
theorem seeds_L {M : Addr → Prop} {H : Hp} {x : V} {S : List (List Nat)} (h : Rep K M H x (.lst (S.map eS))) : Seeds K M H x S := ⟨_, h, .inl rfl⟩
def spBRows (K : PySem.W.Frag) : Sp := fun vs H Q _ => ∃ (M : Addr → Prop) (I : Hp → Prop) (x : V) (fr : List (List Nat × Nat)) (S Y : List (List Nat)), Wf M I ∧ I H ∧ vs = [x] ∧ BandOk K M H x fr S Y ∧ ∀ y H', Ex M H H' → I H' → Rep K M H' y (.lst (Y.map eS)) → Q y H'
theorem ok_Band_rows (B : Bl mg) (CB : ClsF K "Band" fl_Band) (F : AtM K "Band" "rows" "Band.rows" s_Band_rows ["self"] []) : DfM P w K mg base 1 "Band" "rows" ["self"] [] (spBRows K) := by
  refine F.df sc_Band_rows (fun vs H Q E h => ?_) (fun f cdv A outer s H vs Q E hr h => ⟨_, w_Band_rows B CB hr, ?_⟩)
  · obtain ⟨M, I, x, fr, S, Y, _, _, rfl, _⟩ := h
    rfl
  · obtain ⟨M, I, x, fr, S, Y, hw, hI, rfl, ⟨R, hp, hx⟩, q⟩ := h
    unfold t_Band_rows
    walk_at "sx"
    with_reducible refine sx_fld ?_
    walk_at "sx"
    refine Ob.fld (f := "row_list") hx CB (by decide) rfl fun u r => ?_
    walk_at "sx"
    refine list_R hw hI r (.inl rfl) fun v H' e i r' => ?_
    exact q v H' e i r'
def spBLots (K : PySem.W.Frag) : Sp := fun vs H Q _ => ∃ (M : Addr → Prop) (I : Hp → Prop) (x : V) (fr : List (List Nat × Nat)) (S Y : List (List Nat)), Wf M I ∧ I H ∧ vs = [x] ∧ BandOk K M H x fr S Y ∧ ∀ p H', H p = none → Ex M H H' → I H' → Rep K M H' (.ref p) (.lst ((ordF gC (Y.map lot)).map eS)) → Q (.ref p) H'
theorem ok_Band_lots (B : Bl mg) (CB : ClsF K "Band" fl_Band) (F : AtM K "Band" "lots" "Band.lots" s_Band_lots ["self"] []) : DfM P w K mg base 1 "Band" "lots" ["self"] [] (spBLots K) := by
  refine F.df sc_Band_lots (fun vs H Q E h => ?_) (fun f cdv A outer s H vs Q E hr h => ⟨_, w_Band_lots B CB hr, ?_⟩)
  · obtain ⟨M, I, x, fr, S, Y, _, _, rfl, _⟩ := h
    rfl
  · obtain ⟨M, I, x, fr, S, Y, hw, hI, rfl, ⟨R, hp, hx⟩, q⟩ := h
    unfold t_Band_lots
    walk_at "sx"
    with_reducible refine sx_fld ?_
    walk_at "sx"
    refine Ob.fld (f := "lot_list") hx CB (by decide) rfl fun u r => ?_
    walk_at "sx"
    refine list_RN hw hI r (.inl rfl) fun p H' hp e i r' => ?_
    exact q p H' hp e i r'
theorem look_none : ∀ {l : List (Str × D)} {m : Str}, m ∉ l.map (·.1) → l.lookup m = none
  | [], _, _ => rfl
  | (a, d) :: l, m, h => by
    have h1 : (m == a) = false := by
      simp only [List.map_cons, List.mem_cons, not_or] at h
      simpa using h.1
    simp only [List.lookup, h1]
    exact look_none fun hm => h (List.mem_cons_of_mem _ hm)
theorem BandOk.meth {M : Addr → Prop} {H : Hp} {x : V} {fr : List (List Nat × Nat)} {S Y : List (List Nat)} {m : Str} (h : BandOk K M H x fr S Y) (hm : m ∉ fl_Band) {Z : Prop} (q : Z) : ∃ a dx fs, x = V.ref a ∧ H a = some (.ins (He.ga K "Band") dx fs) ∧ fs.lookup m = none ∧ Z := by
  obtain ⟨R, _, ho⟩ := h
  exact Ob.meth ho (look_none hm) q
theorem BandOk.own {M : Addr → Prop} {H : Hp} {x : V} {fr : List (List Nat × Nat)} {S Y : List (List Nat)} (h : BandOk K M H x fr S Y) : ∃ a dx fs, x = V.ref a ∧ H a = some (.ins (He.ga K "Band") dx fs) := by
  obtain ⟨R, _, a, dx, fs, e, _, ha, _⟩ := h
  exact ⟨a, dx, fs, e, ha⟩
end


/-! ### lots and masks -/
section
variable {P : Program} {w : World} {K : PySem.W.Frag} {mg : Str → Option Value} {base : Heap}
theorem ok_llot (B : Bl mg) : Bok P w K mg base 1 "_law_lot" s__law_lot ["_law_row"] (spLot K) := by
  refine Bok.mk sc__law_lot (fun vs H Q E h => ?_) (fun f cdv A outer s H vs Q E hr h => ⟨_, w__law_lot B hr, ?_⟩)
  · obtain ⟨M, I, l, _, _, rfl, _⟩ := h
    rfl
  · obtain ⟨M, I, l, hw, hI, rfl, hl, q⟩ := h
    unfold t__law_lot
    walk_at "sx"
    refine lc_srcM (as := l) (enc := H48.e1) (fun c => .str (T [if c = 46 then 46 else 43])) hw hI (.str _) rfl (by walk_at "sz") (fun _ => rfl) ?_ ?_
    · intro L acc k a v H hL ha rv wf hi ex Qe q
      cases rep_str rv
      walk_at "sx"
      refine ifB (fun h => ?_) (fun h => ?_) <;> walk_at "sx"
      · exact q _ _ (by simp at h; simp [h]; exact .str _) hi (Ex.refl _)
      · exact q _ _ (by simp at h; simp [h]; exact .str _) hi (Ex.refl _)
    · intro y H' rp ex hi
      walk_at "sx"
      exact join_1 _ rp (by omega) (q _ ex hi)
def spInW (K : PySem.W.Frag) : Sp := fun vs H Q _ => ∃ M I l m, Wf M I ∧ I H ∧ vs = [.str (T l), .str (T m)] ∧ l.length ≤ 1000 ∧ ∀ H', Ex M H H' → I H' → Q (.bl (inB l m)) H'
theorem ok_lwithin (B : Bl mg) : Bok P w K mg base 1 "_law_within" s__law_within ["_law_one", "_law_other"] (spInW K) := by
  refine Bok.mk sc__law_within (fun vs H Q E h => ?_) (fun f cdv A outer s H vs Q E hr h => ⟨_, w__law_within B hr, ?_⟩)
  · obtain ⟨M, I, l, m, _, _, rfl, _⟩ := h
    rfl
  · obtain ⟨M, I, l, m, hw, hI, rfl, hl, q⟩ := h
    unfold t__law_within
    walk_at "sx"
    refine lc_zipM (as := l) (bs := m) (enc := H48.e1) (enc2 := H48.e1) (fun p => .bl (decide (p.1 = 46) || decide (p.2 = 43))) hw hI (.str _) rfl (.str _) rfl (by walk_at "sz") (fun _ _ => rfl) ?_ ?_
    · intro L acc k a b v u H hL ha hb rv rw wf hi ex Qe q
      cases rep_str rv
      cases rep_str rw
      walk_at "sx"
      refine ifB (fun h => ?_) (fun h => ?_)
      · refine q _ _ (?_ : Rep K _ _ _ _) hi (Ex.refl _)
        (try rw [dec1] at h)
        rw [h, Bool.true_or]
        exact .bl _
      · walk_at "sx"
        refine q _ _ (?_ : Rep K _ _ _ _) hi (Ex.refl _)
        (try rw [dec1] at h)
        rw [h, Bool.false_or]
        (try rw [dec1])
        exact .bl _
    · intro y H' rp ex hi
      walk_at "sx"
      refine all_M (as := l.zip m) (fun p : Nat × Nat => decide (p.1 = 46) || decide (p.2 = 43)) rp ?_
      exact q H' ex hi
theorem ok_lunion (B : Bl mg) : Bok P w K mg base 1 "_law_union" s__law_union ["_law_one", "_law_other"] (spUni K) := by
  refine Bok.mk sc__law_union (fun vs H Q E h => ?_) (fun f cdv A outer s H vs Q E hr h => ⟨_, w__law_union B hr, ?_⟩)
  · obtain ⟨M, I, l, m, _, _, rfl, _⟩ := h
    rfl
  · obtain ⟨M, I, l, m, hw, hI, rfl, hl, q⟩ := h
    unfold t__law_union
    walk_at "sx"
    refine lc_zipM (as := l) (bs := m) (enc := H48.e1) (enc2 := H48.e1) (fun p => .str (T [if 43 = p.1 ∨ 43 = p.2 then 43 else 46])) hw hI (.str _) rfl (.str _) rfl (by walk_at "sz") (fun _ _ => rfl) ?_ ?_
    · intro L acc k a b v u H hL ha hb rv rw wf hi ex Qe q
      cases rep_str rv
      cases rep_str rw
      walk_at "sx"
      refine tup_end (K := K) wf hi (.cons (.str _) (.cons (.str _) .nil)) (szOk (by simp)) fun v1 H1 ex1 i1 r1 => ?_
      refine in_L (ls := [[a], [b]]) r1 (.inr rfl) ?_
      walk_at "sx"
      refine ifB (fun h => ?_) (fun h => ?_) <;> walk_at "sx"
      · exact q _ _ (by simp at h; simp [h]; exact .str _) i1 ex1
      · exact q _ _ (by simp at h; simp [h]; exact .str _) i1 ex1
    · intro y H' rp ex hi
      exact join_1 _ rp (by simp; omega) (q _ ex hi)
def spNumb (K : PySem.W.Frag) : Sp := fun vs H Q _ => ∃ i : Int, vs = [.int i] ∧ Q (.bl true) H
theorem ok_number (B : Bl mg) : Bok P w K mg base 1 "_law_number" s__law_number ["_law_value"] (spNumb K) := by
  refine Bok.mk sc__law_number (fun vs H Q E h => ?_) (fun f cdv A outer s H vs Q E hr h => ⟨_, w__law_number B hr, ?_⟩)
  · obtain ⟨i, rfl, _⟩ := h
    rfl
  · obtain ⟨i, rfl, q⟩ := h
    unfold t__law_number
    walk_at "sx"
    refine kit_same (t := "int") (b := true) (.base (.int i)) (by decide +kernel) ?_
    refine ex_b ?_
    refine ifIsT rfl ?_
    walk_at "sx"
    refine kit_same (t := "int") (b := false) (.base (.int i)) (by decide +kernel) ?_
    walk_at "sx"
    exact q
end


/-! ### some of the things, in a drawn order -/
section
variable {K : PySem.W.Frag} {M : Addr → Prop} {I : Hp → Prop} {H : Hp}
theorem list_RM {x : V} {d : D} {ds : List D} {Q : VK} (hw : Wf M I) (hI : I H) (hx : Rep K M H x d) (hd : d = .lst ds ∨ d = .tup ds) (q : ∀ p xs H', H p = none → ¬ M p → Ex (Mq M p) H H' → Iq I p (.lst xs) H' → Reps K M H xs ds → Q (.ref p) H') : rList1 K [x] H Q := by
  have key : ∀ {p : Addr} {xs : List V}, Reps K M H xs ds → H p = none → Q (.ref p) (upd H p (.lst xs)) := fun {p xs} r hp => by
    have e := same_upd (o := .lst xs) hp
    exact q p xs _ hp (hw.fresh hI hp) (Ex.of e) ⟨hw.same e hI, upd_same⟩ r
  rcases hd with rfl | rfl
  · cases hx with
    | lst h n r => exact .inl ⟨_, _, rfl, .inl (SqL.of h), fun p hp => key r hp⟩
  · cases hx with
    | tup h n r => exact .inl ⟨_, _, rfl, .inr (SqT.of h), fun p hp => key r hp⟩
theorem popAt_mut {p : Addr} {xs : List V} {k : Nat} {y : V} {Q : VK} (hw : Wf M I) (hp : ¬ M p) (hI : Iq I p (.lst xs) H) (hk : xs[k]? = some y) (hl : xs.length ≤ 1000000) (q : ∀ H', Ex (Mq M p) H H' → Iq I p (.lst (xs.eraseIdx k)) H' → Q y H') : rPopAt (.ref p) [.int (k : Nat)] H Q := by
  have hkl := (List.getElem?_eq_some_iff.mp hk).1
  refine ⟨p, xs, _, k, y, rfl, rfl, hI.2, by omega, by omega, ?_, hk, ?_⟩
  · unfold seqIndex?
    simp only [show ¬ ((k : Nat) : Int) < 0 by omega, if_false]
    rw [if_pos (by simp; omega)]
    simp
  · obtain ⟨i, e⟩ := hw.put (o' := .lst (xs.eraseIdx k)) hp hI
    exact q _ e i
theorem Reps.erase {K : PySem.W.Frag} {M : Addr → Prop} {H : Hp} : ∀ {xs : List V} {ds : List D} (k : Nat), Reps K M H xs ds → Reps K M H (xs.eraseIdx k) (ds.eraseIdx k)
  | _, _, _, .nil => .nil
  | _, _, 0, .cons _ r2 => r2
  | _, _, k + 1, .cons r1 r2 => .cons r1 (Reps.erase k r2)
theorem Reps.at {K : PySem.W.Frag} {M : Addr → Prop} {H : Hp} : ∀ {xs : List V} {ds : List D} {k : Nat}, Reps K M H xs ds → k < ds.length → ∃ v d, xs[k]? = some v ∧ ds[k]? = some d ∧ Rep K M H v d
  | _, _, _, .nil, h => by simp at h
  | _, _, 0, .cons r1 _, _ => ⟨_, _, rfl, rfl, r1⟩
  | _, _, k + 1, .cons _ r2, h => Reps.at (k := k) r2 (by simpa using h)
theorem perm_pop {α : Type} {l : List α} {k : Nat} {a : α} (h : l[k]? = some a) : (a :: l.eraseIdx k).Perm l := by
  obtain ⟨hk, rfl⟩ := List.getElem?_eq_some_iff.mp h
  have e : l.eraseIdx k = l.take k ++ l.drop (k + 1) := List.eraseIdx_eq_take_drop_succ ..
  rw [e]
  have e2 : l = l.take k ++ l[k] :: l.drop (k + 1) := by rw [List.getElem_cons_drop, List.take_append_drop]
  conv => rhs; rw [e2]
  exact List.perm_middle.symm
end
section
variable {P : Program} {w : World} {K : PySem.W.Frag} {mg : Str → Option Value} {base : Heap}
def spTak (K : PySem.W.Frag) : Sp := fun vs H Q _ => ∃ (M : Addr → Prop) (I : Hp → Prop) (b : Addr) (x : V) (d : D) (ds : List D) (n : Nat), Wf M I ∧ I H ∧ HasBag M I b ∧ vs = [.ref b, x, .int (n : Nat)] ∧ Rep K M H x d ∧ (d = .lst ds ∨ d = .tup ds) ∧ ds.length ≤ 1000 ∧ n ≤ 1000 ∧ (∀ e ∈ ds, Flat e) ∧
  ∀ p es rest H', H p = none → (es ++ rest).Perm ds → (rest = [] ∨ es.length = n) → es.length ≤ n → Ex M H H' → I H' → Rep K M H' (.ref p) (.lst es) → Q (.ref p) H'
theorem ok_taken (B : Bl mg) (G : Df P w K mg base 1 "_law_pull" ["_law_bag", "_law_many"] [] (spDraw K)) : Bok P w K mg base 2 "_law_taken" s__law_taken ["_law_bag", "_law_some", "_law_many"] (spTak K) := by
  refine Bok.mk sc__law_taken (fun vs H Q E h => ?_) (fun f cdv A outer s H vs Q E hr h => ⟨_, w__law_taken B G hr, ?_⟩)
  · obtain ⟨M, I, b, x, d, ds, n, _, _, _, rfl, _⟩ := h
    rfl
  · obtain ⟨M, I, b, x, d, ds, n, hw, hI, hB, rfl, hx, hd, hl, hn, hfl, q⟩ := h
    unfold t__law_taken
    refine st_eq (σ' := [some (.ref b), some x, some (.int (n : Nat)), none, none, none]) rfl ?_
    walk_at "sx"
    refine list_RM hw hI hx hd fun p xs H1 hp np e1 i1 rx => ?_
    have hW1 : ∀ ys, Wf (Mq M p) (Iq I p (.lst ys)) := fun ys => hw.add p _
    walk_at "sx"
    refine lst_mut (hW1 _) i1 (by decide) fun p2 H2 hp2 np2 e2 w2 i2 => ?_
    refine ⟨_, _, rfl, ?_⟩
    dsimp only [List.set_cons_zero, List.set_cons_succ]
    have npp : p ≠ p2 := fun e => np2 (e ▸ .inr rfl)
    have nM2 : ¬ M p2 := fun m => np2 (.inl m)
    clear w2
    walk_at "sx"
    refine ⟨_, rfl, by omega, by omega, ?_⟩
    rw [Int.toNat_natCast]
    have rx2 : Reps K (Mq (Mq M p) p2) H2 xs ds := (((rx.off hp).ex e1).off hp2).ex e2
    refine for_rng (fun k σ H3 => ∃ (u5 : Option V) (xs ys : List V) (rest es : List D), σ = [some (.ref b), some x, some (.int (n : Nat)), some (.ref p), some (.ref p2), u5] ∧ Reps K (Mq (Mq M p) p2) H3 xs rest ∧ Reps K (Mq (Mq M p) p2) H3 ys es ∧ Iq (Iq I p (.lst xs)) p2 (.lst ys) H3 ∧ Ex (Mq (Mq M p) p2) H2 H3 ∧ (es ++ rest).Perm ds ∧ (rest = [] ∨ es.length = k) ∧ es.length ≤ k)
      ⟨_, xs, [], ds, [], rfl, rx2, .nil, i2, Ex.refl _, by rw [List.nil_append], .inr rfl, by simp⟩ ?_ ?_
    · rintro k σ H3 hk ⟨u5, xs, ys, rest, es, rfl, rxs, rys, i3, e3, hperm, hor, hle⟩
      walk_at "sx"
      have hW2 : ∀ xs ys, Wf (Mq (Mq M p) p2) (Iq (Iq I p (.lst xs)) p2 (.lst ys)) := fun xs ys => (hW1 xs).add p2 _
      have r3 : Rep K M H3 (.ref p) (.lst rest) := .lst i3.1.2 np (rxs.le fun _ m => .inl (.inl m))
      refine lst_end (K := K) (ds := []) (hW2 _ _) i3 .nil (szOk (by simp)) fun v4 H4 e4 i4 r4 => ?_
      have hps : ∀ e ∈ rest, e ∈ ds := fun e he => hperm.mem_iff.mp (List.mem_append.mpr (.inr he))
      have hlen : es.length + rest.length = ds.length := by rw [← List.length_append]; exact hperm.length_eq
      have r34 : Rep K M H4 (.ref p) (.lst rest) := .lst i4.1.2 np ((rxs.ex e4).le fun _ m => .inl (.inl m))
      refine ne_L0 r34 (r4.le fun _ m => .inl (.inl m)) (fun e he => hfl e (hps e he)) ?_
      walk_at "sx"
      refine ifB (fun h => ?_) (fun h => ?_)
      · have hne : 0 < rest.length := by
          cases rest with
          | nil => cases h
          | cons a l => simp
        walk_at "sx"
        refine ⟨tyv_l i4.2, ?_⟩
        walk_at "sx"
        refine ⟨tyv_l i4.1.2, ?_⟩
        walk_at "sx"
        refine len_R r34 (.inl rfl) ?_
        walk_at "sx"
        refine ⟨_, _, b, _, hW2 _ _, i4, (hB.add np).add np2, rfl, by omega, by omega, fun m H5 hm e5 i5 => ?_⟩
        walk_at "sx"
        have hm2 : m < rest.length := by omega
        obtain ⟨v, e, hv, he, rv⟩ := Reps.at (k := m) (rxs.ex (e4.trans e5)) hm2
        have hxl : xs.length ≤ 1000 := by rw [rxs.length]; omega
        have hsw : ∀ {xs ys : List V} {H : Hp}, Iq (Iq I p (.lst xs)) p2 (.lst ys) H → Iq (Iq I p2 (.lst ys)) p (.lst xs) H := fun h => ⟨⟨h.1.1, h.2⟩, h.1.2⟩
        have hsw2 : ∀ {xs ys : List V} {H : Hp}, Iq (Iq I p2 (.lst ys)) p (.lst xs) H → Iq (Iq I p (.lst xs)) p2 (.lst ys) H := fun h => ⟨⟨h.1.1, h.2⟩, h.1.2⟩
        have esw : ∀ {H H' : Hp}, Ex (Mq (Mq M p2) p) H H' → Ex (Mq (Mq M p) p2) H H' := fun e a o n h => e a o (fun m => n (by
          rcases m with (m | m) | m
          · exact .inl (.inl m)
          · exact .inr m
          · exact .inl (.inr m))) h
        refine popAt_mut (hw.add p2 (.lst ys)) (fun m => m.elim np npp) (hsw i5) hv (by omega) fun H6 e6 i6 => ?_
        have i6 := hsw2 i6
        have e6 := esw e6
        have hyl : ys.length ≤ 1000 := by rw [rys.length]; omega
        refine ⟨p2, ys, v, rfl, rfl, i6.2, Nat.lt_of_lt_of_le (show ys.length < 100000 by omega) (by decide), ?_⟩
        obtain ⟨i7, e7⟩ := (hW1 (xs.eraseIdx m)).put (o' := .lst (ys ++ [v])) np2 i6
        have e47 := (e4.trans (e5.trans e6)).trans e7
        have eE : Ex (Mq (Mq M p) p2) H5 _ := e6.trans e7
        have hpp := perm_pop he
        refine ⟨_, xs.eraseIdx m, ys ++ [v], rest.eraseIdx m, es ++ [e], rfl, Reps.erase m (rxs.ex e47), (rys.ex e47).append (.cons (rv.ex eE) .nil), i7, e3.trans e47, ?_, .inr ?_, by simp; omega⟩
        · rw [List.append_assoc]
          exact (List.Perm.append_left es hpp).trans hperm
        · rw [List.length_append]
          rcases hor with h | h
          · rw [h] at hne; simp at hne
          · simp [h]
      · have hne : rest = [] := by
          cases rest with
          | nil => rfl
          | cons a l => cases h
        walk_at "sx"
        exact ⟨_, xs, ys, rest, es, rfl, rxs.ex e4, rys.ex e4, i4, e3.trans e4, hperm, .inl hne, by omega⟩
    · rintro σ H3 ⟨u5, xs, ys, rest, es, rfl, rxs, rys, i3, e3, hperm, hor, hle⟩
      walk_at "sx"
      refine q p2 es rest H3 ?_ hperm hor hle ?_ i3.1.1 ?_
      · cases hz : H p2 with
        | none => rfl
        | some o => exact absurd (e1 p2 o (fun m => m.elim nM2 fun e => npp e.symm) hz) (by rw [hp2]; exact nofun)
      · exact (e1.trans ((e2.trans e3).shut hp2)).shut hp
      · exact .lst i3.2 nM2 (rys.le fun _ m => .inl (.inl m))
end


/-! ### the lots of some rows, in order -/
section
variable {P : Program} {w : World} {K : PySem.W.Frag} {mg : Str → Option Value} {base : Heap}
def eQ (l : List Nat) : D := .tup [.int (gC l), .str (T l)]
def ltQ (a b : List Nat) : Bool := decide (gC a < gC b ∨ gC a = gC b ∧ a < b)
theorem stoQ : StO ltQ where
  irr a := decide_eq_false fun h => by
    rcases h with h | h
    · omega
    · exact List.lt_irrefl a h.2
  tra a b c h1 h2 := by
    have h1 := of_decide_eq_true h1
    have h2 := of_decide_eq_true h2
    refine decide_eq_true ?_
    rcases h1 with h1 | h1 <;> rcases h2 with h2 | h2
    · exact .inl (by omega)
    · exact .inl (by omega)
    · exact .inl (by omega)
    · exact .inr ⟨by omega, List.lt_trans h1.2 h2.2⟩
  tot a b h := by
    unfold ltQ
    rcases Int.lt_trichotomy (gC a) (gC b) with h1 | h1 | h1
    · exact .inl (decide_eq_true (.inl h1))
    · rcases stoS.tot a b h with h2 | h2
      · exact .inl (decide_eq_true (.inr ⟨h1, of_decide_eq_true h2⟩))
      · exact .inr (decide_eq_true (.inr ⟨h1.symm, of_decide_eq_true h2⟩))
    · exact .inr (decide_eq_true (.inl h1))
theorem eqv_Q (a b : List Nat) : PyData.eqv (pyD (eQ a)) (pyD (eQ b)) = decide (a = b) := by
  show PyData.eqv (.tuple [.int (gC a), .str (T a)]) (.tuple [.int (gC b), .str (T b)]) = _
  rw [Bool.eq_iff_iff]
  simp only [PyData.eqv, PyData.eqvAll, Bool.and_eq_true, beq_iff_eq, decide_eq_true_eq]
  constructor
  · intro h
    exact T_inj (by simpa using h.2)
  · intro h
    subst h
    simp
theorem ordQ {as : List (List Nat)} (h : ∀ a ∈ as, ∀ c ∈ a, c < 128) : OrdE eQ ltQ as where
  ok a ha := by
    show eqOk 3 (.tup [.int (gC a), .str (T a)]) = true
    simp only [eqOk, eqAll, Bool.and_true, Bool.true_and]
    exact ok_T (h a ha)
  nn a _ := nofun
  al a _ b _ := by
    show PySem.W.alike (.tuple [.int (gC a), .str (T a)]) (.tuple [.int (gC b), .str (T b)]) = true
    simp [PySem.W.alike, PySem.W.alikeAll]
  eq a _ b _ := eqv_Q a b
  le a _ b _ := by
    show PySem.W.dataLt (.tuple [.int (gC a), .str (T a)]) (.tuple [.int (gC b), .str (T b)]) = decide _
    rw [PySem.W.dataLt_pair (by simp [PySem.W.alike]) (by simp [PySem.W.alike]), PySem.W.dataLt_int, PySem.W.dataLt_str]
    simp only [PyData.eqv, beq_iff_eq]
    rw [T_cps, T_cps]
    by_cases h1 : gC a = gC b
    · rw [if_pos h1]
      by_cases hT : T a = T b
      · rw [if_pos hT]
        have := T_inj hT
        subst this
        exact (stoQ.irr a).symm
      · rw [if_neg hT]
        refine decide_eq_decide.mpr ?_
        constructor
        · intro h; exact .inr ⟨h1, h⟩
        · intro h
          rcases h with h | h
          · omega
          · exact h.2
    · rw [if_neg h1]
      refine decide_eq_decide.mpr ?_
      constructor
      · intro h; exact .inl h
      · intro h
        rcases h with h | h
        · exact h
        · exact absurd h.1 h1
theorem ordO_F (L : List (List Nat)) : ordO ltQ L = ordF gC L := by
  obtain ⟨h1, h2⟩ := ordO_ok stoQ L
  refine sort_two (g := gC) (h1.imp fun {a b} h => ?_) (ordF_pw _ _) (h1.imp fun {a b} h e => ?_) (ordF_nd _ _) fun r => by rw [h2, ordF_mem]
  · rcases of_decide_eq_true h with h | h
    · exact .inl h
    · exact .inr ⟨h.1, fun h3 => List.lt_irrefl a (List.lt_trans h.2 h3)⟩
  · subst e
    rw [stoQ.irr] at h
    cases h
def spLotsOf (K : PySem.W.Frag) : Sp := fun vs H Q _ => ∃ (M : Addr → Prop) (I : Hp → Prop) (x : V) (X : List (List Nat)), Wf M I ∧ I H ∧ vs = [x] ∧ Rep K M H x (.lst (X.map eS)) ∧ X.length ≤ 1000 ∧ (∀ r ∈ X, r.length ≤ 1000) ∧ ∀ v H', Ex M H H' → I H' → Rep K M H' v (.lst ((ordF gC (X.map lot)).map eS)) → Q v H'
theorem ok_lots_of (B : Bl mg) (G1 : Df P w K mg base 1 "_law_lot" ["_law_row"] [] (spLot K)) (G2 : Df P w K mg base 1 "_law_ordered" ["_law_some"] [] (spOrdr K)) : Bok P w K mg base 2 "_law_lots_of" s__law_lots_of ["_law_some"] (spLotsOf K) := by
  refine Bok.mk sc__law_lots_of (fun vs H Q E h => ?_) (fun f cdv A outer s H vs Q E hr h => ⟨_, w__law_lots_of B G1 G2 hr, ?_⟩)
  · obtain ⟨M, I, x, X, _, _, rfl, _⟩ := h
    rfl
  · obtain ⟨M, I, x, X, hw, hI, rfl, hx, hXl, hX, q⟩ := h
    unfold t__law_lots_of
    refine st_eq (σ' := [some x, none, none, none]) rfl ?_
    walk_at "sx"
    refine lc_srcM (as := X) (enc := eS) (fun r => eQ (lot r)) hw hI hx rfl (szOk (by omega)) (fun _ => rfl) ?_ ?_
    · intro L acc k r v H1 hL ha rv wf hi ex Qe qe
      cases rep_str rv
      have hr := hX r (List.mem_of_getElem? ha)
      walk_at "sx"
      refine ⟨_, _, r, wf, hi, rfl, hr, fun H2 e2 i2 => ?_⟩
      walk_at "sx"
      refine ⟨_, _, rfl, rfl, ?_⟩
      walk_at "sx"
      refine ⟨_, _, r, wf, i2, rfl, hr, fun H3 e3 i3 => ?_⟩
      walk_at "sx"
      refine tup_end (K := K) wf i3 (.cons (.int _) (.cons (.str _) .nil)) (szOk (by simp)) fun v4 H4 e4 i4 r4 => ?_
      exact qe v4 H4 r4 i4 (e2.trans (e3.trans e4))
    · intro y1 H1 r1 e1 i1
      rw [show (X.map fun r => eQ (lot r)) = (X.map lot).map eQ by rw [List.map_map]; rfl] at r1
      walk_at "sx"
      refine ⟨M, I, y1, _, List Nat, (inferInstance : DecidableEq (List Nat)), eQ, ltQ, X.map lot, hw, i1, rfl, r1, rfl, by rw [List.length_map]; exact hXl, ordQ fun a ha => ?_, fun p H2 hp e2 i2 r2 => ?_⟩
      · obtain ⟨r, _, rfl⟩ := List.mem_map.mp ha
        exact (lotS_lot r).lt
      rw [ordO_F] at r2
      walk_at "sx"
      have hl2 : (ordF gC (X.map lot)).length ≤ 1000 := by
        have := ordF_len gC (X.map lot)
        rw [List.length_map] at this
        omega
      refine lc_srcM (as := ordF gC (X.map lot)) (enc := eQ) eS hw i2 r2 rfl (szOk (by omega)) (fun _ => rfl) ?_ ?_
      · intro L acc k l v H3 hL ha rv wf hi ex Qe qe
        walk_at "sx"
        refine ix_R (n := 1) (e := eS l) rv (.inr rfl) rfl fun v2 r2 => ?_
        exact qe _ H3 r2 hi (Ex.refl _)
      · intro y3 H3 r3 e3 i3
        walk_at "sx"
        exact q y3 H3 (e1.trans (e2.trans e3)) i3 r3
end


/-! ### masks, and sums upward -/
theorem and2 (a b x y : Int) (hx : x = 0 ∨ x = 1) (hy : y = 0 ∨ y = 1) : Builtin.bitAnd (2 * a + x) (2 * b + y) = 2 * Builtin.bitAnd a b + x * y := by
  rw [PySem.W.kbt_halves]
  have h1 : (2 * a + x) / 2 = a := by omega
  have h2 : (2 * b + y) / 2 = b := by omega
  rw [h1, h2]
  rcases hx with rfl | rfl <;> rcases hy with rfl | rfl
  · rw [if_neg (by omega)]; omega
  · rw [if_neg (by omega)]; omega
  · rw [if_neg (by omega)]; omega
  · rw [if_pos (by omega)]; omega
theorem and8a (a b x2 x1 x0 y2 y1 y0 : Int) (h2 : x2 = 0 ∨ x2 = 1) (h1 : x1 = 0 ∨ x1 = 1) (h0 : x0 = 0 ∨ x0 = 1) (g2 : y2 = 0 ∨ y2 = 1) (g1 : y1 = 0 ∨ y1 = 1) (g0 : y0 = 0 ∨ y0 = 1) :
    Builtin.bitAnd (2 * (2 * (2 * a + x2) + x1) + x0) (2 * (2 * (2 * b + y2) + y1) + y0) = 2 * (2 * (2 * Builtin.bitAnd a b + x2 * y2) + x1 * y1) + x0 * y0 := by
  rw [and2 _ _ _ _ h0 g0, and2 _ _ _ _ h1 g1, and2 _ _ _ _ h2 g2]
theorem bits8 {x : Int} (h : 0 ≤ x ∧ x < 8) : ∃ x2 x1 x0 : Int, (x2 = 0 ∨ x2 = 1) ∧ (x1 = 0 ∨ x1 = 1) ∧ (x0 = 0 ∨ x0 = 1) ∧ x = 2 * (2 * (2 * 0 + x2) + x1) + x0 :=
  ⟨x / 4, x / 2 % 2, x % 2, by omega, by omega, by omega, by omega⟩
theorem and00 : Builtin.bitAnd 0 0 = 0 := by decide
theorem and8 {a b x y : Int} (hx : 0 ≤ x ∧ x < 8) (hy : 0 ≤ y ∧ y < 8) : Builtin.bitAnd (a * 8 + x) (b * 8 + y) = Builtin.bitAnd a b * 8 + Builtin.bitAnd x y := by
  obtain ⟨x2, x1, x0, h2, h1, h0, ex⟩ := bits8 hx
  obtain ⟨y2, y1, y0, g2, g1, g0, ey⟩ := bits8 hy
  have e1 : a * 8 + x = 2 * (2 * (2 * a + x2) + x1) + x0 := by omega
  have e2 : b * 8 + y = 2 * (2 * (2 * b + y2) + y1) + y0 := by omega
  rw [e1, e2, and8a _ _ _ _ _ _ _ _ h2 h1 h0 g2 g1 g0]
  rw [ex, ey, and8a _ _ _ _ _ _ _ _ h2 h1 h0 g2 g1 g0, and00]
  generalize x2 * y2 = p
  generalize x1 * y1 = q
  generalize x0 * y0 = s
  omega
def val8 (a : Int) (l : List Nat) : Int := l.foldl (fun (a : Int) (d : Nat) => a * 8 + d) a
theorem val8_cons (a : Int) (d : Nat) (l : List Nat) : val8 a (d :: l) = val8 (a * 8 + d) l := rfl
theorem val8_inj : ∀ {l m : List Nat} {a b : Int}, l.length = m.length → (∀ d ∈ l, d < 8) → (∀ d ∈ m, d < 8) → val8 a l = val8 b m → a = b ∧ l = m
  | [], [], a, b, _, _, _, h => ⟨h, rfl⟩
  | [], _ :: _, _, _, hl, _, _, _ => by simp at hl
  | _ :: _, [], _, _, hl, _, _, _ => by simp at hl
  | c :: l, d :: m, a, b, hl, h1, h2, h => by
    have hc := h1 c List.mem_cons_self
    have hd := h2 d List.mem_cons_self
    obtain ⟨e1, e2⟩ := val8_inj (l := l) (m := m) (by simpa using hl) (fun e he => h1 e (List.mem_cons_of_mem _ he)) (fun e he => h2 e (List.mem_cons_of_mem _ he)) h
    have e4 : a * 8 + (c : Int) = b * 8 + (d : Int) := e1
    have e3 : a = b ∧ c = d := by omega
    exact ⟨e3.1, by rw [e3.2, e2]⟩
theorem val8_snoc (a : Int) (l : List Nat) (d : Nat) : val8 a (l ++ [d]) = val8 a l * 8 + d := by
  unfold val8
  rw [List.foldl_append]
  rfl
def mk (c : Nat) : Nat := if c = 46 then 0 else 7
def bo (c d : Nat) : Nat := if c ≠ 46 ∧ d ≠ 46 then 7 else 0
theorem mk_lt (c : Nat) : mk c < 8 := by unfold mk; split <;> omega
theorem bo_lt (c d : Nat) : bo c d < 8 := by unfold bo; split <;> omega
theorem bo_step (c d : Nat) : Builtin.bitAnd ((mk c : Nat) : Int) ((mk d : Nat) : Int) = ((bo c d : Nat) : Int) := by
  unfold mk bo
  by_cases h1 : c = 46 <;> by_cases h2 : d = 46 <;> simp [h1, h2] <;> decide
theorem and_val : ∀ {s t : List Nat} {a b : Int}, s.length = t.length → Builtin.bitAnd (val8 a (s.map mk)) (val8 b (t.map mk)) = val8 (Builtin.bitAnd a b) (List.zipWith bo s t)
  | [], [], a, b, _ => rfl
  | [], _ :: _, _, _, h => by simp at h
  | _ :: _, [], _, _, h => by simp at h
  | c :: s, d :: t, a, b, h => by
    have h1 := mk_lt c
    have h2 := mk_lt d
    rw [List.map_cons, List.map_cons, List.zipWith_cons_cons, val8_cons, val8_cons, val8_cons, and_val (s := s) (t := t) (by simpa using h), and8 (by omega) (by omega), bo_step]
abbrev maskV (l : List Nat) : Int := val8 0 (l.map mk)
theorem bo_in : ∀ {s t : List Nat}, s.length = t.length → LotS s → (List.zipWith bo s t = t.map mk ↔ inB t s = true)
  | [], [], _, _ => by simp [inB]
  | [], _ :: _, h, _ => by simp at h
  | _ :: _, [], h, _ => by simp at h
  | c :: s, d :: t, h, hs => by
    have ih := bo_in (s := s) (t := t) (by simpa using h) fun c hc => hs c (List.mem_cons_of_mem _ hc)
    have hc := hs c List.mem_cons_self
    have hd : bo c d = mk d ↔ (d = 46 ∨ c = 43) := by
      unfold bo mk
      by_cases h1 : d = 46
      · simp [h1]
      · rcases hc with rfl | rfl <;> simp [h1]
    show (bo c d :: List.zipWith bo s t = mk d :: t.map mk) ↔ ((decide (d = 46) || decide (c = 43)) && inB t s) = true
    rw [List.cons.injEq, ih, hd]
    simp
theorem zw_lt : ∀ {s t : List Nat}, ∀ d ∈ List.zipWith bo s t, d < 8
  | [], _, d, h => by simp at h
  | _ :: _, [], d, h => by simp at h
  | c :: s, e :: t, d, h => by
    rw [List.zipWith_cons_cons] at h
    rcases List.mem_cons.mp h with rfl | h
    · exact bo_lt _ _
    · exact zw_lt d h
theorem mask_in {s t : List Nat} (h : s.length = t.length) (hs : LotS s) : decide (Builtin.bitAnd (maskV s) (maskV t) = maskV t) = inB t s := by
  rw [Bool.eq_iff_iff, decide_eq_true_eq, ← bo_in h hs, and_val h, and00]
  constructor
  · intro e
    refine (val8_inj (by simp [h]) (fun d hd => ?_) (fun d hd => ?_) e).2
    · exact zw_lt d hd
    · obtain ⟨c, _, rfl⟩ := List.mem_map.mp hd
      exact mk_lt c
  · intro e
    rw [e]
/-- the numbers whose sums upward are given -/
def upF (sm : List Nat → Int) : List (List Nat) → List (List Nat × Int)
  | [] => []
  | l :: B => (l, sm l - (((upF sm B).filter fun p => inB l p.1).map (·.2)).sum) :: upF sm B
theorem upF_fst {sm : List Nat → Int} : ∀ {L : List (List Nat)}, (upF sm L).map (·.1) = L
  | [] => rfl
  | l :: B => by
    show l :: (upF sm B).map (·.1) = l :: B
    rw [upF_fst]
theorem upF_app {sm : List Nat → Int} : ∀ {A B : List (List Nat)}, ∃ Z, upF sm (A ++ B) = Z ++ upF sm B ∧ Z.map (·.1) = A
  | [], B => ⟨[], rfl, rfl⟩
  | a :: A, B => by
    obtain ⟨Z, h1, h2⟩ := upF_app (sm := sm) (A := A) (B := B)
    refine ⟨(a, sm a - (((upF sm (A ++ B)).filter fun p => inB a p.1).map (·.2)).sum) :: Z, ?_, ?_⟩
    · exact congrArg (List.cons (a, sm a - (((upF sm (A ++ B)).filter fun p => inB a p.1).map (·.2)).sum)) h1
    · rw [List.map_cons, h2]
section
variable {P : Program} {w : World} {K : PySem.W.Frag} {mg : Str → Option Value} {base : Heap}
def spMask (K : PySem.W.Frag) : Sp := fun vs H Q _ => ∃ l, vs = [.str (T l)] ∧ l.length ≤ 1000 ∧ Q (.int (maskV l)) H
theorem ok_mask_of (B : Bl mg) (F : At K mg "mask_of" s_mask_of ["row"] []) : Df P w K mg base 1 "mask_of" ["row"] [] (spMask K) := by
  refine F.df sc_mask_of (fun vs H Q E h => ?_) (fun f cdv A outer s H vs Q E hr h => ⟨_, w_mask_of B hr, ?_⟩)
  · obtain ⟨l, rfl, _⟩ := h
    rfl
  · obtain ⟨l, rfl, hl, q⟩ := h
    unfold t_mask_of
    walk_at "sx"
    refine for_src (K := K) (M := M0) (as := l) (enc := H48.e1) (.str _) rfl (fun k σ H1 => H1 = H ∧ ∃ u, σ = [some (.str (T l)), some (.int (maskV (l.take k))), u])
      ⟨rfl, _, rfl⟩ (fun k σ H1 h => by obtain ⟨rfl, _⟩ := h; exact Ex.refl _) ?_ ?_
    · rintro k c v σ H1 ha ⟨rfl, u, rfl⟩ rv
      cases rep_str rv
      have et : maskV (l.take (k + 1)) = maskV (l.take k) * 8 + mk c := by
        show val8 0 ((l.take (k + 1)).map mk) = _
        rw [take_snoc ha, List.map_append]
        exact val8_snoc _ _ _
      rw [et]
      generalize maskV (l.take k) = a
      walk_at "sx"
      refine mul_r (by decide) ?_
      walk_at "sx"
      refine ifB (fun h => ?_) (fun h => ?_)
      · have h : ¬ c = 46 := by simpa using h
        walk_at "sx"
        refine ⟨rfl, some (.str (T [c])), ?_⟩
        have e : a * 8 + 7 = a * 8 + ((mk c : Nat) : Int) := by
          unfold mk
          rw [if_neg h]
          rfl
        rw [e]
        all_goals rfl
      · have h : c = 46 := by simpa using h
        walk_at "sx"
        subst h
        refine ⟨rfl, some (.str (T [46])), ?_⟩
        have e : a * 8 + ((mk 46 : Nat) : Int) = a * 8 := by show a * 8 + 0 = _; omega
        rw [e]
        all_goals rfl
    · rintro σ H1 ⟨rfl, u, rfl⟩
      rw [List.take_length]
      walk_at "sx"
      exact q
end


/-! ### parts of sums -/
abbrev upK (us : List (List Nat × Int)) : List (Key × V) := us.map fun p => ((.inr (T p.1) : Key), V.int p.2)
def getU : List (List Nat × Int) → List Nat → Int
  | [], _ => 0
  | p :: us, l => if p.1 = l then p.2 else getU us l
theorem up_val {l : List Nat} : ∀ {us : List (List Nat × Int)}, l ∈ us.map (·.1) → valV (upK us) (.inr (T l)) = some (.int (getU us l))
  | [], h => by simp at h
  | p :: us, h => by
    have ih := up_val (l := l) (us := us)
    unfold valV at ih ⊢
    show (List.find? _ (((.inr (T p.1) : Key), V.int p.2) :: upK us)).map _ = _
    rw [List.find?_cons]
    by_cases e : p.1 = l
    · subst e
      simp [getU]
    · have h2 : ¬ T p.1 = T l := fun h => e (T_inj h)
      simp only [Sum.inr.injEq, h2, decide_false]
      rcases List.mem_cons.mp h with h | h
      · exact absurd h.symm e
      · rw [ih h, getU, if_neg e]
theorem up_put {l : List Nat} {n : Int} {us : List (List Nat × Int)} (h : l ∉ us.map (·.1)) : putK (upK us) (.inr (T l)) (.int n) = upK (us ++ [(l, n)]) := by
  have h2 : ((upK us).any fun kv => decide (kv.1 = (Sum.inr (T l) : Key))) = false := by
    rw [List.any_eq_false]
    intro kv hkv
    obtain ⟨a, ha, rfl⟩ := List.mem_map.mp hkv
    simp only [decide_eq_true_eq, Sum.inr.injEq]
    intro e
    exact h (by rw [← T_inj e]; exact List.mem_map_of_mem ha)
  unfold putK
  rw [if_neg (by rw [h2]; exact Bool.false_ne_true)]
  show _ = (us ++ [(l, n)]).map _
  rw [List.map_append]
  rfl
theorem getU_mem : ∀ {us : List (List Nat × Int)}, (us.map (·.1)).Nodup → ∀ p ∈ us, getU us p.1 = p.2
  | [], _, p, h => by cases h
  | q :: us, hn, p, h => by
    rw [List.map_cons, List.nodup_cons] at hn
    rcases List.mem_cons.mp h with rfl | h
    · simp [getU]
    · have : ¬ q.1 = p.1 := fun e => hn.1 (e ▸ List.mem_map_of_mem h)
      rw [getU, if_neg this]
      exact getU_mem hn.2 p h
theorem up_all {us : List (List Nat × Int)} {L : List (List Nat)} (h : us.map (·.1) = L) (hn : L.Nodup) : (L.map fun l => ((.inr (T l) : Key), V.int (getU us l))) = upK us := by
  subst h
  rw [List.map_map]
  refine List.map_congr_left fun p hp => ?_
  show ((.inr (T p.1) : Key), V.int (getU us p.1)) = _
  rw [getU_mem hn p hp]
theorem getU_rev {us : List (List Nat × Int)} (hn : (us.map (·.1)).Nodup) {l : List Nat} (h : l ∈ us.map (·.1)) : getU us.reverse l = getU us l := by
  obtain ⟨p, hp, rfl⟩ := List.mem_map.mp h
  rw [getU_mem hn p hp, getU_mem (us := us.reverse) (by rw [List.map_reverse]; exact (List.reverse_perm _).nodup_iff.mpr hn) p (List.mem_reverse.mpr hp)]
theorem sum_perm {l m : List Int} (h : l.Perm m) : l.sum = m.sum := by
  induction h with
  | nil => rfl
  | cons a _ ih => rw [List.sum_cons, List.sum_cons, ih]
  | swap a b l => simp only [List.sum_cons]; omega
  | trans _ _ h1 h2 => rw [h1, h2]
/-- sums go upward: what is behind is not within what is ahead -/
def UpO (L : List (List Nat)) : Prop := L.Pairwise fun a b => ¬ inB b a = true
theorem up_sum {sm : List Nat → Int} {A B : List (List Nat)} {l : List Nat} (h : UpO (A ++ l :: B)) (hl : inB l l = true) : (((upF sm (A ++ l :: B)).filter fun p => inB l p.1).map (·.2)).sum = sm l := by
  obtain ⟨Z, h1, h2⟩ := upF_app (sm := sm) (A := A) (B := l :: B)
  have hz : (Z.filter fun p => inB l p.1) = [] := by
    rw [List.filter_eq_nil_iff]
    intro p hp
    have : p.1 ∈ A := h2 ▸ List.mem_map_of_mem hp
    exact (List.pairwise_append.mp h).2.2 _ this _ List.mem_cons_self
  rw [h1, List.filter_append, hz, List.nil_append]
  show (((((l, sm l - (((upF sm B).filter fun p => inB l p.1).map (·.2)).sum) :: upF sm B).filter fun p => inB l p.1)).map (·.2)).sum = sm l
  rw [List.filter_cons_of_pos (by exact hl), List.map_cons, List.sum_cons]
  omega
section
variable {K : PySem.W.Frag} {M : Addr → Prop} {I : Hp → Prop} {H : Hp}
theorem ints_ofZ {xs : List V} {l : List Int} (h : Reps K M H xs (l.map fun i => D.int i)) : xs = l.map V.int := Reps.scal_inv (f := V.int) (g := fun i => D.int i) (fun a v h => rep_int h) h
theorem sum_Z {l : List Int} {y : V} {Q : VK} (h : Rep K M H y (.lst (l.map fun i => D.int i))) (q : Q (.int l.sum) H) : rSum K [y] H Q := by
  cases h with
  | lst h n r => exact ⟨_, l, rfl, SqL.of (by rw [← ints_ofZ r]; exact h), q⟩
theorem dnew_mut {σ : L2.St} {Q : VK} (hw : Wf M I) (hI : I H) (q : ∀ p H', H p = none → ¬ M p → Ex (Mq M p) H H' → Iq I p (.dK []) H' → Q (.ref p) H') : tDNewK σ H Q := fun p hp => q p _ hp (hw.fresh hI hp) (Ex.of (same_upd hp)) ⟨hw.same (same_upd hp) hI, upd_same⟩
theorem for_revS {α : Type} {enc : α → D} {as : List α} {i : Nat} {x : V} {tb : TS} {E : Ends} {σ : L2.St} (hx : Rep K M H x (.lst (as.map enc))) (Pv : Nat → L2.St → Hp → Prop) (h0 : Pv 0 σ H) (hG : ∀ k σ H', Pv k σ H' → Ex M H H')
    (hs : ∀ k a v σ H', as.reverse[k]? = some a → Pv k σ H' → Rep K M H' v (enc a) → tb { E with nx := Pv (k + 1), ct := Pv (k + 1), bk := E.nx } (σ.set i (some v)) H') (hq : ∀ σ H', Pv as.length σ H' → E.nx σ H') : ∃ (a : Addr) (xs : List V), [x] = [.ref a] ∧ SqL K H a xs ∧ ForR (gName i) tb E σ (Itv K a xs.length) H := by
  cases hx with
  | @lst a xs _ h n r =>
    have hl : xs.length = as.length := by rw [r.length, List.length_map]
    refine ⟨a, xs, rfl, SqL.of h, ?_⟩
    have w := walk_rev (K := K) (a := a) (xs := xs)
    refine for_it w Pv h0 (fun k σ H' _ h' => SqL.of (hG k σ H' h' a _ n h)) (fun k x σ H1 H' hk h' y => ?_) fun σ H' h' => hq σ H' (hl ▸ h')
    obtain ⟨rfl, e2⟩ := y
    have hk2 : k < as.length := by omega
    have ha : as[as.length - 1 - k]? = some as[as.length - 1 - k] := by simp [show as.length - 1 - k < as.length by omega]
    obtain ⟨v, hv, rv⟩ := r.get (k := as.length - 1 - k) (d := enc as[as.length - 1 - k]) (by rw [List.getElem?_map, ha]; rfl)
    rw [hl, hv] at e2
    cases e2
    refine hs k as[as.length - 1 - k] _ σ _ ?_ h' (rv.ex (hG _ _ _ h'))
    rw [List.getElem?_reverse hk2, ha]
end


/-! ### parts of sums, walked -/
section
variable {P : Program} {w : World} {K : PySem.W.Frag} {mg : Str → Option Value} {base : Heap}
theorem nd_keys {L : List (List Nat)} {f : List Nat → D} (h : L.Nodup) : (L.map ((fun kv : Key × D => kv.1) ∘ fun l => ((.inr (T l) : Key), f l))).Nodup := by
  induction L with
  | nil => simp
  | cons a L ih =>
    rw [List.nodup_cons] at h
    rw [List.map_cons, List.nodup_cons]
    refine ⟨fun hm => ?_, ih h.2⟩
    obtain ⟨b, hb, e⟩ := List.mem_map.mp hm
    have e : (Sum.inr (T b) : Key) = Sum.inr (T a) := e
    exact h.1 (T_inj (Sum.inr.inj e) ▸ hb)
theorem sx_irev {ta : TA} {σ : L2.St} {H : Hp} {R : It → Hp → Prop} (h : ta σ H fun vs H1 => ∃ (a : Addr) (xs : List V), vs = [.ref a] ∧ SqL K H1 a xs ∧ R (Itv K a xs.length) H1) : iRev K ta σ H R := h
def eM (p : List Nat × Int) : D := .tup [.int (maskV p.1), .int p.2]
def lotsF (Y : List (List Nat)) : List (List Nat) := ordF gC (Y.map lot)
theorem lotsF_S {Y : List (List Nat)} : ∀ l ∈ lotsF Y, LotS l := fun l hl => by
  obtain ⟨r, _, rfl⟩ := List.mem_map.mp (ordF_mem.mp hl)
  exact lotS_lot r
theorem lotsF_len {Y : List (List Nat)} {n : Nat} (h : ∀ r ∈ Y, r.length = n) : ∀ l ∈ lotsF Y, l.length = n := fun l hl => by
  obtain ⟨r, hr, rfl⟩ := List.mem_map.mp (ordF_mem.mp hl)
  rw [lot_len]
  exact h r hr
theorem lotsF_few {Y : List (List Nat)} : (lotsF Y).length ≤ Y.length := by
  have := ordF_len gC (Y.map lot)
  rw [List.length_map] at this
  exact this
def spParts (K : PySem.W.Frag) : Sp := fun vs H Q _ => ∃ (M : Addr → Prop) (I : Hp → Prop) (x y : V) (fr : List (List Nat × Nat)) (S Y : List (List Nat)) (sm : List Nat → Int), Wf M I ∧ I H ∧ vs = [x, y] ∧ BandOk K M H x fr S Y ∧ Rep K M H y (.dct ((lotsF Y).map fun l => ((.inr (T l) : Key), D.int (sm l)))) ∧ Y.length ≤ 1000 ∧ (∀ r ∈ Y, r.length = fr.length) ∧ fr.length ≤ 1000 ∧
  ∀ D H', H D = none → ¬ M D → H' D = some (.dK (upK (upF sm (lotsF Y)))) → Ex M H H' → I H' → Q (.ref D) H'
theorem ok_parts (B : Bl mg) (CB : ClsF K "Band" fl_Band) (G1 : DfM P w K mg base 1 "Band" "lots" ["self"] [] (spBLots K)) (G2 : Df P w K mg base 1 "mask_of" ["row"] [] (spMask K)) (F : At K mg "parts_of_sums" s_parts_of_sums ["band", "sums"] []) : Df P w K mg base 2 "parts_of_sums" ["band", "sums"] [] (spParts K) := by
  refine F.df sc_parts_of_sums (fun vs H Q E h => ?_) (fun f cdv A outer s H vs Q E hr h => ⟨_, w_parts_of_sums B CB G1 G2 hr, ?_⟩)
  · obtain ⟨M, I, x, y, fr, S, Y, sm, _, _, rfl, _⟩ := h
    rfl
  · obtain ⟨M, I, x, y, fr, S, Y, sm, hw, hI, rfl, hx, hy, hYl, hYn, hfl, q⟩ := h
    unfold t_parts_of_sums
    refine st_eq (σ' := [some x, some y, none, none, none, none, none, none, none]) rfl ?_
    have hLl : (lotsF Y).length ≤ 1000 := Nat.le_trans lotsF_few hYl
    have hLn : (lotsF Y).Nodup := ordF_nd _ _
    have hLs := lotsF_S (Y := Y)
    have hLL := lotsF_len hYn
    generalize hL : lotsF Y = L at *
    walk_at "sx"
    refine dnew_mut hw hI fun D H1 hD nD e1 i1 => ?_
    have hW1 : ∀ o, Wf (Mq M D) (Iq I D o) := fun o => hw.add D o
    walk_at "sx"
    refine lst_mut (hW1 _) i1 (by decide) fun p H2 hp np e2 w2 i2 => ?_
    clear w2
    have hW2 : ∀ o xs, Wf (Mq (Mq M D) p) (Iq (Iq I D o) p (.lst xs)) := fun o xs => (hW1 o).add p _
    have nDp : D ≠ p := fun e => np (e ▸ .inr rfl)
    have nMp : ¬ M p := fun m => np (.inl m)
    have hx2 : BandOk K (Mq (Mq M D) p) H2 x fr S Y := (((hx.off hD).ex e1).off hp).ex e2
    have hy2 : Rep K (Mq (Mq M D) p) H2 y (.dct (L.map fun l => ((.inr (T l) : Key), Nt.D.int (sm l)))) := (((hy.off hD).ex e1).off hp).ex e2
    walk_at "sx"
    with_reducible refine sx_irev ?_
    walk_at "sx"
    with_reducible refine sx_meth ?_
    walk_at "sx"
    refine hx2.meth (by decide) ?_
    walk_at "sx"
    refine ⟨_, _, x, fr, S, Y, hW2 _ _, i2, rfl, hx2, fun y3 H3 _ e3 i3 r3 => ?_⟩
    rw [show ordF gC (Y.map lot) = L from hL] at r3
    walk_at "sx"
    refine list_R (hW2 _ _) i3 r3 (.inl rfl) fun y4 H4 e4 i4 r4 => ?_
    have e24 := e3.trans e4
    walk_at "sx"
    refine for_revS (as := L) (enc := eS) r4 (fun k σ H5 => ∃ (u4 u5 u6 : Option V) (xs : List V) (us : List (List Nat × Int)), σ = [some x, some y, some (.ref D), some (.ref p), u4, u5, u6, none, none] ∧ us = (upF sm (L.reverse.take k).reverse).reverse ∧ Reps K (Mq (Mq M D) p) H5 xs (us.map eM) ∧ Iq (Iq I D (.dK (upK us))) p (.lst xs) H5 ∧ Ex (Mq (Mq M D) p) H4 H5)
      ⟨_, _, _, [], [], rfl, rfl, .nil, i4, Ex.refl _⟩ (fun k σ H' h => by obtain ⟨_, _, _, _, _, _, _, _, _, h⟩ := h; exact h) ?_ ?_
    · rintro k l v σ H5 hl ⟨u4, u5, u6, xs, us, rfl, hus, rxs, i5, e5⟩ rv
      cases rep_str rv
      have hlL : l ∈ L := List.mem_reverse.mp (List.mem_of_getElem? hl)
      have hll := hLL l hlL
      have hkl : k < L.length := by have := (List.getElem?_eq_some_iff.mp hl).1; rwa [List.length_reverse] at this
      have hfst : us.map (·.1) = L.reverse.take k := by rw [hus, List.map_reverse, upF_fst, List.reverse_reverse]
      have husl : us.length = k := by
        have := congrArg List.length hfst
        rw [List.length_map, List.length_take, List.length_reverse] at this
        omega
      have husL : ∀ q ∈ us, q.1 ∈ L := fun q hq => List.mem_reverse.mp (List.mem_of_mem_take (hfst ▸ List.mem_map_of_mem hq))
      have hnin : l ∉ us.map (·.1) := by
        rw [hfst]
        have hn : L.reverse.Nodup := (List.reverse_perm L).nodup_iff.mpr hLn
        exact nd_take hn hl
      dsimp only [List.set_cons_zero, List.set_cons_succ]
      walk_at "sx"
      refine ⟨l, rfl, by omega, ?_⟩
      walk_at "sx"
      with_reducible refine sx_dget ?_
      walk_at "sx"
      have hmem : (((.inr (T l) : Key), Nt.D.int (sm l)) : Key × Nt.D) ∈ L.map fun l => ((.inr (T l) : Key), Nt.D.int (sm l)) := List.mem_map_of_mem hlL
      refine dget_R (hy2.ex (e24.trans e5)) ?_ hmem fun v6 r6 => ?_
      · rw [List.map_map]
        exact nd_keys hLn
      cases rep_int r6
      walk_at "sx"
      have rp : Rep K M H5 (.ref p) (.lst (us.map fun q => .tup [.int (maskV q.1), .int q.2])) := .lst i5.2 nMp (rxs.le fun _ m => .inl (.inl m))
      have husk : us.length ≤ 1000 := by omega
      refine lc_srcP (as := us) (enc := fun q => Nt.D.int (maskV q.1)) (enc2 := fun q => Nt.D.int q.2) hw i5.1.1 rp rfl (szOk (by omega)) (fun _ _ => rfl) (fun q => inB l q.1) (fun q d => d = .int q.2) ?_ ?_ ?_
      · intro L0 acc j q v u H6 hL nL ha rv ru wf hi ex Qt qt
        cases rep_int rv
        have hqL := husL q (List.mem_of_getElem? ha)
        walk_at "sx"
        refine and_ii ?_
        walk_at "sx"
        have hmi := mask_in (s := q.1) (t := l) (by rw [hLL q.1 hqL, hll]) (hLs q.1 hqL)
        rw [hmi]
        exact qt H6 hi (Ex.refl _)
      · intro L0 acc j q v u H6 hL nL ha _ rv ru wf hi ex Qe qe
        cases rep_int ru
        walk_at "sx"
        exact qe _ _ H6 rfl (.int _) hi (Ex.refl _)
      · intro y7 ds7 H7 a7 r7 e7 i7
        have e57 : Ex (Mq (Mq M D) p) H5 H7 := Ex.wide (Ex.wide e7)
        have i7' : Iq (Iq I D (.dK (upK us))) p (.lst xs) H7 := ⟨⟨i7, e7 D _ nD i5.1.2⟩, e7 p _ nMp i5.2⟩
        rw [a7.eq] at r7
        rw [show ((us.filter fun q => inB l q.1).map fun q => Nt.D.int q.2) = ((us.filter fun q => inB l q.1).map (·.2)).map fun i => Nt.D.int i by rw [List.map_map]; rfl] at r7
        walk_at "sx"
        refine sum_Z r7 ?_
        refine sub_ii ?_
        walk_at "sx"
        have hnum : sm l - ((us.filter fun q => inB l q.1).map (·.2)).sum = sm l - (((upF sm (L.reverse.take k).reverse).filter fun q => inB l q.1).map (·.2)).sum := by
          rw [hus, sum_perm (((List.reverse_perm _).filter _).map _)]
        have hus2 : us ++ [(l, sm l - ((us.filter fun q => inB l q.1).map (·.2)).sum)] = (upF sm (L.reverse.take (k + 1)).reverse).reverse := by
          rw [take_snoc hl, List.reverse_append, hnum]
          show _ = (upF sm (l :: (L.reverse.take k).reverse)).reverse
          rw [upF, List.reverse_cons, ← hus]
        generalize sm l - ((us.filter fun q => inB l q.1).map (·.2)).sum = num at hus2
        clear i7
        refine ⟨tyv_l i7'.2, ?_⟩
        walk_at "sx"
        refine tup_end (K := K) (hW2 _ _) i7' (.cons (.int _) (.cons (.int _) .nil)) (szOk (by simp)) fun v8 H8 e8 i8 r8 => ?_
        walk_at "sx"
        have hxl : xs.length ≤ 1000 := by rw [rxs.length, List.length_map]; exact husk
        refine ⟨p, xs, v8, rfl, rfl, i8.2, Nat.lt_of_lt_of_le (show xs.length < 100000 by omega) (by decide), ?_⟩
        obtain ⟨i9, e9⟩ := (hW1 (.dK (upK us))).put (o' := .lst (xs ++ [v8])) np i8
        generalize upd H8 p (.lst (xs ++ [v8])) = H9 at i9 e9
        walk_at "sx"
        with_reducible refine sx_dput ?_
        walk_at "sx"
        refine ⟨_, _, rfl, DPut.k (k := .inr (T l)) i9.1.2 (by rw [List.length_map]; exact Nat.lt_of_lt_of_le (show us.length < 100000 by omega) (by decide)), ?_⟩
        rw [up_put hnin]
        have i10 : Iq (Iq I D (.dK (upK (us ++ [(l, num)])))) p (.lst (xs ++ [v8])) (upd H9 D (.dK (upK (us ++ [(l, num)])))) := by
          obtain ⟨u1, u2⟩ := hw.put (o' := .dK (upK (us ++ [(l, num)]))) nD i9.1
          exact ⟨u1, by rw [upd_ne fun e => nDp e.symm]; exact i9.2⟩
        have e10 : Ex (Mq (Mq M D) p) H9 (upd H9 D (.dK (upK (us ++ [(l, num)])))) := fun a o n h => by rw [upd_ne fun z => n (.inl (.inr z))]; exact h
        generalize upd H9 D (.dK (upK (us ++ [(l, num)]))) = H10 at i10 e10
        have e510 := ((e57.trans e8).trans e9).trans e10
        refine ⟨_, _, _, xs ++ [v8], us ++ [(l, num)], rfl, hus2, ?_, i10, e5.trans e510⟩
        rw [List.map_append]
        exact (rxs.ex e510).append (.cons ((r8.ex e9).ex e10) .nil)
    · rintro σ H5 ⟨u4, u5, u6, xs, us, rfl, hus, rxs, i5, e5⟩
      have hus3 : us = (upF sm L).reverse := by
        rw [hus, ← List.length_reverse (as := L), List.take_length, List.reverse_reverse]
      have e05 : Ex M H H5 := ((e1.trans (((e2.trans e24).trans e5).shut hp)).shut hD)
      walk_at "sx"
      with_reducible refine sx_dc ?_
      walk_at "sx"
      with_reducible refine sx_meth ?_
      walk_at "sx"
      refine (hx2.ex (e24.trans e5)).meth (by decide) ?_
      walk_at "sx"
      refine ⟨_, _, x, fr, S, Y, hW2 _ _, i5, rfl, hx2.ex (e24.trans e5), fun y11 H11 _ e11 i11 r11 => ?_⟩
      rw [show ordF gC (Y.map lot) = L from hL] at r11
      refine dc_txt (F := L) (c := fun l => .int (getU (upF sm L) l)) (hW2 _ _) i11 r11 rfl hLn (by omega) (fun _ => rfl) (fun _ => rfl) (fun D2 l H' Z2 hD2 hl e i z => ?_) fun D2 H12 hD2 nD2 hDv e12 i12 => ?_
      · refine sx_dget ?_
        walk_at "sx"
        have hd := DGet.k (k := .inr (T l)) i.1.2
        have hfs : us.map (·.1) = L.reverse := by rw [hus3, List.map_reverse, upF_fst]
        rw [up_val (by rw [hfs]; exact List.mem_reverse.mpr hl), hus3, getU_rev (by rw [upF_fst]; exact hLn) (by rw [upF_fst]; exact hl)] at hd
        exact ⟨D, _, rfl, hd, z⟩
      · refine q D2 H12 (Ex.non hw i11.1.1 (((e1.trans (((e2.trans e24).trans (e5.trans e11)).shut hp)).shut hD)) hD2) (fun m => nD2 (.inl (.inl m))) ?_ ((e1.trans (((e2.trans e24).trans (e5.trans (e11.trans e12))).shut hp)).shut hD) i12.1.1
        rw [hDv, up_all upF_fst hLn]
def sg1 (l : List Nat) : Int := if 46 ∈ l then 0 else 1
def spSgn (K : PySem.W.Frag) : Sp := fun vs H Q _ => ∃ (M : Addr → Prop) (I : Hp → Prop) (x : V) (fr : List (List Nat × Nat)) (S Y : List (List Nat)), Wf M I ∧ I H ∧ vs = [x] ∧ BandOk K M H x fr S Y ∧ Y.length ≤ 1000 ∧ (∀ r ∈ Y, r.length = fr.length) ∧ fr.length ≤ 1000 ∧
  ∀ D H', H D = none → ¬ M D → H' D = some (.dK (upK (upF sg1 (lotsF Y)))) → Ex M H H' → I H' → Q (.ref D) H'
theorem ok_signed_counts (B : Bl mg) (CB : ClsF K "Band" fl_Band) (G1 : DfM P w K mg base 1 "Band" "lots" ["self"] [] (spBLots K)) (G2 : Df P w K mg base 2 "parts_of_sums" ["band", "sums"] [] (spParts K)) (F : At K mg "signed_counts" s_signed_counts ["band"] []) : Df P w K mg base 3 "signed_counts" ["band"] [] (spSgn K) := by
  refine F.df sc_signed_counts (fun vs H Q E h => ?_) (fun f cdv A outer s H vs Q E hr h => ⟨_, w_signed_counts B CB G1 G2 hr, ?_⟩)
  · obtain ⟨M, I, x, fr, S, Y, _, _, rfl, _⟩ := h
    rfl
  · obtain ⟨M, I, x, fr, S, Y, hw, hI, rfl, hx, hYl, hYn, hfl, q⟩ := h
    unfold t_signed_counts
    refine st_eq (σ' := [some x, none]) rfl ?_
    have hLl : (lotsF Y).length ≤ 1000 := Nat.le_trans lotsF_few hYl
    have hLn : (lotsF Y).Nodup := ordF_nd _ _
    walk_at "sx"
    with_reducible refine sx_dc ?_
    walk_at "sx"
    with_reducible refine sx_meth ?_
    walk_at "sx"
    refine hx.meth (by decide) ?_
    walk_at "sx"
    refine ⟨M, I, x, fr, S, Y, hw, hI, rfl, hx, fun y1 H1 _ e1 i1 r1 => ?_⟩
    refine dc_txt (F := lotsF Y) (c := fun l => .int (sg1 l)) hw i1 r1 rfl hLn (by omega) (fun _ => rfl) (fun _ => rfl) (fun D2 l H' Z2 hD2 hl e i z => ?_) fun D2 H2 hD2 nD2 hDv e2 i2 => ?_
    · walk_at "sx"
      refine ifB (fun h => ?_) (fun h => ?_)
      · walk_at "sx"
        have h2 : 46 ∈ l := by simpa using h
        unfold sg1 at z
        rw [if_pos h2] at z
        exact z
      · walk_at "sx"
        have h2 : ¬ 46 ∈ l := by simpa using h
        unfold sg1 at z
        rw [if_neg h2] at z
        exact z
    · walk_at "sx"
      refine ⟨M, I, x, .ref D2, fr, S, Y, sg1, hw, i2, rfl, hx.ex (e1.trans e2), ?_, hYl, hYn, hfl, fun D3 H3 hD3 nD3 hv3 e3 i3 => ?_⟩
      · refine .dct hDv nD2 (by rw [List.map_map, List.map_map]; rfl) ?_
        rw [List.map_map, List.map_map]
        exact Reps.scal (f := fun l : List Nat => V.int (sg1 l)) (g := fun l : List Nat => Nt.D.int (sg1 l)) (fun _ => .int _) _
      · exact q D3 H3 (Ex.non hw i2 (e1.trans e2) hD3) nD3 hv3 ((e1.trans e2).trans e3) i3
end


/-! ### the law's signed counts -/
section
variable {K : PySem.W.Frag} {M : Addr → Prop} {I : Hp → Prop} {H : Hp}
theorem sx_lockA {d : Addr} {kvs : List (Key × V)} {t : TS} {E : Ends} {σ : L2.St} (hw : Wf M I) (np : ¬ M d) (hI : Iq I d (.dK kvs) H)
    (h : ∀ od H1, Iq I d (.frz od (.dK kvs)) H1 → Ex (Mq M d) H H1 → ∀ E' : Ends, (∀ σ' H', Iq I d (.frz od (.dK kvs)) H' → (∀ H2, Iq I d (.dK kvs) H2 → Ex (Mq M d) H' H2 → E.nx σ' H2) → E'.nx σ' H') → t E' σ H1) : tLock t E σ H := by
  refine ⟨d, _, hI.2, True.intro, fun od => ?_⟩
  obtain ⟨i1, e1⟩ := hw.put (o' := .frz od (.dK kvs)) np hI
  refine h od _ i1 e1 _ fun σ' H' i2 q => ?_
  obtain ⟨i3, e3⟩ := hw.put (o' := .dK kvs) np i2
  exact ⟨i2.2, q _ i3 e3⟩
/-- [e for k in d if t], d locked, the keys texts -/
theorem lc_upK {i : Nat} {d : Addr} {od : Obj} {us : List (List Nat × Int)} {tt : TT} {te : TE} {vs : List Nat} {σ : L2.St} {Q : VK} (p : List Nat × Int → Bool) (f : List Nat × Int → D) (hw : Wf M I) (hI : I H) (hd : ∀ H', I H' → H' d = some (.frz od (.dK (upK us)))) (hlen : us.length ≤ sizeLine) (hwp : ∀ v, wipe ((wipe σ vs).set i (some v)) vs = wipe σ vs)
    (ht : ∀ (L : Addr) (acc : List V) (a : List Nat × Int) (H1 : Hp), H L = none → a ∈ us → Wf (Mq M L) (Iq I L (.lst acc)) → Iq I L (.lst acc) H1 → Ex (Mq M L) H H1 →
      ∀ Qt : Bool → Hp → Prop, (∀ H3, Iq I L (.lst acc) H3 → Ex (Mq M L) H1 H3 → Qt (p a) H3) → tt ((wipe σ vs).set i (some (.str (T a.1)))) H1 Qt)
    (he : ∀ (L : Addr) (acc : List V) (a : List Nat × Int) (H1 : Hp), H L = none → a ∈ us → Wf (Mq M L) (Iq I L (.lst acc)) → Iq I L (.lst acc) H1 → Ex (Mq M L) H H1 →
      ∀ Qe : VK, (∀ y H4, Rep K (Mq M L) H4 y (f a) → Iq I L (.lst acc) H4 → Ex (Mq M L) H1 H4 → Qe y H4) → te ((wipe σ vs).set i (some (.str (T a.1)))) H1 Qe)
    (hq : ∀ y H', Rep K M H' y (.lst ((us.filter p).map f)) → Ex M H H' → I H' → Q y H') : LcR (gName i) tt te vs σ Q (Itk d od (upK us)) H := by
  have w := walk_keys (d := d) (o := od) (kvs := upK us)
  rw [show (upK us).length = us.length by rw [List.length_map]] at w
  refine lc_anyD (K := K) (as := us) w hw hI p (fun a e => e = f a) (fun _ a => (wipe σ vs).set i (some (.str (T a.1)))) (fun H' _ i => hd H' i) hlen (fun k a ha => ?_) (fun _ _ => hwp _) (fun L acc k a H1 hL _ ha wf hi ex Qt q => ht L acc a H1 hL (List.mem_of_getElem? ha) wf hi ex Qt q) (fun L acc k a H1 hL _ ha _ wf hi ex Qe q => ?_) fun L ds H' hL a2 rp ex hi => ?_
  · intro H1 x H2 Qc _ y q
    obtain ⟨rfl, k2, v2, e1, rfl⟩ := y
    rw [List.getElem?_map, ha] at e1
    cases e1
    exact q _ (L2.Same.refl _)
  · exact he L acc a H1 hL (List.mem_of_getElem? ha) wf hi ex Qe fun y H4 r i e => q y _ H4 rfl r i e
  · rw [a2.eq] at rp
    exact hq _ H' rp ex hi
end
section
variable {P : Program} {w : World} {K : PySem.W.Frag} {mg : Str → Option Value} {base : Heap}
theorem flat_Z {l : List Int} : ∀ d ∈ l.map (fun i => Nt.D.int i), Flat d := fun d hd => by
  obtain ⟨i, _, rfl⟩ := List.mem_map.mp hd
  trivial
def spLSgn (K : PySem.W.Frag) : Sp := fun vs H Q _ => ∃ (M : Addr → Prop) (I : Hp → Prop) (x : V) (A : List (List Nat)) (f : List Nat) (n : Nat), Wf M I ∧ I H ∧ vs = [x] ∧ Rep K M H x (.lst ((A ++ [f]).map eS)) ∧ (A ++ [f]).Nodup ∧ A.length ≤ 900 ∧ n ≤ 1000 ∧ (∀ l ∈ A ++ [f], l.length = n) ∧ 46 ∉ f ∧ (∀ l ∈ A, 46 ∈ l ∧ inB l f = true) ∧
  ∀ D H', H D = none → ¬ M D → H' D = some (.dK (upK (upF sg1 (A ++ [f])).reverse)) → Ex M H H' → I H' → Q (.ref D) H'
theorem ok_lsigned (B : Bl mg) (G1 : Df P w K mg base 1 "_law_within" ["_law_one", "_law_other"] [] (spInW K)) : Bok P w K mg base 2 "_law_signed" s__law_signed ["_law_lots"] (spLSgn K) := by
  refine Bok.mk sc__law_signed (fun vs H Q E h => ?_) (fun f cdv A outer s H vs Q E hr h => ⟨_, w__law_signed B G1 hr, ?_⟩)
  · obtain ⟨M, I, x, A, f, n, _, _, rfl, _⟩ := h
    rfl
  · obtain ⟨M, I, x, A, f, n, hw, hI, rfl, hx, hLn, hAl, hn, hLL, hf, hA, q⟩ := h
    unfold t__law_signed
    refine st_eq (σ' := [some x, none, none, none, none]) rfl ?_
    have hLl : (A ++ [f]).length ≤ 1000 := by simp; omega
    generalize hL : A ++ [f] = L at *
    have hLr : L.reverse = f :: A.reverse := by rw [← hL, List.reverse_append]; rfl
    have hLrn : L.reverse.Nodup := (List.reverse_perm L).nodup_iff.mpr hLn
    walk_at "sx"
    refine dnew_mut hw hI fun D H1 hD nD e1 i1 => ?_
    have hW1 : ∀ o, Wf (Mq M D) (Iq I D o) := fun o => hw.add D o
    have hx1 := (hx.off hD).ex e1
    walk_at "sx"
    refine rev_R (hW1 _) i1 hx1 fun v2 H2 e2 i2 r2 => ?_
    rw [← List.map_reverse] at r2
    refine for_src (M := Mq M D) (as := L.reverse) (enc := eS) r2 rfl (fun k σ H3 => ∃ (u2 u3 : Option V) (us : List (List Nat × Int)), σ = [some x, some (.ref D), u2, u3, none] ∧ us = (upF sg1 (L.reverse.take k).reverse).reverse ∧ Iq I D (.dK (upK us)) H3 ∧ Ex (Mq M D) H2 H3)
      ⟨_, _, [], rfl, rfl, i2, Ex.refl _⟩ (fun k σ H h => by obtain ⟨_, _, _, _, _, _, h⟩ := h; exact h) ?_ ?_
    · rintro k l v σ H3 hl ⟨u2, u3, us, rfl, hus, i3, e3⟩ rv
      cases rep_str rv
      have hlL : l ∈ L := List.mem_reverse.mp (List.mem_of_getElem? hl)
      have hll := hLL l hlL
      have hkl : k < L.length := by have := (List.getElem?_eq_some_iff.mp hl).1; rwa [List.length_reverse] at this
      have hfst : us.map (·.1) = L.reverse.take k := by rw [hus, List.map_reverse, upF_fst, List.reverse_reverse]
      have husl : us.length = k := by
        have := congrArg List.length hfst
        rw [List.length_map, List.length_take, List.length_reverse] at this
        omega
      have husn : (us.map (·.1)).Nodup := by rw [hfst]; exact hLrn.sublist (List.take_sublist _ _)
      have hnin : l ∉ us.map (·.1) := by
        rw [hfst]
        exact nd_take hLrn hl
      dsimp only [List.set_cons_zero, List.set_cons_succ]
      with_reducible refine sx_seq ?_
      refine sx_lockA hw nD i3 fun od H4 i4 e4 E' hE' => ?_
      walk_at "sx"
      refine sx_keysV rfl i4.2 ?_
      refine lc_upK (K := K) (fun q => inB l q.1) (fun q => .int q.2) (hW1 _) i4 (fun H' i => i.2) (szOk (by omega)) (fun _ => rfl) ?_ ?_ ?_
      · intro L0 acc q H5 hL0 hq wf hi ex Qt qt
        walk_at "sx"
        refine ⟨_, _, l, q.1, wf, hi, rfl, by omega, fun H6 e6 i6 => ?_⟩
        walk_at "sx"
        exact qt H6 i6 e6
      · intro L0 acc q H5 hL0 hq wf hi ex Qe qe
        walk_at "sx"
        refine sx_dget ?_
        walk_at "sx"
        refine ⟨D, _, rfl, .inl ⟨_, .inr (T q.1), .inr ⟨od, hi.1.2⟩, rfl, (up_val (List.mem_map_of_mem hq)).symm⟩, ?_⟩
        rw [getU_mem husn q hq]
        exact qe _ H5 (.int _) hi (Ex.refl _)
      · intro y5 H5 r5 e5 i5
        walk_at "sx"
        refine hE' _ H5 i5 fun H6 i6 e6 => ?_
        dsimp only [List.set_cons_zero, List.set_cons_succ]
        have r6 : Rep K (Mq M D) H6 y5 (.lst (((us.filter fun q => inB l q.1).map (·.2)).map fun i => Nt.D.int i)) := by
          rw [List.map_map]
          exact r5.ex e6
        have hnum : (if (us.filter fun q => inB l q.1).isEmpty then (1 : Int) else -((us.filter fun q => inB l q.1).map (·.2)).sum) = sg1 l - (((upF sg1 (L.reverse.take k).reverse).filter fun q => inB l q.1).map (·.2)).sum := by
          rw [show (((upF sg1 (L.reverse.take k).reverse).filter fun q => inB l q.1).map (·.2)).sum = ((us.filter fun q => inB l q.1).map (·.2)).sum by rw [hus]; exact sum_perm (((List.reverse_perm _).symm.filter _).map _)]
          cases k with
          | zero =>
            have hu : us = [] := List.eq_nil_of_length_eq_zero husl
            have hlf : l = f := by rw [hLr] at hl; simpa using hl.symm
            subst hlf
            rw [hu]
            show (1 : Int) = sg1 l - 0
            unfold sg1
            rw [if_neg hf]
            rfl
          | succ k =>
            have hlA : l ∈ A := by
              rw [hLr] at hl
              exact List.mem_reverse.mp (List.mem_of_getElem? (by simpa using hl))
            obtain ⟨h46, hin⟩ := hA l hlA
            have hfu : f ∈ us.map (·.1) := by rw [hfst, hLr, List.take_succ_cons]; exact List.mem_cons_self
            obtain ⟨q, hq, hqf⟩ := List.mem_map.mp hfu
            have hne : (us.filter fun q => inB l q.1).isEmpty = false := by
              cases hz : us.filter fun q => inB l q.1 with
              | cons a b => rfl
              | nil =>
                have := List.filter_eq_nil_iff.mp hz q hq
                rw [hqf] at this
                exact absurd hin this
            rw [hne]
            show -_ = sg1 l - _
            unfold sg1
            rw [if_pos h46]
            omega
        have hus2 : us ++ [(l, if (us.filter fun q => inB l q.1).isEmpty then (1 : Int) else -((us.filter fun q => inB l q.1).map (·.2)).sum)] = (upF sg1 (L.reverse.take (k + 1)).reverse).reverse := by
          rw [take_snoc hl, List.reverse_append, hnum]
          show _ = (upF sg1 (l :: (L.reverse.take k).reverse)).reverse
          rw [upF, List.reverse_cons, ← hus]
        have put : ∀ (num : Int) (H7 : Hp), us ++ [(l, num)] = (upF sg1 (L.reverse.take (k + 1)).reverse).reverse → Iq I D (.dK (upK us)) H7 → Ex (Mq M D) H6 H7 → ∃ H8, DPut H7 D (.str (T l)) (.int num) H8 ∧ ∃ us2, us2 = (upF sg1 (L.reverse.take (k + 1)).reverse).reverse ∧ Iq I D (.dK (upK us2)) H8 ∧ Ex (Mq M D) H2 H8 := fun num H7 hu i7 e7 => by
          refine ⟨_, DPut.k (k := .inr (T l)) i7.2 (by rw [List.length_map]; exact Nat.lt_of_lt_of_le (show us.length < 100000 by omega) (by decide)), us ++ [(l, num)], hu, ?_⟩
          rw [up_put hnin]
          obtain ⟨u1, u2⟩ := hw.put (o' := .dK (upK (us ++ [(l, num)]))) nD i7
          exact ⟨u1, (e3.trans (e4.trans (e5.trans (e6.trans e7)))).trans u2⟩
        with_reducible refine sx_dput ?_
        walk_at "sx"
        refine lst_end (K := K) (ds := []) (hW1 _) i6 .nil (szOk (by simp)) fun v7 H7 e7 i7 r7 => ?_
        refine eq_L0 (r6.ex e7) r7 flat_Z ?_
        rw [List.isEmpty_map, List.isEmpty_map]
        walk_at "sx"
        refine ifB (fun h => ?_) (fun h => ?_)
        · rw [if_pos h] at hus2
          obtain ⟨kv, p1, us2, p2, p3, p4⟩ := put _ H7 hus2 i7 e7
          walk_at "sx"
          exact ⟨_, _, rfl, p1, _, _, us2, rfl, p2, p3, p4⟩
        · rw [if_neg (by rw [h]; exact Bool.false_ne_true)] at hus2
          obtain ⟨kv, p1, us2, p2, p3, p4⟩ := put _ H7 hus2 i7 e7
          walk_at "sx"
          refine sum_Z (r6.ex e7) ?_
          refine neg_i ?_
          walk_at "sx"
          exact ⟨_, _, rfl, p1, _, _, us2, rfl, p2, p3, p4⟩
    · rintro σ H3 ⟨u2, u3, us, rfl, hus, i3, e3⟩
      rw [List.take_length, List.reverse_reverse] at hus
      walk_at "sx"
      refine q D H3 hD nD ?_ ((e1.trans (e2.trans e3)).shut hD) i3.1
      rw [← hus]
      exact i3.2
end
section
variable {P : Program} {w : World} {K : PySem.W.Frag} {mg : Str → Option Value} {base : Heap}
def spInOrd (K : PySem.W.Frag) : Sp := fun vs H Q _ => ∃ (M : Addr → Prop) (I : Hp → Prop) (x y : V) (L : List (List Nat)) (us : List (List Nat × Int)), Wf M I ∧ I H ∧ vs = [x, y] ∧ Rep K M H x (.lst (L.map eS)) ∧ L.Nodup ∧ L.length ≤ 1000 ∧ Rep K M H y (.dct (us.map fun q => ((.inr (T q.1) : Key), D.int q.2))) ∧ (us.map (·.1)).Nodup ∧ (∀ l ∈ L, l ∈ us.map (·.1)) ∧
  ∀ v H', Ex M H H' → I H' → Rep K M H' v (.dct (L.map fun l => ((.inr (T l) : Key), D.int (getU us l)))) → Q v H'
theorem ok_in_order (B : Bl mg) : Bok P w K mg base 1 "_law_in_order" s__law_in_order ["_law_lots", "_law_table"] (spInOrd K) := by
  refine Bok.mk sc__law_in_order (fun vs H Q E h => ?_) (fun f cdv A outer s H vs Q E hr h => ⟨_, w__law_in_order B hr, ?_⟩)
  · obtain ⟨M, I, x, y, L, us, _, _, rfl, _⟩ := h
    rfl
  · obtain ⟨M, I, x, y, L, us, hw, hI, rfl, hx, hLn, hLl, hy, hun, hLu, q⟩ := h
    unfold t__law_in_order
    refine st_eq (σ' := [some x, some y, none, none]) rfl ?_
    walk_at "sx"
    refine dnew_mut hw hI fun D H1 hD nD e1 i1 => ?_
    have hx1 := (hx.off hD).ex e1
    have hy1 := (hy.off hD).ex e1
    walk_at "sx"
    refine for_src (M := Mq M D) (as := L) (enc := eS) hx1 rfl (fun k σ H3 => ∃ (u3 : Option V), σ = [some x, some y, some (.ref D), u3] ∧ Iq I D (.dK (upK ((L.take k).map fun l => (l, getU us l)))) H3 ∧ Ex (Mq M D) H1 H3)
      ⟨_, rfl, i1, Ex.refl _⟩ (fun k σ H h => by obtain ⟨_, _, _, h⟩ := h; exact h) ?_ ?_
    · rintro k l v σ H3 hl ⟨u3, rfl, i3, e3⟩ rv
      cases rep_str rv
      have hlL : l ∈ L := List.mem_of_getElem? hl
      obtain ⟨q0, hq0, hql⟩ := List.mem_map.mp (hLu l hlL)
      have hget : getU us l = q0.2 := by rw [← hql]; exact getU_mem hun q0 hq0
      have hmem : (((.inr (T l) : Key), Nt.D.int q0.2) : Key × Nt.D) ∈ us.map fun q => ((.inr (T q.1) : Key), Nt.D.int q.2) := List.mem_map.mpr ⟨q0, hq0, by rw [hql]⟩
      dsimp only [List.set_cons_zero, List.set_cons_succ]
      with_reducible refine sx_dput ?_
      walk_at "sx"
      with_reducible refine sx_dget ?_
      walk_at "sx"
      refine dget_R (hy1.ex e3) ?_ hmem fun v6 r6 => ?_
      · rw [List.map_map]
        have := nd_keys (L := us.map (·.1)) (f := fun _ => Nt.D.non) hun
        rw [List.map_map] at this
        exact this
      cases rep_int r6
      walk_at "sx"
      refine ⟨_, _, rfl, DPut.k (k := .inr (T l)) i3.2 (by rw [List.length_map, List.length_map, List.length_take]; exact Nat.lt_of_le_of_lt (Nat.min_le_right _ _) (Nat.lt_of_le_of_lt hLl (by decide))), ?_⟩
      have hnin : l ∉ ((L.take k).map fun l => (l, getU us l)).map (·.1) := by
        rw [List.map_map]
        have : (L.take k).map ((fun p : List Nat × Int => p.1) ∘ fun l => (l, getU us l)) = L.take k := by
          conv => rhs; rw [← List.map_id (L.take k)]
          rfl
        rw [this]
        exact nd_take hLn hl
      rw [up_put hnin]
      obtain ⟨u1, u2⟩ := hw.put (o' := .dK (upK ((L.take k).map (fun l => (l, getU us l)) ++ [(l, q0.2)]))) nD i3
      refine ⟨_, rfl, ?_, e3.trans u2⟩
      rw [take_snoc hl, List.map_append]
      show Iq I D (.dK (upK ((L.take k).map (fun l => (l, getU us l)) ++ [(l, getU us l)]))) _
      rw [hget]
      exact u1
    · rintro σ H3 ⟨u3, rfl, i3, e3⟩
      rw [List.take_length] at i3
      walk_at "sx"
      refine q _ H3 ((e1.trans e3).shut hD) i3.1 ?_
      refine .dct i3.2 nD (by rw [List.map_map, List.map_map, List.map_map]; rfl) ?_
      rw [List.map_map, List.map_map, List.map_map]
      exact Reps.scal (f := fun l : List Nat => V.int (getU us l)) (g := fun l : List Nat => Nt.D.int (getU us l)) (fun _ => .int _) _
end


/-! ### lots: plain -/
theorem gC_nil : gC [] = 0 := countT_nil 43
theorem gC_cons (a : Nat) (l : List Nat) : gC (a :: l) = (if a = 43 then 1 else 0) + gC l := countT_cons 43 a l
theorem gC_nn : ∀ {l : List Nat}, 0 ≤ gC l
  | [] => by rw [gC_nil]; exact Int.le_refl _
  | a :: l => by
    have := gC_nn (l := l)
    rw [gC_cons]
    split <;> omega
theorem gC_le : ∀ {l : List Nat}, gC l ≤ (l.length : Nat)
  | [] => by rw [gC_nil]; exact Int.le_refl _
  | a :: l => by
    have := gC_le (l := l)
    rw [gC_cons, List.length_cons]
    split <;> omega
theorem gC_0 : ∀ {l : List Nat}, LotS l → gC l = 0 → l = List.replicate l.length 46
  | [], _, _ => rfl
  | a :: l, hs, h => by
    have := gC_nn (l := l)
    rw [gC_cons] at h
    have ha : a = 46 := by
      rcases hs a List.mem_cons_self with e | e
      · exact e
      · rw [if_pos e] at h; omega
    subst ha
    rw [if_neg (by decide)] at h
    conv => lhs; rw [gC_0 (l := l) (fun c hc => hs c (List.mem_cons_of_mem _ hc)) (by omega)]
    rw [List.length_cons, List.replicate_succ]
theorem gC_full : ∀ {l : List Nat}, gC l = (l.length : Nat) → l = List.replicate l.length 43
  | [], _ => rfl
  | a :: l, h => by
    have := gC_le (l := l)
    rw [gC_cons, List.length_cons] at h
    by_cases ha : a = 43
    · subst ha
      rw [if_pos rfl] at h
      conv => lhs; rw [gC_full (l := l) (by omega)]
      rw [List.length_cons, List.replicate_succ]
    · rw [if_neg ha] at h
      omega
theorem gC_rep46 (n : Nat) : gC (List.replicate n 46) = 0 := by
  induction n with
  | zero => exact gC_nil
  | succ n ih => rw [List.replicate_succ, gC_cons, ih]; rfl
theorem gC_rep43 (n : Nat) : gC (List.replicate n 43) = (n : Nat) := by
  induction n with
  | zero => exact gC_nil
  | succ n ih => rw [List.replicate_succ, gC_cons, ih, if_pos rfl]; omega
theorem gC_in : ∀ {l m : List Nat}, l.length = m.length → LotS l → LotS m → inB l m = true → gC l ≤ gC m ∧ (gC l = gC m → l = m)
  | [], [], _, _, _, _ => ⟨Int.le_refl _, fun _ => rfl⟩
  | [], _ :: _, h, _, _, _ => by simp at h
  | _ :: _, [], h, _, _, _ => by simp at h
  | a :: l, b :: m, h, hl, hm, hi => by
    have hi2 : (decide (a = 46) || decide (b = 43)) = true ∧ inB l m = true := by
      have : ((decide (a = 46) || decide (b = 43)) && inB l m) = true := hi
      simpa using this
    obtain ⟨i1, i2⟩ := gC_in (l := l) (m := m) (by simpa using h) (fun c hc => hl c (List.mem_cons_of_mem _ hc)) (fun c hc => hm c (List.mem_cons_of_mem _ hc)) hi2.2
    have h1 : a = 46 ∨ b = 43 := by simpa using hi2.1
    rw [gC_cons, gC_cons]
    rcases hl a List.mem_cons_self with ea | ea <;> rcases hm b List.mem_cons_self with eb | eb
    · subst ea; subst eb
      refine ⟨by simp; omega, fun e => ?_⟩
      rw [i2 (by simpa using e)]
    · subst ea; subst eb
      rw [if_neg (by decide), if_pos rfl]
      exact ⟨by omega, fun e => by omega⟩
    · subst ea; subst eb
      exact absurd h1 (by decide)
    · subst ea; subst eb
      refine ⟨by simp; omega, fun e => ?_⟩
      rw [i2 (by simpa using e)]
theorem inB_self : ∀ {l : List Nat}, LotS l → inB l l = true
  | [], _ => rfl
  | a :: l, h => by
    show ((decide (a = 46) || decide (a = 43)) && inB l l) = true
    rw [inB_self fun c hc => h c (List.mem_cons_of_mem _ hc)]
    rcases h a List.mem_cons_self with e | e <;> simp [e]
theorem inB_full : ∀ {l : List Nat} {n : Nat}, inB l (List.replicate n 43) = true
  | [], _ => rfl
  | _ :: _, 0 => rfl
  | a :: l, n + 1 => by
    rw [List.replicate_succ]
    show ((decide (a = 46) || decide ((43 : Nat) = 43)) && inB l (List.replicate n 43)) = true
    rw [inB_full]
    simp
theorem up_lots {L : List (List Nat)} {n : Nat} (h : L.Pairwise (LeT gC)) (hn : L.Nodup) (hs : ∀ l ∈ L, LotS l) (hl : ∀ l ∈ L, l.length = n) : UpO L := by
  refine (h.and hn).imp_of_mem fun {a b} ha hb ⟨h1, h2⟩ hi => ?_
  obtain ⟨g1, g2⟩ := gC_in (by rw [hl a ha, hl b hb]) (hs b hb) (hs a ha) hi
  rcases h1 with h1 | h1
  · omega
  · exact h2 (g2 h1.1.symm).symm
theorem full_fold {fr : List (List Nat × Nat)} {S : List (List Nat)} (hS : GoodS fr S) : 46 ∉ S.foldr lay (List.replicate fr.length 46) := by
  have ln : ∀ s ∈ S, s.length = fr.length := fun s h => isRow_len (hS.rw s h).1
  have key : ∀ X : List (List Nat), (∀ s ∈ X, s.length = fr.length) → (X.foldr lay (List.replicate fr.length 46)).length = fr.length ∧ ∀ k c, (X.foldr lay (List.replicate fr.length 46))[k]? = some c → (∃ s ∈ X, Mk0 s k) → c ≠ 46 := by
    intro X
    induction X with
    | nil => intro _; exact ⟨by simp, fun k c _ h => by obtain ⟨s, hs, _⟩ := h; cases hs⟩
    | cons a X ih =>
      intro hX
      obtain ⟨h1, h2⟩ := ih fun s hs => hX s (List.mem_cons_of_mem _ hs)
      have ha := hX a List.mem_cons_self
      refine ⟨by rw [List.foldr_cons, lay_len (by omega)]; exact ha, fun k c hc hm => ?_⟩
      rw [List.foldr_cons] at hc
      have hk : k < fr.length := by
        have := (List.getElem?_eq_some_iff.mp hc).1
        rw [lay_len (by omega), ha] at this
        exact this
      obtain ⟨x, hx⟩ := get_some (t := a) (k := k) (by omega)
      obtain ⟨y, hy⟩ := get_some (t := X.foldr lay (List.replicate fr.length 46)) (k := k) (by omega)
      rw [lay_get hx hy] at hc
      by_cases e : x = 46
      · rw [if_pos e] at hc
        cases hc
        refine h2 k _ hy ?_
        obtain ⟨s, hs, c2, h3, h4⟩ := hm
        rcases List.mem_cons.mp hs with rfl | hs
        · rw [h3] at hx; cases hx; exact absurd e h4
        · exact ⟨s, hs, c2, h3, h4⟩
      · rw [if_neg e] at hc
        cases hc
        exact e
  obtain ⟨h1, h2⟩ := key S ln
  intro hm
  obtain ⟨k, hk⟩ := List.mem_iff_getElem?.mp hm
  have hk2 := (List.getElem?_eq_some_iff.mp hk).1
  exact h2 k 46 hk (hS.all k (by omega)) rfl
theorem lot_full {n : Nat} {r : List Nat} (hr : r.length = n) (h : 46 ∉ r) : lot r = List.replicate n 43 := by
  subst hr
  refine List.eq_replicate_iff.mpr ⟨lot_len r, fun c hc => ?_⟩
  obtain ⟨a, ha, rfl⟩ := List.mem_map.mp hc
  rw [if_neg fun e : a = 46 => h (e ▸ ha)]
theorem lot_rep46 (n : Nat) : lot (List.replicate n 46) = List.replicate n 46 := by
  unfold lot
  rw [List.map_replicate]
  rfl
/-- the lots of a drawn band -/
structure LotsOk (n : Nat) (L : List (List Nat)) : Prop where
  nd : L.Nodup
  s : ∀ l ∈ L, LotS l
  len : ∀ l ∈ L, l.length = n
  few : L.length ≤ 40
  pos : 0 < L.length
  up : UpO L
  first : L[0]? = some (List.replicate n 46)
  last : ∃ A, L = A ++ [List.replicate n 43] ∧ ∀ l ∈ A, 46 ∈ l ∧ inB l (List.replicate n 43) = true
  uni : ∀ a ∈ L, ∀ b ∈ L, uni a b ∈ L
theorem lots_ok {fr : List (List Nat × Nat)} {S X : List (List Nat)} (h : WorldOk fr S X 40) : LotsOk fr.length (lotsF X) := by
  have ln : ∀ s ∈ S, s.length = fr.length := fun s hs => isRow_len (h.good.rw s hs).1
  have lx : ∀ r ∈ X, r.length = fr.length := fun r hr => ((h.clo.mem r).mp hr).len ln
  have hs := lotsF_S (Y := X)
  have hl := lotsF_len lx
  have hnd : (lotsF X).Nodup := ordF_nd _ _
  have hpw : (lotsF X).Pairwise (LeT gC) := ordF_pw _ _
  have h0 : List.replicate fr.length 46 ∈ lotsF X := by
    refine ordF_mem.mpr (List.mem_map.mpr ⟨List.replicate fr.length 46, (h.clo.mem _).mpr .base, lot_rep46 _⟩)
  have h1 : List.replicate fr.length 43 ∈ lotsF X := by
    have hc := cl_fold (S := S) (n := fr.length) S fun s hs => hs
    exact ordF_mem.mpr (List.mem_map.mpr ⟨_, (h.clo.mem _).mpr hc, lot_full (hc.len ln) (full_fold h.good)⟩)
  refine ⟨hnd, hs, hl, Nat.le_trans lotsF_few h.clo.len, List.length_pos_of_mem h0, up_lots hpw hnd hs hl, ?_, ?_, ?_⟩
  · generalize lotsF X = L at *
    cases L with
    | nil => cases h0
    | cons a t =>
      rcases List.mem_cons.mp h0 with e | e
      · rw [e]; rfl
      · have := (List.pairwise_cons.mp hpw).1 _ e
        have ga := gC_nn (l := a)
        have g0 := gC_rep46 fr.length
        have hz : gC a = 0 := by
          rcases this with h | h
          · omega
          · omega
        have := gC_0 (hs a List.mem_cons_self) hz
        rw [hl a List.mem_cons_self] at this
        rw [this]
        rfl
  · generalize lotsF X = L at *
    obtain ⟨A, z, rfl⟩ : ∃ A z, L = A ++ [z] := by
      have hne : L ≠ [] := fun e => by rw [e] at h0; cases h0
      exact ⟨L.dropLast, L.getLast hne, (List.dropLast_concat_getLast hne).symm⟩
    have hz : z = List.replicate fr.length 43 := by
      rcases List.mem_append.mp h1 with e | e
      · have hzm : z ∈ A ++ [z] := List.mem_append.mpr (.inr List.mem_cons_self)
        have := (List.pairwise_append.mp hpw).2.2 _ e z List.mem_cons_self
        have gz := gC_le (l := z)
        rw [hl z hzm] at gz
        have g1 := gC_rep43 fr.length
        have hg : gC z = (z.length : Nat) := by
          rw [hl z hzm]
          rcases this with h | h
          · omega
          · omega
        have := gC_full hg
        rw [hl z hzm] at this
        exact this
      · exact (List.mem_singleton.mp e).symm
    subst hz
    refine ⟨A, rfl, fun l hlA => ⟨?_, inB_full⟩⟩
    have hm : l ∈ A ++ [List.replicate fr.length 43] := List.mem_append.mpr (.inl hlA)
    refine Classical.byContradiction fun h46 => ?_
    have e : l = List.replicate fr.length 43 := List.eq_replicate_iff.mpr ⟨hl l hm, fun c hc => (hs l hm c hc).resolve_left fun e => h46 (e ▸ hc)⟩
    exact (List.nodup_append.mp hnd).2.2 l hlA _ List.mem_cons_self e
  · intro a ha b hb
    obtain ⟨r, hr, rfl⟩ := List.mem_map.mp (ordF_mem.mp ha)
    obtain ⟨s, hs2, rfl⟩ := List.mem_map.mp (ordF_mem.mp hb)
    rw [← lot_lay (by rw [lx r hr, lx s hs2])]
    exact ordF_mem.mpr (List.mem_map_of_mem ((h.clo.mem _).mpr (cl_lay ln ((h.clo.mem r).mp hr) ((h.clo.mem s).mp hs2))))


/-! ### lots are right -/
section
variable {P : Program} {w : World} {K : PySem.W.Frag} {mg : Str → Option Value} {base : Heap}
theorem fit_S {L : List (List Nat)} {n : Nat} (h : L.length ≤ 1000) : fitM (n + 1) (.lst (L.map eS)) := fitM_L (by rw [List.length_map]; omega) fun e he => by
  obtain ⟨a, _, rfl⟩ := List.mem_map.mp he
  exact fitM_sc rfl _
theorem flat_L {L : List (List Nat)} (h : ∀ l ∈ L, LotS l) : ∀ d ∈ L.map eS, Flat d := flat_S fun l hl => (h l hl).lt
theorem rev_mut {M : Addr → Prop} {I : Hp → Prop} {H : Hp} {Q : VK} {p : Addr} {xs : List V} (hw : Wf M I) (hp : ¬ M p) (hI : Iq I p (.lst xs) H) (q : ∀ H', Ex (Mq M p) H H' → Iq I p (.lst xs.reverse) H' → Q .non H') : rReverse (.ref p) [] H Q := by
  refine ⟨p, xs, rfl, rfl, hI.2, ?_⟩
  obtain ⟨i, e⟩ := hw.put (o' := .lst xs.reverse) hp hI
  exact q _ e i
def spLotsR (K : PySem.W.Frag) : Sp := fun vs H Q _ => ∃ (M : Addr → Prop) (I : Hp → Prop) (b : Addr) (x y z : V) (fr : List (List Nat × Nat)) (S X : List (List Nat)), Wf M I ∧ I H ∧ HasBag M I b ∧ vs = [.ref b, x, y, z] ∧ BandOk K M H x fr S X ∧ WorldOk fr S X 40 ∧ Rep K M H y (.lst (X.map eS)) ∧ Rep K M H z (.lst ((lotsF X).map eS)) ∧ ∀ H', Ex M H H' → I H' → Q (.bl true) H'
theorem ok_lots_right (B : Bl mg) (CB : ClsF K "Band" fl_Band) (G1 : DfM P w K mg base 1 "Band" "lots" ["self"] [] (spBLots K)) (G2 : Df P w K mg base 1 "_law_lot" ["_law_row"] [] (spLot K)) (G3 : Df P w K mg base 2 "_law_pick" ["_law_bag", "_law_some"] [] (spOf K)) (G4 : Df P w K mg base 5 "_law_same" ["_law_found", "_law_due"] [] (spSame K 4)) (G5 : Df P w K mg base 2 "_law_taken" ["_law_bag", "_law_some", "_law_many"] [] (spTak K)) (G6 : Df P w K mg base 1 "_law_union" ["_law_one", "_law_other"] [] (spUni K)) (G7 : Df P w K mg base 1 "_law_within" ["_law_one", "_law_other"] [] (spInW K)) (G8 : Df P w K mg base 1 "lot_of" ["row"] [] (spLot K)) (G9 : Df P w K mg base 4 "ordered_lots" ["lots"] [] (spOrd K)) (G10 : Df P w K mg base 1 "union" ["one", "other"] [] (spUni K)) (G11 : Df P w K mg base 1 "within" ["one", "other"] [] (spIn K)) : Bok P w K mg base 6 "_law_lots_right" s__law_lots_right ["_law_bag", "_law_band", "_law_some", "_law_lots"] (spLotsR K) := by
  refine Bok.mk sc__law_lots_right (fun vs H Q E h => ?_) (fun f cdv A outer s H vs Q E hr h => ⟨_, w__law_lots_right B CB G1 G2 G3 G4 G5 G6 G7 G8 G9 G10 G11 hr, ?_⟩)
  · obtain ⟨M, I, b, x, y, z, fr, S, X, _, _, _, rfl, _⟩ := h
    rfl
  · obtain ⟨M, I, b, x, y, z, fr, S, X, hw, hI, hB, rfl, hx, hok, hy, hz, q⟩ := h
    have lk := lots_ok hok
    have hn6 := hok.l2
    have hX40 := hok.clo.len
    have ln : ∀ s ∈ S, s.length = fr.length := fun s hs => isRow_len (hok.good.rw s hs).1
    have lx : ∀ r ∈ X, r.length = fr.length := fun r hr => ((hok.clo.mem r).mp hr).len ln
    have hLdef : lotsF X = ordF gC (X.map lot) := rfl
    generalize hL : lotsF X = L at *
    have few := lk.few
    unfold t__law_lots_right
    refine st_eq (σ' := [some (.ref b), some x, some y, some z, none, none, none, none, none]) rfl ?_
    walk_at "sx"
    with_reducible refine sx_meth ?_
    walk_at "sx"
    refine hx.meth (by decide) ?_
    walk_at "sx"
    refine ⟨M, I, x, fr, S, X, hw, hI, rfl, hx, fun p1 H1 _ e1 i1 r1 => ?_⟩
    rw [← hLdef] at r1
    walk_at "sx"
    refine ⟨M, I, _, _, _, hw, i1, rfl, r1, hz.ex e1, fit_S (by omega), fun H2 e2 i2 => ?_⟩
    walk_at "sx"
    have e02 := e1.trans e2
    refine for_src (M := M) (as := L) (enc := eS) (hz.ex e02) rfl (fun k σ H3 => ∃ (u4 u5 : Option V), σ = [some (.ref b), some x, some y, some z, u4, u5, none, none, none] ∧ I H3 ∧ Ex M H2 H3)
      ⟨_, _, rfl, i2, Ex.refl _⟩ (fun k σ H h => by obtain ⟨_, _, _, _, h⟩ := h; exact h) ?_ ?_
    · rintro k l v σ H3 hl ⟨u4, u5, rfl, i3, e3⟩ rv
      cases rep_str rv
      have hlL := List.mem_of_getElem? hl
      dsimp only [List.set_cons_zero, List.set_cons_succ]
      have e03 := e02.trans e3
      walk_at "sx"
      refine ⟨M, I, b, z, _, _, hw, i3, hB, rfl, hz.ex e03, rfl, by rw [List.length_map]; exact lk.pos, by rw [List.length_map]; omega, fun v4 d4 H4 hd4 r4 e4 i4 => ?_⟩
      obtain ⟨m, hmL, rfl⟩ := List.mem_map.mp hd4
      cases rep_str r4
      have ll := lk.len l hlL
      have lm := lk.len m hmL
      walk_at "sx"
      refine ⟨_, _, l, m, hw, i4, rfl, by omega, fun H5 e5 i5 => ?_⟩
      walk_at "sx"
      refine ⟨_, _, l, m, hw, i5, rfl, by omega, fun H6 e6 i6 => ?_⟩
      walk_at "sx"
      refine ⟨M, I, _, _, .str (T (uni l m)), hw, i6, rfl, .str _, .str _, fitM_sc rfl _, fun H7 e7 i7 => ?_⟩
      walk_at "sx"
      refine ⟨_, _, l, m, hw, i7, rfl, by omega, fun H8 e8 i8 => ?_⟩
      have e38 := e4.trans (e5.trans (e6.trans (e7.trans e8)))
      walk_at "sx"
      refine ni_L (ls := L) (hz.ex (e03.trans e38)) (.inl rfl) ?_
      rw [decide_eq_true (lk.uni l hlL m hmL)]
      walk_at "sx"
      refine ⟨_, _, l, m, hw, i8, rfl, by omega, lk.s l hlL, lk.s m hmL, by omega, fun H9 e9 i9 => ?_⟩
      walk_at "sx"
      refine ⟨_, _, l, m, hw, i9, rfl, by omega, fun H10 e10 i10 => ?_⟩
      walk_at "sx"
      refine ⟨M, I, _, _, .bl (inB l m), hw, i10, rfl, .bl _, .bl _, fitM_sc rfl _, fun H11 e11 i11 => ?_⟩
      walk_at "sx"
      exact ⟨_, _, rfl, i11, e3.trans (e38.trans (e9.trans (e10.trans e11)))⟩
    · rintro σ H3 ⟨u4, u5, rfl, i3, e3⟩
      have e03 := e02.trans e3
      have hz3 := hz.ex e03
      walk_at "sx"
      refine sl_Lto (n := 2) hw i3 hz3 fun v4 H4 e4 i4 r4 => ?_
      walk_at "sx"
      rw [← List.map_take] at r4
      refine add_LL hw i4 (hz3.ex e4) r4 (szOk (by rw [List.length_map, List.length_map, List.length_take]; omega)) fun v5 H5 e5 i5 r5 => ?_
      rw [← List.map_append] at r5
      walk_at "sx"
      refine len_R (hz3.ex (e4.trans e5)) (.inl rfl) ?_
      rw [List.length_map]
      walk_at "sx"
      have hmem : ∀ l ∈ L ++ L.take 2, l ∈ L := fun l hl => (List.mem_append.mp hl).elim id List.mem_of_mem_take
      refine ⟨M, I, b, v5, _, (L ++ L.take 2).map eS, L.length + 2, hw, i5, hB, by rw [show ((L.length : Nat) : Int) + 2 = ((L.length + 2 : Nat) : Int) by omega]; rfl, r5, .inl rfl, by rw [List.length_map, List.length_append, List.length_take]; omega, by omega, flat_L fun l hl => lk.s l (hmem l hl), fun p6 es rest H6 _ hperm hor hle e6 i6 r6 => ?_⟩
      have hrest : rest = [] := by
        rcases hor with h | h
        · exact h
        · have := hperm.length_eq
          rw [List.length_append, List.length_map, List.length_append, List.length_take] at this
          exact List.eq_nil_of_length_eq_zero (by omega)
      subst hrest
      rw [List.append_nil] at hperm
      obtain ⟨mx, rfl, hmx⟩ := perm_map hperm
      have e36 := e4.trans (e5.trans e6)
      have hz6 := hz3.ex e36
      have hmxm : ∀ l, l ∈ mx ↔ l ∈ L := fun l => by
        rw [hmx.mem_iff]
        exact ⟨hmem l, fun h => List.mem_append.mpr (.inl h)⟩
      walk_at "sx"
      refine ⟨M, I, _, _, mx, hw, i6, rfl, r6, .inl rfl, ?_, fun l hl => lk.s l ((hmxm l).mp hl), fun p7 H7 _ np7 hp7 e7 i7 => ?_⟩
      · rw [hmx.length_eq, List.length_append, List.length_take]; omega
      have r7 : Rep K M H7 (.ref p7) (.lst ((ordF gC mx).map eS)) := ord_rep np7 hp7
      rw [show ordF gC mx = L from by
        rw [hLdef]
        refine sort_two (ordF_pw _ _) (ordF_pw _ _) (ordF_nd _ _) (ordF_nd _ _) fun r => ?_
        rw [ordF_mem, hmxm, hLdef]] at r7
      walk_at "sx"
      refine ⟨M, I, _, _, _, hw, i7, rfl, r7, hz6.ex e7, fit_S (by omega), fun H8 e8 i8 => ?_⟩
      walk_at "sx"
      have e08 := (e03.trans e36).trans (e7.trans e8)
      refine lc_srcM (as := X) (enc := eS) (fun r => eS (lot r)) hw i8 (hy.ex e08) rfl (szOk (by omega)) (fun _ => rfl) ?_ ?_
      · intro L0 acc k r v H9 hL0 ha rv wf hi ex Qe qe
        cases rep_str rv
        have := lx r (List.mem_of_getElem? ha)
        walk_at "sx"
        refine ⟨_, _, r, wf, hi, rfl, by omega, fun H' e' i' => ?_⟩
        exact qe _ _ (.str _) i' e'
      intro y9 H9 r9 e9 i9
      walk_at "sx"
      refine lc_srcM (as := X) (enc := eS) (fun r => eS (lot r)) hw i9 (hy.ex (e08.trans e9)) rfl (szOk (by omega)) (fun _ => rfl) ?_ ?_
      · intro L0 acc k r v H9 hL0 ha rv wf hi ex Qe qe
        cases rep_str rv
        have := lx r (List.mem_of_getElem? ha)
        walk_at "sx"
        refine ⟨_, _, r, wf, hi, rfl, by omega, fun H' e' i' => ?_⟩
        exact qe _ _ (.str _) i' e'
      intro y10 H10 r10 e10 i10
      rw [show (X.map fun r => eS (lot r)) = (X.map lot).map eS by rw [List.map_map]; rfl] at r9 r10
      walk_at "sx"
      refine ⟨M, I, _, _, _, hw, i10, rfl, r9.ex e10, r10, fit_S (by rw [List.length_map]; omega), fun H11 e11 i11 => ?_⟩
      walk_at "sx"
      have e0B := e08.trans (e9.trans (e10.trans e11))
      with_reducible refine sx_meth ?_
      walk_at "sx"
      refine (hx.ex e0B).meth (by decide) ?_
      walk_at "sx"
      refine ⟨M, I, x, fr, S, X, hw, i11, rfl, hx.ex e0B, fun p12 H12 hp12 e12 i12 r12 => ?_⟩
      have np12 : ¬ M p12 := hw.fresh i11 hp12
      obtain ⟨xs12, h12⟩ : ∃ xs, H12 p12 = some (.lst xs) := by
        cases r12 with
        | lst h n r => exact ⟨_, h⟩
      have hxl : xs12.length ≤ 1000 := by
        cases r12 with
        | lst h n r =>
          rw [h12] at h
          cases h
          rw [r.length, List.length_map, ← hLdef]
          omega
      clear r12
      walk_at "sx"
      refine ⟨tyv_l h12, ?_⟩
      walk_at "sx"
      refine rev_mut hw np12 ⟨i12, h12⟩ fun H13 e13 i13 => ?_
      walk_at "sx"
      refine ⟨tyv_l i13.2, ?_⟩
      walk_at "sx"
      refine app_mut hw np12 i13 (by rw [List.length_reverse]; omega) fun H14 e14 _ i14 => ?_
      have e0E : Ex M H H14 := e0B.trans ((((Ex.wide e12).trans e13).trans e14).shut hp12)
      walk_at "sx"
      with_reducible refine sx_meth ?_
      walk_at "sx"
      refine (hx.ex e0E).meth (by decide) ?_
      walk_at "sx"
      refine ⟨M, I, x, fr, S, X, hw, i14.1, rfl, hx.ex e0E, fun p15 H15 _ e15 i15 r15 => ?_⟩
      rw [← hLdef] at r15
      walk_at "sx"
      refine ⟨M, I, _, _, _, hw, i15, rfl, r15, hz.ex (e0E.trans e15), fit_S (by omega), fun H16 e16 i16 => ?_⟩
      exact q H16 (e0E.trans (e15.trans e16)) i16
end


/-! ### signed counts are right -/
section
variable {P : Program} {w : World} {K : PySem.W.Frag} {mg : Str → Option Value} {base : Heap}
abbrev upD (us : List (List Nat × Int)) : List (Key × D) := us.map fun q => ((.inr (T q.1) : Key), D.int q.2)
theorem upD_rep {M : Addr → Prop} {H : Hp} {d : Addr} {us : List (List Nat × Int)} (h : H d = some (.dK (upK us))) (n : ¬ M d) : Rep K M H (.ref d) (.dct (upD us)) := by
  refine .dct h n (by rw [List.map_map, List.map_map]; rfl) ?_
  rw [List.map_map, List.map_map]
  exact Reps.scal (f := fun q : List Nat × Int => V.int q.2) (g := fun q : List Nat × Int => Nt.D.int q.2) (fun _ => .int _) _
theorem upD_nd {us : List (List Nat × Int)} (h : (us.map (·.1)).Nodup) : ((upD us).map (·.1)).Nodup := by
  have := nd_keys (L := us.map (·.1)) (f := fun _ => Nt.D.non) h
  rw [List.map_map] at this
  rw [List.map_map]
  exact this
theorem up_get {M : Addr → Prop} {H : Hp} {d : Addr} {us : List (List Nat × Int)} {l : List Nat} (h : H d = some (.dK (upK us)) ∨ ∃ od, H d = some (.frz od (.dK (upK us)))) (hl : l ∈ us.map (·.1)) : ∃ a v, V.ref d = .ref a ∧ DGet H a (.str (T l)) (some v) ∧ v = .int (getU us l) :=
  ⟨d, _, rfl, .inl ⟨_, .inr (T l), h, rfl, (up_val hl).symm⟩, rfl⟩
theorem fit_dct {us : List (List Nat × Int)} (h : us.length ≤ 1000) : fitM 4 (.dct (upD us)) := by
  refine .inr (.inr ⟨_, rfl, fitM_L (by rw [List.length_map, List.length_map]; omega) fun e he => ?_⟩)
  obtain ⟨kv, hkv, rfl⟩ := List.mem_map.mp he
  obtain ⟨q, _, rfl⟩ := List.mem_map.mp hkv
  refine fitM_T (by simp) fun e he => ?_
  simp only [List.mem_cons, List.not_mem_nil, or_false] at he
  rcases he with rfl | rfl
  · exact fitM_sc rfl _
  · exact fitM_sc rfl _
theorem putK_len {kvs : List (Key × V)} {k : Key} {v : V} : (putK kvs k v).length ≤ kvs.length + 1 := by
  unfold putK
  split <;> simp
def spSgR (K : PySem.W.Frag) : Sp := fun vs H Q _ => ∃ (M : Addr → Prop) (I : Hp → Prop) (x z : V) (fr : List (List Nat × Nat)) (S X : List (List Nat)), Wf M I ∧ I H ∧ vs = [x, z] ∧ BandOk K M H x fr S X ∧ WorldOk fr S X 40 ∧ Rep K M H z (.lst ((lotsF X).map eS)) ∧ ∀ H', Ex M H H' → I H' → Q (.bl true) H'
theorem ok_signed_right (B : Bl mg) (G1 : Df P w K mg base 1 "_law_in_order" ["_law_lots", "_law_table"] [] (spInOrd K)) (G2 : Df P w K mg base 1 "_law_number" ["_law_value"] [] (spNumb K)) (G3 : Df P w K mg base 5 "_law_same" ["_law_found", "_law_due"] [] (spSame K 4)) (G4 : Df P w K mg base 2 "_law_signed" ["_law_lots"] [] (spLSgn K)) (G5 : Df P w K mg base 1 "_law_within" ["_law_one", "_law_other"] [] (spInW K)) (G6 : Df P w K mg base 3 "signed_counts" ["band"] [] (spSgn K)) : Bok P w K mg base 6 "_law_signed_right" s__law_signed_right ["_law_band", "_law_lots"] (spSgR K) := by
  refine Bok.mk sc__law_signed_right (fun vs H Q E h => ?_) (fun f cdv A outer s H vs Q E hr h => ⟨_, w__law_signed_right B G1 G2 G3 G4 G5 G6 hr, ?_⟩)
  · obtain ⟨M, I, x, z, fr, S, X, _, _, rfl, _⟩ := h
    rfl
  · obtain ⟨M, I, x, z, fr, S, X, hw, hI, rfl, hx, hok, hz, q⟩ := h
    have lk := lots_ok hok
    have hn6 := hok.l2
    have hX40 := hok.clo.len
    have ln : ∀ s ∈ S, s.length = fr.length := fun s hs => isRow_len (hok.good.rw s hs).1
    have lx : ∀ r ∈ X, r.length = fr.length := fun r hr => ((hok.clo.mem r).mp hr).len ln
    generalize hL : lotsF X = L at *
    have few := lk.few
    obtain ⟨A, hA, hA2⟩ := lk.last
    generalize hf : List.replicate fr.length 43 = f at hA hA2
    have hf46 : 46 ∉ f := fun h => by rw [← hf] at h; exact absurd (List.eq_of_mem_replicate h) (by decide)
    have hAl : A.length + 1 = L.length := by rw [hA]; simp
    have hfL : f ∈ L := by rw [hA]; exact List.mem_append.mpr (.inr List.mem_cons_self)
    obtain ⟨us, hus⟩ : ∃ us, us = upF sg1 L := ⟨_, rfl⟩
    have hfst : us.map (·.1) = L := by rw [hus, upF_fst]
    have husl : us.length = L.length := by rw [← hfst, List.length_map]
    have husn : (us.map (·.1)).Nodup := by rw [hfst]; exact lk.nd
    have hrfst : us.reverse.map (·.1) = L.reverse := by rw [List.map_reverse, hfst]
    have hrn : (us.reverse.map (·.1)).Nodup := by rw [hrfst]; exact (List.reverse_perm L).nodup_iff.mpr lk.nd
    have hgf : getU us f = 1 := by
      obtain ⟨Z, h1, h2⟩ := upF_app (sm := sg1) (A := A) (B := [f])
      have : (f, (1 : Int)) ∈ us := by
        rw [hus, hA, h1]
        refine List.mem_append.mpr (.inr ?_)
        show _ ∈ [(f, sg1 f - 0)]
        unfold sg1
        rw [if_neg hf46]
        exact List.mem_cons_self
      exact getU_mem husn _ this
    have hsum : ∀ l ∈ A, ((L.filter fun o => inB l o).map (getU us)).sum = 0 := fun l hl => by
      have hlL : l ∈ L := by rw [hA]; exact List.mem_append.mpr (.inl hl)
      have e1 : ((L.filter fun o => inB l o).map (getU us)) = ((us.filter fun q => inB l q.1).map (·.2)) := by
        conv => lhs; rw [← hfst]
        rw [List.filter_map, List.map_map]
        exact List.map_congr_left fun q hq => getU_mem husn q (List.mem_filter.mp hq).1
      rw [e1]
      obtain ⟨A1, B1, hAB⟩ := List.append_of_mem hlL
      have h1 := up_sum (sm := sg1) (A := A1) (B := B1) (l := l) (hAB ▸ lk.up) (inB_self (lk.s l hlL))
      rw [← hAB, ← hus] at h1
      rw [h1]
      unfold sg1
      rw [if_pos (hA2 l hl).1]
    have hlen1000 : L.length ≤ 1000 := by omega
    unfold t__law_signed_right
    refine st_eq (σ' := [some x, some z, none, none, none, none]) rfl ?_
    walk_at "sx"
    refine ⟨M, I, x, fr, S, X, hw, hI, rfl, hx, by omega, lx, by omega, fun D1 H1 hD1 nD1 hv1 e1 i1 => ?_⟩
    rw [hL, ← hus] at hv1
    walk_at "sx"
    refine ⟨M, I, z, A, f, fr.length, hw, i1, rfl, by rw [← hA]; exact hz.ex e1, by rw [← hA]; exact lk.nd, by omega, by omega, by rw [← hA]; exact lk.len, hf46, hA2, fun D2 H2 hD2 nD2 hv2 e2 i2 => ?_⟩
    rw [← hA, ← hus] at hv2
    walk_at "sx"
    refine tup_raw hw i2 (by show 2 ≤ sizeLine; decide) fun pt H3 _ hpt e3 i3 => ?_
    refine gs_tup2 hpt ?_
    dsimp only [List.set_cons_zero, List.set_cons_succ]
    have h31 : H3 D1 = some (.dK (upK us)) := e3 D1 _ nD1 (e2 D1 _ nD1 hv1)
    have r31 : Rep K M H3 (.ref D1) (.dct (upD us)) := upD_rep h31 nD1
    have r32 : Rep K M H3 (.ref D2) (.dct (upD us.reverse)) := upD_rep (e3 D2 _ nD2 hv2) nD2
    have e03 := e1.trans (e2.trans e3)
    clear hpt
    walk_at "sx"
    refine kit_same (t := "dict") (b := true) (tyx_of r31 (.dct _)) (by decide +kernel) ?_
    walk_at "sx"
    with_reducible refine sx_listKeys ?_
    walk_at "sx"
    refine lkeys_R hw i3 r31 fun v4 H4 e4 i4 r4 => ?_
    rw [show ((upD us).map fun kv => keyD kv.1) = L.map eS by rw [← hfst, List.map_map, List.map_map]; rfl] at r4
    walk_at "sx"
    refine ⟨M, I, _, _, _, hw, i4, rfl, r4, hz.ex (e03.trans e4), fit_S hlen1000, fun H5 e5 i5 => ?_⟩
    walk_at "sx"
    have e35 := e4.trans e5
    have e05 := e03.trans e35
    refine lc_srcM (as := L) (enc := eS) (fun _ => .bl true) hw i5 (hz.ex e05) rfl (szOk (by omega)) (fun _ => rfl) ?_ ?_
    · intro L0 acc k l v H6 hL0 ha rv wf hi ex Qe qe
      cases rep_str rv
      have hl := List.mem_of_getElem? ha
      have ha1 : H6 D1 = some (.dK (upK us)) := ex D1 _ (fun m => m.elim nD1 fun e => by rw [e] at h31; have := Ex.non hw i5 (Ex.refl H5) hL0; rw [← e, e35 D1 _ nD1 (e ▸ h31)] at this; cases this) (e35 D1 _ nD1 h31)
      walk_at "sx"
      refine sx_dget ?_
      walk_at "sx"
      obtain ⟨a, v2, g1, g2, g3⟩ := up_get (M := M) (.inl ha1) (l := l) (by rw [hfst]; exact hl)
      refine ⟨a, v2, g1, g2, ?_⟩
      subst g3
      walk_at "sx"
      refine ⟨_, rfl, ?_⟩
      exact qe _ H6 (.bl _) hi (Ex.refl _)
    intro y6 H6 r6 e6 i6
    walk_at "sx"
    refine all_M (as := L) (fun _ => true) r6 ?_
    rw [show (L.all fun _ => true) = true by simp]
    have e36 := e35.trans e6
    have e06 := e03.trans e36
    have h61 := e36 D1 _ nD1 h31
    walk_at "sx"
    refine sx_dget ?_
    walk_at "sx"
    have hzA : ∀ {H' : Hp}, Ex M H H' → Rep K M H' z (.lst (A.map eS ++ [eS f])) := fun e => by
      have := hz.ex e
      rw [hA, List.map_append] at this
      exact this
    refine ix_last (hzA e06) fun v7 r7 => ?_
    cases rep_str r7
    obtain ⟨a, v2, g1, g2, g3⟩ := up_get (M := M) (.inl h61) (l := f) (by rw [hfst]; exact hfL)
    refine ⟨a, v2, g1, g2, ?_⟩
    subst g3
    rw [hgf]
    walk_at "sx"
    refine ifIsF (by simp) ?_
    walk_at "sx"
    refine sl_Lbut hw i6 (hzA e06) fun v8 H8 e8 i8 r8 => ?_
    have e38 := e36.trans e8
    have e08 := e06.trans e8
    refine for_src (M := M) (as := A) (enc := eS) r8 rfl (fun k σ H9 => ∃ (u4 : Option V), σ = [some x, some z, some (.ref D1), some (.ref D2), u4, none] ∧ I H9 ∧ Ex M H8 H9)
      ⟨_, rfl, i8, Ex.refl _⟩ (fun k σ H h => by obtain ⟨_, _, _, h⟩ := h; exact h) ?_ ?_
    · rintro k l v σ H9 hl ⟨u4, rfl, i9, e9⟩ rv
      cases rep_str rv
      have hlA := List.mem_of_getElem? hl
      have hlL : l ∈ L := by rw [hA]; exact List.mem_append.mpr (.inl hlA)
      have hll := lk.len l hlL
      have h91 := (e38.trans e9) D1 _ nD1 h31
      dsimp only [List.set_cons_zero, List.set_cons_succ]
      walk_at "sx"
      refine lc_srcF (as := L) (enc := eS) (fun o => inB l o) (fun o => .int (getU us o)) hw i9 (hz.ex (e08.trans e9)) rfl (szOk (by omega)) (fun _ => rfl) ?_ ?_ ?_
      · intro L0 acc k o v H10 hL0 ha rv wf hi ex Qt qt
        cases rep_str rv
        walk_at "sx"
        refine ⟨_, _, l, o, wf, hi, rfl, by omega, fun H11 e11 i11 => ?_⟩
        walk_at "sx"
        exact qt H11 i11 e11
      · intro L0 acc k o v H10 hL0 ha _ rv wf hi ex Qe qe
        cases rep_str rv
        have ho := List.mem_of_getElem? ha
        have ha1 : H10 D1 = some (.dK (upK us)) := ex D1 _ (fun m => m.elim nD1 fun e => by rw [← e, h91] at hL0; cases hL0) h91
        walk_at "sx"
        refine sx_dget ?_
        walk_at "sx"
        obtain ⟨a, v2, g1, g2, g3⟩ := up_get (M := M) (.inl ha1) (l := o) (by rw [hfst]; exact ho)
        refine ⟨a, v2, g1, g2, ?_⟩
        subst g3
        exact qe _ H10 (.int _) hi (Ex.refl _)
      · intro y10 H10 r10 e10 i10
        rw [show ((L.filter fun o => inB l o).map fun o => Nt.D.int (getU us o)) = ((L.filter fun o => inB l o).map (getU us)).map fun i => Nt.D.int i by rw [List.map_map]; rfl] at r10
        walk_at "sx"
        refine sum_Z r10 ?_
        rw [hsum l hlA]
        walk_at "sx"
        refine ifIsF (by simp) ?_
        walk_at "sx"
        exact ⟨_, rfl, i10, e9.trans e10⟩
    · rintro σ H9 ⟨u4, rfl, i9, e9⟩
      have e09 := e08.trans e9
      have e39 := e38.trans e9
      have h91 := e39 D1 _ nD1 h31
      have r92 := r32.ex e39
      have hl0 : List.replicate fr.length 46 ∈ L := List.mem_of_getElem? lk.first
      generalize hl0d : List.replicate fr.length 46 = l0 at hl0
      have hfst0 : (L.map eS)[0]? = some (eS l0) := by rw [List.getElem?_map, lk.first, hl0d]; rfl
      walk_at "sx"
      refine sx_dget ?_
      walk_at "sx"
      refine ix_R (n := 0) (hz.ex e09) (.inl rfl) hfst0 fun v10 r10 => ?_
      cases rep_str r10
      obtain ⟨a, v2, g1, g2, g3⟩ := up_get (M := M) (.inl h91) (l := l0) (by rw [hfst]; exact hl0)
      refine ⟨a, v2, g1, g2, ?_⟩
      subst g3
      walk_at "sx"
      refine sx_dget ?_
      walk_at "sx"
      refine ix_R (n := 0) (hz.ex e09) (.inl rfl) hfst0 fun v11 r11 => ?_
      cases rep_str r11
      have h92 : H9 D2 = some (.dK (upK us.reverse)) := e39 D2 _ nD2 (e3 D2 _ nD2 hv2)
      obtain ⟨a, v2, g1, g2, g3⟩ := up_get (M := M) (.inl h92) (l := l0) (by rw [hrfst]; exact List.mem_reverse.mpr hl0)
      refine ⟨a, v2, g1, g2, ?_⟩
      subst g3
      rw [getU_rev husn (by rw [hfst]; exact hl0)]
      walk_at "sx"
      refine ifIsF (by simp) ?_
      refine sx_next ?_
      with_reducible refine sx_seq ?_
      with_reducible refine sx_dput ?_
      walk_at "sx"
      refine ix_R (n := 0) (hz.ex e09) (.inl rfl) hfst0 fun v12 r12 => ?_
      cases rep_str r12
      walk_at "sx"
      refine ⟨_, _, rfl, DPut.k (k := .inr (T l0)) h91 (by rw [List.length_map]; exact Nat.lt_of_le_of_lt (show us.length ≤ 1000 by omega) (by decide)), ?_⟩
      have hpl : (putK (upK us) (.inr (T l0)) (.int 77)).length ≤ 1001 := by
        have := putK_len (kvs := upK us) (k := .inr (T l0)) (v := .int 77)
        rw [List.length_map] at this
        omega
      generalize putK (upK us) (.inr (T l0)) (.int 77) = kv1 at hpl
      obtain ⟨i10, e10⟩ := hw.put (o' := .dK kv1) nD1 (⟨i9, h91⟩ : Iq I D1 (.dK (upK us)) H9)
      generalize upd H9 D1 (.dK kv1) = H10 at i10 e10
      with_reducible refine sx_seq ?_
      with_reducible refine sx_dput ?_
      walk_at "sx"
      refine ⟨_, _, rfl, DPut.k (k := .inr (T [120])) i10.2 (Nat.lt_of_le_of_lt hpl (by decide)), ?_⟩
      generalize putK kv1 (.inr (T [120])) (.int 5) = kv2
      obtain ⟨i11, e11⟩ := hw.put (o' := .dK kv2) nD1 i10
      generalize upd H10 D1 (.dK kv2) = H11 at i11 e11
      have n21 : D2 ≠ D1 := fun e => by rw [e, hv1] at hD2; cases hD2
      have h112 : H11 D2 = some (.dK (upK us.reverse)) := (e10.trans e11) D2 _ (fun m => m.elim nD2 n21) h92
      have e19 : Ex M H1 H9 := (e2.trans e3).trans e39
      have e0B : Ex M H H11 := (((Ex.wide e1 : Ex (Mq M D1) H H1).trans (Ex.wide e19)).trans (e10.trans e11)).shut hD1
      walk_at "sx"
      refine ⟨M, I, x, fr, S, X, hw, i11.1, rfl, hx.ex e0B, by omega, lx, by omega, fun D3 H12 hD3 nD3 hv3 e12 i12 => ?_⟩
      rw [hL, ← hus] at hv3
      walk_at "sx"
      refine ⟨M, I, z, .ref D2, L, us.reverse, hw, i12, rfl, hz.ex (e0B.trans e12), lk.nd, hlen1000, (upD_rep h112 nD2).ex e12, hrn, fun l hl => by rw [hrfst]; exact List.mem_reverse.mpr hl, fun v13 H13 e13 i13 r13 => ?_⟩
      rw [show (L.map fun l => ((.inr (T l) : Key), Nt.D.int (getU us.reverse l))) = upD us from by
        conv => lhs; rw [← hfst]
        rw [List.map_map]
        refine List.map_congr_left fun q hq => ?_
        show ((.inr (T q.1) : Key), Nt.D.int (getU us.reverse q.1)) = _
        rw [getU_rev husn (List.mem_map_of_mem hq), getU_mem husn q hq]] at r13
      walk_at "sx"
      refine ⟨M, I, .ref D3, v13, _, hw, i13, rfl, (upD_rep hv3 nD3).ex e13, r13, fit_dct (by omega), fun H14 e14 i14 => ?_⟩
      exact q H14 (e0B.trans (e12.trans (e13.trans e14))) i14
end


/-! ### the law -/
section
variable {K : PySem.W.Frag} {M : Addr → Prop} {I : Hp → Prop} {H : Hp}
theorem new_band {v3 v4 : V} {fr : List (List Nat × Nat)} {S Y : List (List Nat)} {Z : Addr → Hp → Prop} (hw : Wf M I) (hI : I H) (r3 : Rep K M H v3 (.lst (fr.map eC))) (r4 : Rep K M H v4 (.lst (S.map eS))) (ok : FrOk fr) (nd : (fr.map (·.1)).Nodup) (l1 : 1 ≤ fr.length) (l2 : fr.length ≤ 12) (hs : S.length ≤ 30) (good : GoodS fr S) (hY : RowsOf S fr.length Y)
    (q : ∀ x H', H x = none → BandOk K M H' (.ref x) fr S Y → Ex M H H' → I H' → Z x H') : ∀ x dx, H x = none → H dx = none → dx ≠ x → spInit K (.ref x :: ([v3, v4] ++ [.int 800])) (upd (upd H dx (.own x)) x (.ins (He.ga K "Band") dx [])) (fun v H2 => v = .non ∧ Z x H2) E0 := by
  intro x dx hx hdx ne
  obtain ⟨nx, ex, ix⟩ := made hw hI (He.ga K "Band") hx hdx ne
  have rcx := (r3.off hx).ex (Ex.wide (p := x) ex)
  have ryx := (r4.off hx).ex (Ex.wide (p := x) ex)
  generalize upd (upd H dx (.own x)) x (.ins (He.ga K "Band") dx []) = H7 at ex ix rcx ryx
  refine ⟨_, _, x, dx, v3, v4, fr, S, Y, hw, nx, ix, rfl, rcx, ok, nd, l1, l2, ryx, hs, good, hY, fun fs R0 H8 hR0 hF e8 i8 => ⟨rfl, ?_⟩⟩
  have e68 : Ex M H H8 := ((Ex.wide (p := x) ex).trans e8).shut hx
  exact q x H8 hx ⟨R0, hR0, x, dx, fs, rfl, nx, i8.2, fun f d hf => by obtain ⟨u, l1, r1⟩ := hF.1 f d hf; exact ⟨u, l1, r1.le fun _ m => .inl m⟩, hF.2⟩ e68 i8.1
theorem gs_unl3 {H : Hp} {v : V} {i j k : Nat} {G : L2.St → Hp → Prop} {σ : L2.St} {d e f : D} (h : Rep K M H v (.lst [d, e, f])) (q : ∀ x y z, Rep K M H x d → Rep K M H y e → Rep K M H z f → G (((σ.set i (some x)).set j (some y)).set k (some z)) H) : gUnl K 3 (gCons (gName i) (gCons (gName j) (gCons (gName k) gNil))) v σ H G := by
  cases h with
  | lst h n r => cases r with
    | cons r1 r2 => cases r2 with
      | cons r2 r3 => cases r3 with
        | cons r3 r4 => cases r4; exact ⟨_, _, rfl, SqL.of h, rfl, _, _, rfl, _, _, rfl, _, _, rfl, rfl, q _ _ _ r1 r2 r3⟩
theorem for_rawL {g : TG} {p : Addr} {xs : List V} {tb : TS} {E : Ends} {σ : L2.St} (hp : H p = some (.lst xs)) (Pv : Nat → L2.St → Hp → Prop) (h0 : Pv 0 σ H) (hG : ∀ k σ H', Pv k σ H' → H' p = some (.lst xs))
    (hs : ∀ k v σ H', xs[k]? = some v → Pv k σ H' → g v σ H' fun σ2 H2 => tb { E with nx := Pv (k + 1), ct := Pv (k + 1), bk := E.nx } σ2 H2) (hq : ∀ σ H', Pv xs.length σ H' → E.nx σ H') : srcR K (ForR g tb E σ) (.ref p) H := by
  refine .inl ⟨p, rfl, ⟨xs, SqL.of hp⟩, ?_⟩
  refine for_it (walk_list (K := K) (a := p) (xs := xs)) Pv h0 (fun k σ H' _ h => SqL.of (hG k σ H' h)) (fun k x σ H1 H' hk h y => ?_) hq
  obtain ⟨rfl, e2⟩ := y
  exact hs k x σ _ e2 h
theorem rowsA {S X : List (List Nat)} {n : Nat} (h : CloA S n 40 X) : RowsOf S n X where
  nd := h.up.imp fun h e => by rw [e] at h; exact List.lt_irrefl _ h
  so := up_sorted h.up
  len := h.len
  mem := h.mem
/-- a band with its rows and lots -/
def TriOk (K : PySem.W.Frag) (M : Addr → Prop) (H : Hp) (v : V) : Prop := ∃ (t : Addr) (x y z : V) (fr : List (List Nat × Nat)) (S X : List (List Nat)), v = .ref t ∧ ¬ M t ∧ H t = some (.tup [x, y, z]) ∧ BandOk K M H x fr S X ∧ WorldOk fr S X 40 ∧ Rep K M H y (.lst (X.map eS)) ∧ Rep K M H z (.lst ((lotsF X).map eS))
theorem TriOk.ex {H' : Hp} {v : V} (h : TriOk K M H v) (e : Ex M H H') : TriOk K M H' v := by
  obtain ⟨t, x, y, z, fr, S, X, h1, h2, h3, h4, h5, h6, h7⟩ := h
  exact ⟨t, x, y, z, fr, S, X, h1, h2, e _ _ h2 h3, h4.ex e, h5, h6.ex e, h7.ex e⟩
end
section
variable {P : Program} {w : World} {K : PySem.W.Frag} {mg : Str → Option Value} {base : Heap}
def spLaw (K : PySem.W.Frag) : Sp := fun vs H Q _ => ∃ (a : Addr) (ns : List Int), vs = [.ref a] ∧ SqL K H a (ns.map V.int) ∧ ns.length ≤ 63 ∧ ∀ H', Q (.bl true) H'
theorem ok_law (B : Bl mg) (CB : ClsF K "Band" fl_Band) (G1 : DfI P w K mg base 5 "Band" ["self", "cells", "seeds", "most"] [.int 800] (spInit K)) (G2 : DfM P w K mg base 1 "Band" "rows" ["self"] [] (spBRows K)) (G3 : Df P w K mg base 5 "_law_draw_world" ["_law_bag"] [] (spWorld K)) (G4 : Df P w K mg base 2 "_law_lots_of" ["_law_some"] [] (spLotsOf K)) (G5 : Df P w K mg base 6 "_law_lots_right" ["_law_bag", "_law_band", "_law_some", "_law_lots"] [] (spLotsR K)) (G6 : Df P w K mg base 5 "_law_same" ["_law_found", "_law_due"] [] (spSame K 4)) (G7 : Df P w K mg base 6 "_law_signed_right" ["_law_band", "_law_lots"] [] (spSgR K)) (G8 : Df P w K mg base 1 "_law_start" ["_law_script"] [] (spBag K))
    {f : Addr} {fd : FuncData} (F : FunD K "law" "law" (defArgs s_law) (defBody s_law) (defScope s_law) [] [] f fd) : FnOk P w K mg base (L2.CX P w) 7 f fd ["_law_script"] (spLaw K) := by
  refine F.ok sc_law (fun vs H Q E h => ?_) (fun cdv A outer s H vs Q E hr h => ⟨_, (w_law B CB G1 G2 G3 G4 G5 G6 G7 G8 hr).nox, ?_⟩)
  · obtain ⟨a, ns, rfl, _⟩ := h
    rfl
  · obtain ⟨a, ns, rfl, ha, hns, q⟩ := h
    unfold t_law
    refine st_eq (σ' := [some (.ref a), none, none, none, none, none, none, none, none]) rfl ?_
    walk_at "sx"
    refine ⟨a, ns, rfl, ha, hns, fun b l H1 hbl bok => ?_⟩
    have hw := wfB (b := b) (l := l)
    have hB := hasB hbl
    have i1 : IB b l H1 := bok
    generalize MB b l = M at hw hB
    generalize IB b l = I at hw hB i1
    walk_at "sx"
    refine lst_mut hw i1 (by decide) fun p H2 hp np e2 w2 i2 => ?_
    clear w2
    have hWp : ∀ xs, Wf (Mq M p) (Iq I p (.lst xs)) := fun xs => hw.add p _
    have hBp : ∀ xs, HasBag (Mq M p) (Iq I p (.lst xs)) b := fun xs => hB.add np
    walk_at "sx"
    refine ⟨_, rfl, by decide, by decide, ?_⟩
    refine for_rng (fun k σ H3 => ∃ (u3 u4 u5 u6 u7 : Option V) (xs : List V), σ = [some (.ref a), some (.ref b), some (.ref p), u3, u4, u5, u6, u7, none] ∧ xs.length = k ∧ (∀ v ∈ xs, TriOk K (Mq M p) H3 v) ∧ Iq I p (.lst xs) H3)
      ⟨_, _, _, _, _, [], rfl, rfl, (fun v h => nomatch h), i2⟩ ?_ ?_
    · rintro k σ H3 hk ⟨u3, u4, u5, u6, u7, xs, rfl, hxk, hxs, i3⟩
      dsimp only [List.set_cons_zero, List.set_cons_succ]
      walk_at "sx"
      refine ⟨_, _, b, hWp _, i3, hBp _, rfl, fun v4 fr S X H4 hm e4 i4 r4 => ?_⟩
      have ln : ∀ s ∈ S, s.length = fr.length := fun s hs => isRow_len (hm.good.rw s hs).1
      have lx : ∀ r ∈ X, r.length = fr.length := fun r hr => ((hm.clo.mem r).mp hr).len ln
      have lk := lots_ok hm
      have hf1 := hm.l1
      have hf := hm.l2
      have hX40 := hm.clo.len
      have hs2 := hm.s2
      walk_at "sx"
      refine gs_unl3 r4 fun c y z rc ry rz => ?_
      dsimp only [List.set_cons_zero, List.set_cons_succ]
      walk_at "sx"
      refine ⟨_, _, z, X, hWp _, i4, rfl, rz, by omega, fun r hr => by rw [lx r hr]; omega, fun v5 H5 e5 i5 r5 => ?_⟩
      have r5 : Rep K (Mq M p) H5 v5 (.lst ((lotsF X).map eS)) := r5
      obtain ⟨A, hA, _⟩ := lk.last
      walk_at "sx"
      refine ix_R (n := 0) (e := eS (List.replicate fr.length 46)) r5 (.inl rfl) (by rw [List.getElem?_map, lk.first]; rfl) fun v6 r6 => ?_
      cases rep_str r6
      walk_at "sx"
      refine len_R (rc.ex e5) (.inl rfl) ?_
      rw [List.length_map]
      walk_at "sx"
      refine mul_Ti (by omega) (by decide) ?_
      rw [List.flatten_replicate_singleton]
      walk_at "sx"
      rw [decide_eq_true rfl]
      refine ifIsF rfl ?_
      walk_at "sx"
      have r5A := r5
      rw [hA, List.map_append] at r5A
      refine ix_last r5A fun v7 r7 => ?_
      cases rep_str r7
      walk_at "sx"
      refine len_R (rc.ex e5) (.inl rfl) ?_
      rw [List.length_map]
      walk_at "sx"
      refine mul_Ti (by omega) (by decide) ?_
      rw [List.flatten_replicate_singleton]
      walk_at "sx"
      rw [decide_eq_true rfl]
      refine ifIsF rfl ?_
      walk_at "sx"
      refine ⟨tyv_l i5.2, ?_⟩
      walk_at "sx"
      with_reducible refine sx_make ?_
      walk_at "sx"
      refine list_R (hWp _) i5 (rc.ex e5) (.inl rfl) fun v8 H8 e8 i8 r8 => ?_
      walk_at "sx"
      refine list_R (hWp _) i8 (ry.ex (e5.trans e8)) (.inl rfl) fun v9 H9 e9 i9 r9 => ?_
      walk_at "sx"
      refine new_band (hWp _) i9 (r8.ex e9) r9 hm.ok hm.nd hm.l1 (by omega) (by omega) hm.good (rowsA hm.clo) fun x H10 _ hb e10 i10 => ?_
      have e510 := e8.trans (e9.trans e10)
      walk_at "sx"
      refine tup_raw (hWp _) i10 (by show 3 ≤ sizeLine; decide) fun pt H11 npt hpt e11 i11 => ?_
      walk_at "sx"
      refine app_mut hw np i11 (by omega) fun H12 e12 _ i12 => ?_
      have e312 : Ex (Mq M p) H3 H12 := (e4.trans e5).trans (e510.trans (e11.trans e12))
      refine ⟨_, _, _, _, _, xs ++ [.ref pt], rfl, by simp [hxk], fun v hv => ?_, i12⟩
      rcases List.mem_append.mp hv with h | h
      · exact (hxs v h).ex e312
      · rw [List.mem_singleton.mp h]
        have e1012 := e11.trans e12
        refine ⟨pt, .ref x, z, v5, fr, S, X, rfl, npt, e12 _ _ npt hpt, hb.ex e1012, hm, rz.ex (e5.trans (e510.trans e1012)), r5.ex (e510.trans e1012)⟩
    · rintro σ H3 ⟨u3, u4, u5, u6, u7, xs, rfl, hxk, hxs, i3⟩
      walk_at "sx"
      refine ⟨_, rfl, by decide, by decide, ?_⟩
      refine for_rng (fun k σ H4 => ∃ (u3 u4 u5 u6 u7 u8 : Option V), σ = [some (.ref a), some (.ref b), some (.ref p), u3, u4, u5, u6, u7, u8] ∧ Iq I p (.lst xs) H4 ∧ Ex (Mq M p) H3 H4)
        ⟨_, _, _, _, _, _, rfl, i3, Ex.refl _⟩ ?_ ?_
      · rintro j σ H4 hj ⟨u3, u4, u5, u6, u7, u8, rfl, i4, e4⟩
        dsimp only [List.set_cons_zero, List.set_cons_succ]
        walk_at "sx"
        refine for_rawL i4.2 (fun k σ H5 => ∃ (u3 u4 u5 u6 u7 u8 : Option V), σ = [some (.ref a), some (.ref b), some (.ref p), u3, u4, u5, u6, u7, u8] ∧ Iq I p (.lst xs) H5 ∧ Ex (Mq M p) H3 H5)
          ⟨_, _, _, _, _, _, rfl, i4, e4⟩ (fun k σ H' h => by obtain ⟨_, _, _, _, _, _, _, h, _⟩ := h; exact h.2) ?_ ?_
        · rintro k v σ H5 hv ⟨u3, u4, u5, u6, u7, u8, rfl, i5, e5⟩
          obtain ⟨t, x, y, z, fr, S, X, rfl, nt, ht, hb, hm, ry, rz⟩ := (hxs v (List.mem_of_getElem? hv)).ex e5
          have hX40 := hm.clo.len
          refine gs_tup3 ht ?_
          dsimp only [List.set_cons_zero, List.set_cons_succ]
          walk_at "sx"
          refine ⟨_, _, b, x, y, z, fr, S, X, hWp _, i5, hBp _, rfl, hb, hm, ry, rz, fun H6 e6 i6 => ?_⟩
          walk_at "sx"
          refine ⟨_, _, x, z, fr, S, X, hWp _, i6, rfl, hb.ex e6, hm, rz.ex e6, fun H7 e7 i7 => ?_⟩
          have e57 := e6.trans e7
          walk_at "sx"
          with_reducible refine sx_meth ?_
          walk_at "sx"
          refine (hb.ex e57).meth (by decide) ?_
          walk_at "sx"
          refine ⟨_, _, x, fr, S, X, hWp _, i7, rfl, hb.ex e57, fun v8 H8 e8 i8 r8 => ?_⟩
          walk_at "sx"
          refine ⟨_, _, _, _, _, hWp _, i8, rfl, r8, ry.ex (e57.trans e8), fit_S (by omega), fun H9 e9 i9 => ?_⟩
          walk_at "sx"
          exact ⟨_, _, _, _, _, _, rfl, i9, e5.trans (e57.trans (e8.trans e9))⟩
        · rintro σ H5 ⟨u3, u4, u5, u6, u7, u8, rfl, i5, e5⟩
          exact ⟨_, _, _, _, _, _, rfl, i5, e5⟩
      · rintro σ H4 ⟨u3, u4, u5, u6, u7, u8, rfl, i4, e4⟩
        walk_at "sx"
        exact q H4
end


end H48
namespace Hd48
open PySem PySem.Spec PyProof.Rows Nt G48
open L2 hiding rLen
theorem all_ok {P : Program} {w : World} {K : PySem.W.Frag} {h base : Heap} {mg : Str → Option Value} {f : Addr} {fd : FuncData} (X : K.In h) (G : h.Ns mainGlobals mg) (c : SaysX fa fn K) (F : FunD K "law" "law" (defArgs s_law) (defBody s_law) (defScope s_law) [] [] f fd) :
    FnOk P w K mg base (L2.CX P w) 7 f fd ["_law_script"] (H48.spLaw K) := by
  have B := bl X G c
  have h_blank_spBlank := H48.ok_blank (P := P) (w := w) (base := base) B (at_blank X G c)
  have h_is_name_spIsName := H48.ok_is_name (P := P) (w := w) (base := base) B (at_is_name X G c)
  have h_is_number_spIsNum := H48.ok_is_number (P := P) (w := w) (base := base) B (at_is_number X G c)
  have h_check_cells_spCheckC := H48.ok_check_cells (P := P) (w := w) (base := base) B h_is_name_spIsName h_is_number_spIsNum (at_check_cells X G c)
  have h_is_row_spIsRowD := H48.ok_is_row (P := P) (w := w) (base := base) B (at_is_row X G c)
  have h_check_seeds_spCheckS := H48.ok_check_seeds (P := P) (w := w) (base := base) B h_blank_spBlank h_is_row_spIsRowD (at_check_seeds X G c)
  have h_over_spLay := H48.ok_over (P := P) (w := w) (base := base) B (at_over X G c)
  have h_grown_rows_spGrown := H48.ok_grown_rows (P := P) (w := w) (base := base) B h_over_spLay (at_grown_rows X G c)
  have h_lot_of_spLot := H48.ok_lot_of (P := P) (w := w) (base := base) B (at_lot_of X G c)
  have h_ordered_lots_spOrd := H48.ok_ordered_lots (P := P) (w := w) (base := base) B (at_lot_size X G c) (at_ordered_lots X G c)
  have h_Band___init___spInit := H48.ok_init (P := P) (w := w) (base := base) B (cls_Band c) h_blank_spBlank h_check_cells_spCheckC h_check_seeds_spCheckS h_grown_rows_spGrown h_is_number_spIsNum h_lot_of_spLot h_ordered_lots_spOrd (at_Band___init__ X G c)
  have h_Band_rows_spBRows := H48.ok_Band_rows (P := P) (w := w) (base := base) B (cls_Band c) (at_Band_rows X G c)
  have h__law_ordered_spOrdr : Bok P w K mg base 1 _ _ _ _ := H48.ok_ordered (P := P) (w := w) (base := base) B
  have h__law_over_spOver : Bok P w K mg base 1 _ _ _ _ := H48.ok_lover (P := P) (w := w) (base := base) B
  have h__law_closure_spClo : Bok P w K mg base 2 _ _ _ _ := H48.ok_closure (P := P) (w := w) (base := base) B (h__law_ordered_spOrdr.df (at__law_ordered X G c)) (h__law_over_spOver.df (at__law_over X G c))
  have h__law_pull_spDraw : Bok P w K mg base 1 _ _ _ _ := H48.ok_pull (P := P) (w := w) (base := base) B
  have h__law_draw_name_spName : Bok P w K mg base 2 _ _ _ _ := H48.ok_draw_name (P := P) (w := w) (base := base) B (h__law_pull_spDraw.df (at__law_pull X G c))
  have h__law_pick_spOf : Bok P w K mg base 2 _ _ _ _ := H48.ok_pick (P := P) (w := w) (base := base) B (h__law_pull_spDraw.df (at__law_pull X G c))
  have h__law_draw_cells_spCells : Bok P w K mg base 3 _ _ _ _ := H48.ok_draw_cells (P := P) (w := w) (base := base) B (h__law_draw_name_spName.df (at__law_draw_name X G c)) (h__law_pick_spOf.df (at__law_pick X G c))
  have h__law_told_all_spToldA : Bok P w K mg base 1 _ _ _ _ := H48.ok_told_all (P := P) (w := w) (base := base) B
  have h__law_draw_band_spBand : Bok P w K mg base 4 _ _ _ _ := H48.ok_draw_band (P := P) (w := w) (base := base) B (h__law_closure_spClo.df (at__law_closure X G c)) (h__law_draw_cells_spCells.df (at__law_draw_cells X G c)) (h__law_pick_spOf.df (at__law_pick X G c)) (h__law_pull_spDraw.df (at__law_pull X G c)) (h__law_told_all_spToldA.df (at__law_told_all X G c))
  have h__law_draw_world_spWorld : Bok P w K mg base 5 _ _ _ _ := H48.ok_draw_world (P := P) (w := w) (base := base) B (h__law_draw_band_spBand.df (at__law_draw_band X G c)) (h__law_pick_spOf.df (at__law_pick X G c))
  have h__law_lot_spLot : Bok P w K mg base 1 _ _ _ _ := H48.ok_llot (P := P) (w := w) (base := base) B
  have h__law_lots_of_spLotsOf : Bok P w K mg base 2 _ _ _ _ := H48.ok_lots_of (P := P) (w := w) (base := base) B (h__law_lot_spLot.df (at__law_lot X G c)) (h__law_ordered_spOrdr.df (at__law_ordered X G c))
  have h_Band_lots_spBLots := H48.ok_Band_lots (P := P) (w := w) (base := base) B (cls_Band c) (at_Band_lots X G c)
  have h__law_same_spSame := H48.ok_same (P := P) (w := w) (base := base) B (at__law_same X G c) 4
  have h__law_taken_spTak : Bok P w K mg base 2 _ _ _ _ := H48.ok_taken (P := P) (w := w) (base := base) B (h__law_pull_spDraw.df (at__law_pull X G c))
  have h__law_union_spUni : Bok P w K mg base 1 _ _ _ _ := H48.ok_lunion (P := P) (w := w) (base := base) B
  have h__law_within_spInW : Bok P w K mg base 1 _ _ _ _ := H48.ok_lwithin (P := P) (w := w) (base := base) B
  have h_union_spUni := H48.ok_union (P := P) (w := w) (base := base) B (at_union X G c)
  have h_within_spIn := H48.ok_within (P := P) (w := w) (base := base) B (at_within X G c)
  have h__law_lots_right_spLotsR : Bok P w K mg base 6 _ _ _ _ := H48.ok_lots_right (P := P) (w := w) (base := base) B (cls_Band c) h_Band_lots_spBLots (h__law_lot_spLot.df (at__law_lot X G c)) (h__law_pick_spOf.df (at__law_pick X G c)) h__law_same_spSame (h__law_taken_spTak.df (at__law_taken X G c)) (h__law_union_spUni.df (at__law_union X G c)) (h__law_within_spInW.df (at__law_within X G c)) h_lot_of_spLot h_ordered_lots_spOrd h_union_spUni h_within_spIn
  have h__law_in_order_spInOrd : Bok P w K mg base 1 _ _ _ _ := H48.ok_in_order (P := P) (w := w) (base := base) B
  have h__law_number_spNumb : Bok P w K mg base 1 _ _ _ _ := H48.ok_number (P := P) (w := w) (base := base) B
  have h__law_signed_spLSgn : Bok P w K mg base 2 _ _ _ _ := H48.ok_lsigned (P := P) (w := w) (base := base) B (h__law_within_spInW.df (at__law_within X G c))
  have h_mask_of_spMask := H48.ok_mask_of (P := P) (w := w) (base := base) B (at_mask_of X G c)
  have h_parts_of_sums_spParts := H48.ok_parts (P := P) (w := w) (base := base) B (cls_Band c) h_Band_lots_spBLots h_mask_of_spMask (at_parts_of_sums X G c)
  have h_signed_counts_spSgn := H48.ok_signed_counts (P := P) (w := w) (base := base) B (cls_Band c) h_Band_lots_spBLots h_parts_of_sums_spParts (at_signed_counts X G c)
  have h__law_signed_right_spSgR : Bok P w K mg base 6 _ _ _ _ := H48.ok_signed_right (P := P) (w := w) (base := base) B (h__law_in_order_spInOrd.df (at__law_in_order X G c)) (h__law_number_spNumb.df (at__law_number X G c)) h__law_same_spSame (h__law_signed_spLSgn.df (at__law_signed X G c)) (h__law_within_spInW.df (at__law_within X G c)) h_signed_counts_spSgn
  have h__law_start_spBag : Bok P w K mg base 1 _ _ _ _ := H48.ok_start (P := P) (w := w) (base := base) B
  exact H48.ok_law (P := P) (w := w) (base := base) B (cls_Band c) h_Band___init___spInit h_Band_rows_spBRows (h__law_draw_world_spWorld.df (at__law_draw_world X G c)) (h__law_lots_of_spLotsOf.df (at__law_lots_of X G c)) (h__law_lots_right_spLotsR.df (at__law_lots_right X G c)) h__law_same_spSame (h__law_signed_right_spSgR.df (at__law_signed_right X G c)) (h__law_start_spBag.df (at__law_start X G c)) F
theorem facts {P : Program} {w : World} {K : PySem.W.Frag} {h : Heap} {mg : Str → Option Value} {f : Addr} (X : K.In h) (G : h.Ns mainGlobals mg) (hfa : mg ("law" : Str) = some (.ref f)) (c : SaysX fa fn K) :
    ∃ fd : FuncData, (∀ (s : Shared) (v : Value), BindsTo s fd ⟨[v], []⟩ [("_law_script", v)]) ∧ ∀ base : Heap, K.In base → base.Ns mainGlobals mg → FnOk P w K mg base (L2.CX P w) 7 f fd ["_law_script"] (H48.spLaw K) := by
  obtain ⟨fd, F⟩ := c.def_ 43 (d := d_law) rfl
  have e := hfa.symm.trans (He.glo_ok X G (glo_law c))
  cases e
  have b := FunD.bindsA (ps := ["_law_script"]) F fun _ _ _ _ _ _ us hl => match us, hl with | [_], _ => rfl
  exact ⟨fd, fun s v => b s [v] rfl, fun base _ _ => all_ok X G c F⟩
end Hd48
open PySem PySem.W PySem.Calls PyProof.Rows
theorem PySem.Challenge.cw_newesttells_k48_whole_lots_of_bands_holds : PySem.Challenge.rw_newesttells_k48_whole_lots_of_bands.Holds := by
  w_on; o_law
  refine HandSHeadRun.head_any (r := OpenLaw.row PySem.Challenge.rw_newesttells_k48_whole_lots_of_bands) (q := view (OpenLaw.row PySem.Challenge.rw_newesttells_k48_whole_lots_of_bands).prog [80]) (H := Hd48.hk) (ob := Hd48.ob) (M := 8000) (loose := Hd48.loose) (d := HandSHeadRun.topDef (OpenLaw.row PySem.Challenge.rw_newesttells_k48_whole_lots_of_bands).prog 80) (kwd := []) Hd48.ob_eq
    (by kernel_rfl) (fun s => by kernel_rfl) Hd48.run (by kernel_rfl) (by kernel_rfl) (by kernel_rfl) (by rfl) (by first | assumption | decide +kernel) (by decide +kernel) ⟨rfl, rfl, rfl, rfl, rfl, by decide +kernel⟩ ?hw ?hc
  case hw => w_witness2
  case hc =>
    refine Nt.law_walk (l := PySem.Challenge.rw_newesttells_k48_whole_lots_of_bands) (n := 63) (k := 7) (x := "_law_script") rfl (by decide) (by kernel_rfl) ⟨rfl, by decide, by decide⟩ ?F
    intro w mg fa h Y G hmg0
    obtain ⟨K, KX, c⟩ := Y
    have hmg : mg ("law" : PySem.Str) = some (.ref fa) := by
      have e : (HandSHeadRun.topDef (OpenLaw.row PySem.Challenge.rw_newesttells_k48_whole_lots_of_bands).prog 80).name = ("law" : PySem.Str) := by kernel_rfl
      rw [← e]
      exact hmg0
    obtain ⟨fd, hb, hF⟩ := Hd48.facts (P := (PySem.Challenge.rw_newesttells_k48_whole_lots_of_bands).prog) (w := w) KX G hmg c
    exact ⟨K, fd, H48.spLaw K, KX, hb, fun H a ns hl hS => ⟨a, ns, rfl, hS, hl, fun _ => rfl⟩, hF⟩

