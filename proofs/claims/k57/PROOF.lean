import PyProof.Rows.All
import HandS.ForMost
import HandS.Zip
import KE.GoesZip
import KE.GoesMore
import HandS.ExcInit
import Wide.All
import OpenK.AllK
import Wide.FinOn
import KE.KExcSuper
import KE.KExcIs
import HandS.Base
import HandS.Call
import HandS.Exc
import HandS.ExcSuper
import HandS.HeadWalk
import HandS.Wide
import HandS.IsInst
import HandS.TupAny
import HandS.Property
import HandS.OwnEq
import HandS.WordsExc
import HandS.Small
import KE.GoesEnum
import HandS.Style
import HandS.More
import PyProof.Rows.Range3
import PyProof.Conv_bool
import HandS.Defaults
import HandS.HeadHook1
import HandS.HeadHook2
import HandS.Head0
import HandS.Head1
import HandS.Head2
import HandS.HeadEnd
import HandS.Evl
import HandS.List
import PySem.Challenge.RW_crosstally_k57_errors_apart
set_option Elab.async false
set_option linter.all false
set_option maxRecDepth 100000
set_option maxHeartbeats 1000000
/-! zip of two sequences, each a list (false) or a tuple (true) -/
namespace TIZ
open PySem PySem.Spec PyProof.Rows L2
def KIt : Bool → Heap → Addr → Addr → Nat → Prop
  | true, h, it, l, i => h.IsTupleIter it l i
  | false, h, it, l, i => h.IsListIter it l i
def KIs : Bool → Heap → Addr → Array Value → Prop
  | true, h, l, xs => h.IsTuple l xs
  | false, h, l, xs => h.IsList l xs
def KSq : Bool → PySem.W.Frag → Hp → Addr → List V → Prop
  | true, K, H, a, xs => SqT K H a xs
  | false, K, H, a, xs => SqL K H a xs
def kName : Bool → String
  | true => "tuple_iterator"
  | false => "list_iterator"
theorem KIt.obj {k : Bool} {h : Heap} {it l : Addr} {i : Nat} (x : KIt k h it l i) : ∃ o f, h.get? it = some o ∧ o.data = .fields f := by
  cases k with
  | true => obtain ⟨o, e, _, d⟩ := x; exact ⟨o, _, e, d⟩
  | false => obtain ⟨o, e, _, d⟩ := x; exact ⟨o, _, e, d⟩
theorem KIt.at {k : Bool} {h h' : Heap} {it l : Addr} {i : Nat} (x : KIt k h it l i) (f : ∀ o, h.get? it = some o → h'.get? it = some o) : KIt k h' it l i := by
  cases k with
  | true => exact Heap.IsTupleIter.at x f
  | false => exact Heap.IsListIter.at x f
theorem KIs.at {k : Bool} {h h' : Heap} {l : Addr} {xs : Array Value} (x : KIs k h l xs) (f : ∀ o, h.get? l = some o → h'.get? l = some o) : KIs k h' l xs := by
  cases k with
  | true => exact Heap.IsTuple.at x f
  | false => exact Heap.IsList.at x f
section
variable {prog : Program} {w : World} {A : Around}
theorem drawsReal (k : Bool) (hh : A.handled = none) (it l : Addr) (hne : l ≠ it) (items : Array Value) :
    Draws prog w A it [it, l] items.size (fun i v => items[i]? = some v) (fun i h => KIt k h it l i ∧ KIs k h l items) := by
  cases k with
  | true => exact Draws.tuple hh it l hne items
  | false => exact Draws.list hh it l hne items
theorem drawsEnd (k : Bool) (hh : A.handled = none) (it l : Addr) (items : Array Value) (i : Nat) (hi : items.size ≤ i) :
    Draws prog w A it [it, l] i (fun _ _ => False) (fun j h => j = i ∧ KIt k h it l i ∧ KIs k h l items) where
  live := fun _ _ st => let ⟨o, _, ho, _⟩ := st.2.1.obj; ⟨o, ho⟩
  frame := fun _ _ _ st hk => ⟨st.1, st.2.1.at fun o e => hk it (by simp) o e, st.2.2.at fun o e => hk l (by simp) o e⟩
  item := fun j s Q E hj st hQ => absurd st.1 (by omega)
  done := fun s Q E st hE => by
    have hx : items[i]? = none := by simp; omega
    cases k with
    | true => exact wpAny_nextOf_tuple_end hh st.2.1 st.2.2 hx hE
    | false => exact wpAny_nextOf_list_end hh st.2.1 st.2.2 hx hE
/-- at a turn: the iterator, and whether it has an item -/
theorem draws_at (k : Bool) (hh : A.handled = none) (it l : Addr) (hne : l ≠ it) (items : Array Value) (i : Nat) :
    ∃ n P St, Draws prog w A it [it, l] n P St ∧ (∀ h, KIt k h it l i → KIs k h l items → St i h) ∧ i ≤ n ∧ (items.size ≤ i → i = n) ∧
      (i < items.size → i < n ∧ (∀ v, P i v → items[i]? = some v) ∧ ∀ h, St (i + 1) h → KIt k h it l (i + 1)) := by
  by_cases hi : i < items.size
  · exact ⟨_, _, _, drawsReal k hh it l hne items, fun h a b => ⟨a, b⟩, by omega, fun z => by omega, fun _ => ⟨hi, fun v e => e, fun h st => st.1⟩⟩
  · exact ⟨_, _, _, drawsEnd k hh it l items i (by omega), fun h a b => ⟨rfl, a, b⟩, Nat.le_refl _, fun _ => rfl, fun z => absurd z hi⟩
end
theorem sep_of {z TI TO i1 i2 l1 l2 : Addr} (D : ZipApart z TI TO i1 i2 l1 l2) : ZipSep2 z TI TO i1 i2 [i1, l1] [i2, l2] where
  TIz := D.TIz
  TOz := D.TOz
  TITO := D.TITO
  TIi1 := D.TIi1
  mem1 := by simp
  zf1 := by simp; exact ⟨D.i1z.symm, D.l1z.symm⟩
  Tf1 := by simp; exact ⟨D.TOi1, D.l1TO.symm⟩
  TIi2 := D.TIi2
  mem2 := by simp
  zf2 := by simp; exact ⟨D.i2z.symm, D.l2z.symm⟩
  Tf2 := by simp; exact ⟨D.TOi2, D.l2TO.symm⟩
  sep1_2 := by simp; exact ⟨D.i12, D.l2i1.symm⟩
  sep2_1 := by simp; exact ⟨D.i12.symm, D.l1i2.symm⟩
theorem inv_seq {X : Cx} {pins : List (Addr × Obj)} {σ : L2.St} {H : Hp} {s : Shared} (I : Inv X pins σ H s) {k : Bool} {a : Addr} {xs : List V} (h : KSq k X.K H a xs) : ∃ its : List Value, Vals xs its ∧ KIs k s.heap a its.toArray ∧ a < s.heap.objs.size := by
  cases k with
  | true =>
    obtain ⟨its, r, p, _⟩ := I.tuple h
    obtain ⟨o, ho, _⟩ := id p
    exact ⟨its, r, p, Heap.lt_size ho⟩
  | false =>
    obtain ⟨its, r, p, _⟩ := I.list h
    exact ⟨its, r, p.isList, p.lt⟩
theorem inv_inj {X : Cx} {pins : List (Addr × Obj)} {σ : L2.St} {H : Hp} {s : Shared} (I : Inv X pins σ H s) {k : Bool} {a : Addr} {xs ys : List V} (h : KSq k X.K H a xs) (h' : KSq k X.K H a ys) : xs = ys := by
  cases k with
  | true => exact I.tuple_inj h h'
  | false => exact I.list_inj h h'
/-- the sequences at a and b as they stand at each turn, the items in new pairs -/
def ItzK (k k' : Bool) (K : PySem.W.Frag) (a b : Addr) : It :=
  ⟨fun i H => ∃ (xs ys : List V) (x y : V), KSq k K H a xs ∧ KSq k' K H b ys ∧ xs[i]? = some x ∧ ys[i]? = some y,
    fun i H v H' => ∃ T x y, v = .ref T ∧ H T = none ∧ H' = upd H T (.tup [x, y]) ∧ (∀ xs, KSq k K H a xs → xs[i]? = some x) ∧ ∀ ys, KSq k' K H b ys → ys[i]? = some y,
    fun i H => ∃ xs ys : List V, KSq k K H a xs ∧ KSq k' K H b ys ∧ (xs.length ≤ i ∨ ys.length ≤ i)⟩
theorem turn_zipK {k k' : Bool} {P : Program} {w : World} {K : PySem.W.Frag} {elts : List Expr} {kk : Nat} {tpos : Pos} {a b z TI TO i1 i2 : Addr} (D : ZipApart z TI TO i1 i2 a b) :
    Turn P w K (.Tuple elts kk tpos) (ItzK k k' K a b) [z, TI, TO, i1, i2] z (fun i h => IsZip h z TI TO .none ∧ IsPair h TI (.ref i1) (.ref i2) ∧ (∃ x y, IsPair h TO x y) ∧ KIt k h i1 a i ∧ KIt k' h i2 b i) where
  mem := by simp
  obj := fun i h st c hc => by
    obtain ⟨hz, hTI, ⟨x, y, hTO⟩, h1, h2⟩ := st
    obtain ⟨o1, _, e1, d1⟩ := h1.obj
    obtain ⟨o2, _, e2, d2⟩ := h2.obj
    have e' : c = z ∨ c = TI ∨ c = TO ∨ c = i1 ∨ c = i2 := by simpa using hc
    rcases e' with q | q | q | q | q
    · rw [q]; exact ⟨_, hz, fun v q => nomatch q⟩
    · rw [q]; exact ⟨_, hTI, fun v q => nomatch q⟩
    · rw [q]; exact ⟨_, hTO, fun v q => nomatch q⟩
    · rw [q]; exact ⟨o1, e1, fun v q => by rw [d1] at q; cases q⟩
    · rw [q]; exact ⟨o2, e2, fun v q => by rw [d2] at q; cases q⟩
  keep := fun i h h' st k => by
    obtain ⟨hz, hTI, ⟨x, y, hTO⟩, h1, h2⟩ := st
    exact ⟨k z (by simp) _ hz, k TI (by simp) _ hTI, ⟨x, y, k TO (by simp) _ hTO⟩, h1.at fun o q => k i1 (by simp) o q, h2.at fun o q => k i2 (by simp) o q⟩
  item := by
    intro X hP hw hK hc i pins s σ H E I hf st hg
    subst hP hw hK
    obtain ⟨hz, hTI, ⟨x0, y0, hTO⟩, h1, h2⟩ := st
    obtain ⟨xs, ys, x, y, hqx, hqy, hx, hy⟩ := hg
    obtain ⟨its, rv, p, _⟩ := inv_seq I hqx
    obtain ⟨its2, rv2, p2, _⟩ := inv_seq I hqy
    obtain ⟨u, hu, ru⟩ := rv.get hx
    obtain ⟨u2, hu2, ru2⟩ := rv2.get hy
    have hzl : z < s.heap.objs.size := Heap.lt_size hz
    obtain ⟨n1, P1, S1, D1, f1, _, _, g1⟩ := draws_at (prog := X.prog) (w := X.w) (A := X.A.in1) k (show X.A.in1.handled = none from I.ok.hd hc) i1 a D.l1i1 its.toArray i
    obtain ⟨n2, P2, S2, D2, f2, _, _, g2⟩ := draws_at (prog := X.prog) (w := X.w) (A := X.A.in1) k' (show X.A.in1.handled = none from I.ok.hd hc) i2 b D.l2i2 its2.toArray i
    have hi1 : i < its.toArray.size := by
      have := (List.getElem?_eq_some_iff.mp hu).1
      simpa using this
    have hi2 : i < its2.toArray.size := by
      have := (List.getElem?_eq_some_iff.mp hu2).1
      simpa using this
    obtain ⟨l1, v1, s1⟩ := g1 hi1
    obtain ⟨l2, v2, s2⟩ := g2 hi2
    refine wpAny_pyNext_zipD2_item (sep_of D) D1 D2 hz hTI hTO (f1 _ h1 p) (f2 _ h2 p2) l1 l2 fun x1 x2 h' tk y1 y2 z' TO' h1' h2' hT hsz hk => ?_
    have ex1 := v1 _ y1
    have ex2 := v2 _ y2
    rw [List.getElem?_toArray, hu] at ex1
    rw [List.getElem?_toArray, hu2] at ex2
    cases ex1
    cases ex2
    refine ⟨_, rfl, wpAny_letOwnedTupleGo_zip (s := { s with heap := h', toks := tk }) z' fun h'' z'' sb => ?_⟩
    have hT2 : h''.get? s.heap.objs.size = some { cls := .type "tuple", data := .seq #[u, u2] } := (sb.2 _ (Nat.ne_of_gt hzl)).trans hT
    have new : ObjOk X.prog X.w (upd H s.heap.objs.size (.tup [x, y])) h'' s.heap.objs.size (.tup [x, y]) :=
      ⟨by show 2 ≤ sizeLine; decide, [u, u2], .cons ru (.cons ru2 .nil), ⟨_, hT2, rfl, _, rfl⟩⟩
    have I1 : Inv X pins σ (upd H s.heap.objs.size (.tup [x, y])) { s with heap := h'', toks := tk } :=
      I.turnedNew (t' := tk) (ch := [z, TI, TO, i1, i2]) (fun c o hb q => (sb.2 c (fun q' => hb (by simp [q']))).trans (hk c o (fun q' => hb (by simp [q'])) (fun q' => hb (by simp [q'])) (fun q' => hb (by simp [q'])) (fun q' => hb (by simp [q'])) q)) hf (Nat.le_refl _) new
    refine ⟨.ref s.heap.objs.size, _, I1, rfl, ⟨_, x, y, rfl, I.hok.fresh (Nat.le_refl _), rfl, fun l hl => by rw [inv_inj I hl hqx]; exact hx, fun l hl => by rw [inv_inj I hl hqy]; exact hy⟩, ⟨z'', ?_, ⟨u, u2, ?_⟩, ?_, ?_⟩, fun c hcm => ?_⟩
    · exact (sb.2 _ D.TIz).trans (hk _ _ D.TIz D.TITO D.TIi1 D.TIi2 hTI)
    · exact (sb.2 _ D.TOz).trans TO'
    · exact (s1 _ h1').at fun o q => (sb.2 _ D.i1z).trans q
    · exact (s2 _ h2').at fun o q => (sb.2 _ D.i2z).trans q
    · have hlt : c < s.heap.objs.size := by
        have e' : c = z ∨ c = TI ∨ c = TO ∨ c = i1 ∨ c = i2 := by simpa using hcm
        rcases e' with q | q | q | q | q
        · rw [q]; exact hzl
        · rw [q]; exact Heap.lt_size hTI
        · rw [q]; exact Heap.lt_size hTO
        · rw [q]; obtain ⟨_, _, e1, _⟩ := h1.obj; exact Heap.lt_size e1
        · rw [q]; obtain ⟨_, _, e2, _⟩ := h2.obj; exact Heap.lt_size e2
      rw [upd_ne (Nat.ne_of_lt hlt)]
      exact (hf c hcm).1
  done := by
    intro X hP hw hK hc i pins s σ H E I hf st hg
    subst hP hw hK
    obtain ⟨hz, hTI, ⟨x0, y0, hTO⟩, h1, h2⟩ := st
    obtain ⟨xs, ys, hqx, hqy, hend⟩ := hg
    obtain ⟨its, rv, p, _⟩ := inv_seq I hqx
    obtain ⟨its2, rv2, p2, _⟩ := inv_seq I hqy
    have e1 := rv.length
    have e2 := rv2.length
    obtain ⟨n1, P1, S1, D1, f1, l1, g1, _⟩ := draws_at (prog := X.prog) (w := X.w) (A := X.A.in1) k (show X.A.in1.handled = none from I.ok.hd hc) i1 a D.l1i1 its.toArray i
    obtain ⟨n2, P2, S2, D2, f2, l2, g2, _⟩ := draws_at (prog := X.prog) (w := X.w) (A := X.A.in1) k' (show X.A.in1.handled = none from I.ok.hd hc) i2 b D.l2i2 its2.toArray i
    have he : i = n1 ∨ i = n2 := by
      rcases hend with q | q
      · exact .inl (g1 (by simp; omega))
      · exact .inr (g2 (by simp; omega))
    exact wpAny_pyNext_zipD2_end (sep_of D) D1 D2 hz hTI hTO (f1 _ h1 p) (f2 _ h2 p2) l1 l2 he fun h' tk hk => ⟨rfl, I.turnedL (t' := tk) (ch := [z, TI, TO, i1, i2]) (fun c o hb q =>
      hk c o (fun q' => hb (by simp [q'])) (fun q' => hb (by simp [q'])) (fun q' => hb (by simp [q'])) (fun q' => hb (by simp [q'])) q) hf⟩
  self := fun A i s Q E st h => wpAny_pyIter_zip st.1 h
abbrev kObj (k : Bool) (l : Addr) : Obj := match k with
  | true => { cls := .type "tuple_iterator", data := .fields #[.ref l, .int 0 0] }
  | false => { cls := .type "list_iterator", data := .fields #[.ref l, .int 0 0] }
abbrev zH1 (k : Bool) (h : Heap) (l1 : Addr) : Heap := h.push (kObj k l1)
abbrev zH2 (k k' : Bool) (h : Heap) (l1 l2 : Addr) : Heap := (zH1 k h l1).push (kObj k' l2)
abbrev zH3 (k k' : Bool) (h : Heap) (l1 l2 : Addr) : Heap := (zH2 k k' h l1 l2).push { cls := .type "tuple", data := .seq #[.ref h.objs.size, .ref (zH1 k h l1).objs.size] }
abbrev zH4 (k k' : Bool) (h : Heap) (l1 l2 : Addr) : Heap := (zH3 k k' h l1 l2).push { cls := .type "tuple", data := .seq #[.none, .none] }
abbrev zH5 (k k' : Bool) (h : Heap) (l1 l2 : Addr) : Heap := (zH4 k k' h l1 l2).push { cls := .type "zip", data := .fields #[.none, .bool false, .bool false, .ref (zH2 k k' h l1 l2).objs.size, .ref (zH3 k k' h l1 l2).objs.size] }
theorem meets_zipK_new (k k' : Bool) (l1 l2 : Addr) (xs ys : Array Value) :
    Meets (Builtin.«zip.__new__» ⟨[.type "zip", .ref l1, .ref l2], []⟩) (fun _ R s => KIs k s.heap l1 xs ∧ KIs k' s.heap l2 ys ∧
      R (.ok (.ret (.ref (zH4 k k' s.heap l1 l2).objs.size))) { s with heap := zH5 k k' s.heap l1 l2 }) := by
  cases k with
  | false =>
    cases k' with
    | false => exact meets_zip_new l1 l2 xs ys
    | true =>
      exact .of_wp fun prog w A R s h => by
        obtain ⟨hp, g, d, tk, os⟩ := s; obtain ⟨hl1, hl2, h⟩ := h
        have hsub := sub_zip
        have hL1 : Heap.IsList (Shared.heap ⟨hp, g, d, tk, os⟩) l1 xs := hl1
        have hL2 : Heap.IsTuple (Shared.heap ⟨hp.push { cls := .type "list_iterator", data := .fields #[.ref l1, .int 0 0] }, g, d, tk, os⟩) l2 ys := Heap.IsTuple.push hl2 _
        wp_walk using wpAny_pyIter_list hL1, wpAny_pyIter_tuple hL2
        exact ⟨_, rfl, h⟩
  | true =>
    cases k' with
    | false =>
      exact .of_wp fun prog w A R s h => by
        obtain ⟨hp, g, d, tk, os⟩ := s; obtain ⟨hl1, hl2, h⟩ := h
        have hsub := sub_zip
        have hL1 : Heap.IsTuple (Shared.heap ⟨hp, g, d, tk, os⟩) l1 xs := hl1
        have hL2 : Heap.IsList (Shared.heap ⟨hp.push { cls := .type "tuple_iterator", data := .fields #[.ref l1, .int 0 0] }, g, d, tk, os⟩) l2 ys := Heap.IsList.push hl2 _
        wp_walk using wpAny_pyIter_tuple hL1, wpAny_pyIter_list hL2
        exact ⟨_, rfl, h⟩
    | true => exact RZ.meets_zipT_new l1 l2 xs ys
theorem KIt.of {k : Bool} {h : Heap} {it l : Addr} (e : h.get? it = some (kObj k l)) : KIt k h it l 0 := by
  cases k with
  | true => exact ⟨_, e, rfl, rfl⟩
  | false => exact ⟨_, e, rfl, rfl⟩
theorem call_zipK {prog : Program} {w : World} {A : Around} {E : Value → Shared → Prop} {s : Shared} {k k' : Bool} {l1 l2 : Addr} {xs ys : Array Value} {Q : Value → Shared → Prop} (hl1 : KIs k s.heap l1 xs) (hl2 : KIs k' s.heap l2 ys)
    (h : ∀ h', IsZip h' (s.heap.objs.size + 4) (s.heap.objs.size + 2) (s.heap.objs.size + 3) .none → IsPair h' (s.heap.objs.size + 2) (.ref s.heap.objs.size) (.ref (s.heap.objs.size + 1)) →
      IsPair h' (s.heap.objs.size + 3) .none .none → KIt k h' s.heap.objs.size l1 0 → KIt k' h' (s.heap.objs.size + 1) l2 0 → h'.objs.size = s.heap.objs.size + 5 →
      (∀ c o, s.heap.get? c = some o → h'.get? c = some o) → Q (.ref (s.heap.objs.size + 4)) { s with heap := h' }) :
    wpAny (model prog w) A (call (.type "zip") [.ref l1, .ref l2]) Q E s := by
  refine callType_new F.called_zip (by decide) (F.typeCall_zip_2 _ _) (F.newCall_zip_2 _ _) (fun obj => F.args_object_init_3 obj _ _) F.entry_zip_new
    (meets_zipK_new k k' l1 l2 xs ys) ⟨hl1, hl2, ?_⟩
  have z1 : (zH1 k s.heap l1).objs.size = s.heap.objs.size + 1 := Heap.size_push ..
  have z2 : (zH2 k k' s.heap l1 l2).objs.size = s.heap.objs.size + 2 := by rw [Heap.size_push, z1]
  have z3 : (zH3 k k' s.heap l1 l2).objs.size = s.heap.objs.size + 3 := by rw [Heap.size_push, z2]
  have z4 : (zH4 k k' s.heap l1 l2).objs.size = s.heap.objs.size + 4 := by rw [Heap.size_push, z3]
  have z5 : (zH5 k k' s.heap l1 l2).objs.size = s.heap.objs.size + 5 := by rw [Heap.size_push, z4]
  have fr : ∀ k l, (kObj k l).data ≠ .freed := fun k l => by cases k <;> simp
  have g5 : (zH5 k k' s.heap l1 l2).get? (zH4 k k' s.heap l1 l2).objs.size = some _ := Heap.get?_push_size _ rfl
  have g4 : (zH5 k k' s.heap l1 l2).get? (zH3 k k' s.heap l1 l2).objs.size = some _ := Heap.get?_push_of_some _ (Heap.get?_push_size _ rfl)
  have g3 : (zH5 k k' s.heap l1 l2).get? (zH2 k k' s.heap l1 l2).objs.size = some _ := Heap.get?_push_of_some _ (Heap.get?_push_of_some _ (Heap.get?_push_size _ rfl))
  have g2 : (zH5 k k' s.heap l1 l2).get? (zH1 k s.heap l1).objs.size = some (kObj k' l2) := Heap.get?_push_of_some _ (Heap.get?_push_of_some _ (Heap.get?_push_of_some _ (Heap.get?_push_size _ (by cases k' <;> rfl))))
  have g1 : (zH5 k k' s.heap l1 l2).get? s.heap.objs.size = some (kObj k l1) := Heap.get?_push_of_some _ (Heap.get?_push_of_some _ (Heap.get?_push_of_some _ (Heap.get?_push_of_some _ (Heap.get?_push_size _ (by cases k <;> rfl)))))
  show _ ∧ _
  rw [z2, z3, z4] at g5
  rw [z1, z2] at g3
  rw [z3] at g4
  rw [z1] at g2
  rw [z4]
  exact ⟨⟨_, g5, rfl⟩, h _ g5 g3 g4 (KIt.of g1) (KIt.of g2) z5 fun c o x =>
    Heap.get?_push_of_some _ (Heap.get?_push_of_some _ (Heap.get?_push_of_some _ (Heap.get?_push_of_some _ (Heap.get?_push_of_some _ x))))⟩
def iZipK (K : PySem.W.Frag) (ta : TA) : L2.TI := fun σ H R => ta σ H fun vs H1 => ∃ a b xs ys k k', vs = [.ref a, .ref b] ∧ KSq k K H1 a xs ∧ KSq k' K H1 b ys ∧ R (ItzK k k' K a b) H1
theorem pi_zipK {X : Cx} {e e2 : Expr} {ta : TA} {p pos tpos : Pos} {elts : List Expr} {kk : Nat} (hg : Gl X "zip") (hm : X.mg "zip" = none) (ha : PA X [e, e2] ta)
    (hs : starEach [e, e2] X.env = (false, eval e X.env) :: starEach [e2] X.env := by rfl) (hpl : (backTo pos (starEach [e2] X.env)).any (·.1) = false := by rfl) :
    PI X (.Tuple elts kk tpos) (.Call (.Name "zip" p) [e, e2] [] pos) (iZipK X.K ta) := by
  refine ⟨fun pins s σ H R I h => ?_⟩
  refine Call_ (ld_blt I hg hm PyProof.Rows.boot_zip (PyProof.Rows.callWith_type1 (thn (ha.run pos pins s σ H _ I h) fun us s1 ⟨vs, H1, I1, r1, q1⟩ => ?_) hs hpl))
  obtain ⟨a, b, xs, ys, k, k', ex, hqx, hqy, q⟩ := q1
  subst ex
  cases r1 with
  | cons r rr =>
    cases rr with
    | cons r' rr =>
      cases rr
      cases r
      cases r'
      obtain ⟨its, rv, p1, la⟩ := inv_seq I1 hqx
      obtain ⟨its2, rv2, p2, lb⟩ := inv_seq I1 hqy
      refine call_zipK p1 p2 fun h' hz hTI hTO h1 h2 hsz hk => wpAny_pyIter_zip hz ?_
      have I2 : Inv X pins σ H1 { s1 with heap := h' } := I1.kept (t' := s1.toks) hk
      refine ⟨s1.heap.objs.size + 4, [s1.heap.objs.size + 4, s1.heap.objs.size + 2, s1.heap.objs.size + 3, s1.heap.objs.size, s1.heap.objs.size + 1], _, _, H1, rfl, I2, turn_zipK (PySem.W.ktu_apart s1.heap.objs.size a b la lb), ⟨hz, hTI, ⟨_, _, hTO⟩, h1, h2⟩, fun c hcm => ?_, q⟩
      have e' : c = s1.heap.objs.size + 4 ∨ c = s1.heap.objs.size + 2 ∨ c = s1.heap.objs.size + 3 ∨ c = s1.heap.objs.size ∨ c = s1.heap.objs.size + 1 := by simpa using hcm
      have hle : s1.heap.objs.size ≤ c := by
        rcases e' with z | z | z | z | z
        · rw [z]; exact Nat.le_add_right _ _
        · rw [z]; exact Nat.le_add_right _ _
        · rw [z]; exact Nat.le_add_right _ _
        · rw [z]; exact Nat.le_refl _
        · rw [z]; exact Nat.le_add_right _ _
      exact I1.fpOk hle (I1.hok.fresh hle)
end TIZ

set_option Elab.async false
set_option linter.all false
set_option maxRecDepth 100000
/-! values as trees, and how the abstract heap bears them -/
namespace TI
open PySem PySem.Spec PyProof.Rows L2

/-- who may change a node: it is ours alone | nobody any more | borrowed from a name -/
inductive Fl where | own | sh | brw
  deriving DecidableEq, Repr
/-- a value as a tree -/
inductive D where
  | non | bl (b : Bool) | int (i : Int) | str (s : Str)
  | lst (f : Fl) (xs : List D)
  | tup (f : Fl) (xs : List D)
  | ins (f : Fl) (c : Str) (ns : List Str) (xs : List D)
  | exc (f : Fl) (c : Str) (ns : List Str) (xs : List D)
  | bag

mutual
/-- every flag turned by g -/
def D.fl (g : Fl → Fl) : D → D
  | .lst f xs => .lst (g f) (D.fls g xs)
  | .tup f xs => .tup (g f) (D.fls g xs)
  | .ins f c ns xs => .ins (g f) c ns (D.fls g xs)
  | .exc f c ns xs => .exc (g f) c ns (D.fls g xs)
  | .non => .non
  | .bl b => .bl b
  | .int i => .int i
  | .str s => .str s
  | .bag => .bag
def D.fls (g : Fl → Fl) : List D → List D
  | [] => []
  | d :: ds => D.fl g d :: D.fls g ds
end
mutual
/-- some node has the flag -/
def D.has (f : Fl) : D → Bool
  | .lst g xs => decide (g = f) || D.hass f xs
  | .tup g xs => decide (g = f) || D.hass f xs
  | .ins g _ _ xs => decide (g = f) || D.hass f xs
  | .exc g _ _ xs => decide (g = f) || D.hass f xs
  | _ => false
def D.hass (f : Fl) : List D → Bool
  | [] => false
  | d :: ds => D.has f d || D.hass f ds
end
def Fl.fz : Fl → Fl := fun _ => .sh
def Fl.bw : Fl → Fl | .own => .brw | f => f
def Fl.ub : Fl → Fl | .brw => .sh | f => f
def Fl.so : Fl → Fl | .own => .sh | f => f
def Fl.tt : Fl → Fl | .sh => .brw | f => f
/-- all shared -/
abbrev D.fz (d : D) : D := d.fl Fl.fz
/-- read from a name: what is its own is borrowed -/
abbrev D.bw (d : D) : D := d.fl Fl.bw
/-- the borrowed is given away -/
abbrev D.ub (d : D) : D := d.fl Fl.ub
/-- the own is given away -/
abbrev D.so (d : D) : D := d.fl Fl.so
/-- the shared may be borrowed -/
abbrev D.tt (d : D) : D := d.fl Fl.tt

theorem D.fls_map (g : Fl → Fl) : ∀ xs : List D, D.fls g xs = xs.map (D.fl g)
  | [] => rfl
  | d :: ds => by rw [D.fls, D.fls_map g ds]; rfl
theorem D.hass_any (f : Fl) : ∀ xs : List D, D.hass f xs = xs.any (D.has f)
  | [] => rfl
  | d :: ds => by rw [D.hass, D.hass_any f ds]; rfl

/-- of the written part: the classes' addresses by name; the bag's address, its cells' address -/
structure Tx where
  K : PySem.W.Frag
  ca : Str → Addr
  β : Addr
  ι : Addr

def ft : Fl → Addr → List Addr
  | .own, a => [a]
  | _, _ => []
section
variable (tx : Tx)
def AtL (H B G : Hp) : Fl → Addr → List V → Prop
  | .own, a, vs => H a = some (.lst vs)
  | .sh, a, vs => G a = some (.lst vs)
  | .brw, a, vs => B a = some (.lst vs)
def AtT (H B G : Hp) : Fl → Addr → List V → Prop
  | .own, a, vs => H a = some (.tup vs)
  | .sh, a, vs => SqT tx.K G a vs
  | .brw, a, vs => SqT tx.K B a vs
def AtI (H B G : Hp) : Fl → Addr → Addr → Addr → List (Str × V) → Prop
  | .own, a, C, dx, fs => H a = some (.ins C dx fs)
  | .sh, a, C, dx, fs => G a = some (.ins C dx fs)
  | .brw, a, C, dx, fs => B a = some (.ins C dx fs)
/-- an error: nobody's own -/
def AtX (B G : Hp) : Fl → Addr → Addr → Addr → List (Str × V) → Prop
  | .own, _, _, _, _ => False
  | .sh, a, C, dx, fs => G a = some (exo a C (some dx)) ∧ G dx = some (exd dx fs)
  | .brw, a, C, dx, fs => B a = some (exo a C (some dx)) ∧ B dx = some (exd dx fs)
mutual
/-- the value v bears the tree d: own nodes in H at the addresses F, borrowed ones in B, shared ones in G -/
def Rep (H B G : Hp) : D → V → List Addr → Prop
  | .non, v, F => v = .non ∧ F = []
  | .bl b, v, F => v = .bl b ∧ F = []
  | .int i, v, F => v = .int i ∧ F = []
  | .str s, v, F => v = .str s ∧ F = []
  | .bag, v, F => v = .ref tx.β ∧ F = []
  | .lst f xs, v, F => ∃ (a : Addr) (vs : List V) (F' : List Addr), v = .ref a ∧ AtL H B G f a vs ∧ Reps H B G xs vs F' ∧ F = ft f a ++ F'
  | .tup f xs, v, F => ∃ (a : Addr) (vs : List V) (F' : List Addr), v = .ref a ∧ AtT tx H B G f a vs ∧ Reps H B G xs vs F' ∧ F = ft f a ++ F'
  | .ins f c ns xs, v, F => ∃ (a dx : Addr) (vs : List V) (F' : List Addr), v = .ref a ∧ AtI H B G f a (tx.ca c) dx (ns.zip vs) ∧ ns.length = vs.length ∧ Reps H B G xs vs F' ∧ F = ft f a ++ F'
  | .exc f c ns xs, v, F => ∃ (a dx : Addr) (vs : List V) (F' : List Addr), v = .ref a ∧ AtX B G f a (tx.ca c) dx (ns.zip vs) ∧ ns.length = vs.length ∧ Reps H B G xs vs F' ∧ F = ft f a ++ F'
def Reps (H B G : Hp) : List D → List V → List Addr → Prop
  | [], vs, F => vs = [] ∧ F = []
  | d :: ds, vs, F => ∃ (v : V) (vs' : List V) (F1 F2 : List Addr), vs = v :: vs' ∧ Rep H B G d v F1 ∧ Reps H B G ds vs' F2 ∧ F = F1 ++ F2
end
end

/-- the heap has grown -/
def Ex (H H' : Hp) : Prop := ∀ a o, H a = some o → H' a = some o
theorem Ex.refl (H : Hp) : Ex H H := fun _ _ h => h
theorem Ex.trans {H H1 H2 : Hp} (a : Ex H H1) (b : Ex H1 H2) : Ex H H2 := fun x o h => b x o (a x o h)
theorem Ex.rd {H H' : Hp} {a : Addr} {u : HO} (e : Ex H H') (h : Rd H a u) : Rd H' a u := by
  rcases h with h | ⟨o, h⟩
  · exact .inl (e a _ h)
  · exact .inr ⟨o, e a _ h⟩
theorem Ex.sqL {K : PySem.W.Frag} {H H' : Hp} {a : Addr} {xs : List V} (e : Ex H H') (h : SqL K H a xs) : SqL K H' a xs := by
  rcases h with h | h
  · exact .inl (e.rd h)
  · exact .inr h
theorem Ex.sqT {K : PySem.W.Frag} {H H' : Hp} {a : Addr} {xs : List V} (e : Ex H H') (h : SqT K H a xs) : SqT K H' a xs := by
  rcases h with h | h
  · exact .inl (e.rd h)
  · exact .inr h
/-- H without what stands at O -/
def off (O : List Addr) (H : Hp) : Hp := fun a => if a ∈ O then none else H a
theorem off_some {O : List Addr} {H : Hp} {a : Addr} {o : HO} : off O H a = some o ↔ a ∉ O ∧ H a = some o := by
  unfold off
  by_cases h : a ∈ O
  · rw [if_pos h]
    exact ⟨(fun z => by cases z), fun z => absurd h z.1⟩
  · rw [if_neg h]
    exact ⟨fun z => ⟨h, z⟩, fun z => z.2⟩
theorem off_ex {O O' : List Addr} {H H' : Hp} (hO : ∀ a, a ∈ O' → H a ≠ none → a ∈ O) (e : ∀ a o, a ∉ O → H a = some o → H' a = some o) : Ex (off O H) (off O' H') := fun a o h => by
  obtain ⟨h1, h2⟩ := off_some.mp h
  refine off_some.mpr ⟨fun z => h1 (hO a z (by rw [h2]; intro q; cases q)), e a o h1 h2⟩
theorem off_sub {O : List Addr} {H : Hp} : Ex (off O H) H := fun a o h => (off_some.mp h).2

section
variable {tx : Tx}
theorem AtL.mono {H B G H' B' G' : Hp} {f : Fl} {a : Addr} {vs : List V} (h : AtL H B G f a vs) (e1 : f = .own → ∀ o, H a = some o → H' a = some o) (e2 : Ex B B') (e3 : Ex G G') : AtL H' B' G' f a vs := by
  cases f with
  | own => exact e1 rfl _ h
  | sh => exact e3 _ _ h
  | brw => exact e2 _ _ h
theorem AtT.mono {H B G H' B' G' : Hp} {f : Fl} {a : Addr} {vs : List V} (h : AtT tx H B G f a vs) (e1 : f = .own → ∀ o, H a = some o → H' a = some o) (e2 : Ex B B') (e3 : Ex G G') : AtT tx H' B' G' f a vs := by
  cases f with
  | own => exact e1 rfl _ h
  | sh => exact e3.sqT h
  | brw => exact e2.sqT h
theorem AtI.mono {H B G H' B' G' : Hp} {f : Fl} {a C dx : Addr} {fs : List (Str × V)} (h : AtI H B G f a C dx fs) (e1 : f = .own → ∀ o, H a = some o → H' a = some o) (e2 : Ex B B') (e3 : Ex G G') : AtI H' B' G' f a C dx fs := by
  cases f with
  | own => exact e1 rfl _ h
  | sh => exact e3 _ _ h
  | brw => exact e2 _ _ h
theorem AtX.mono {B G B' G' : Hp} {f : Fl} {a C dx : Addr} {fs : List (Str × V)} (h : AtX B G f a C dx fs) (e2 : Ex B B') (e3 : Ex G G') : AtX B' G' f a C dx fs := by
  cases f with
  | own => exact h
  | sh => exact ⟨e3 _ _ h.1, e3 _ _ h.2⟩
  | brw => exact ⟨e2 _ _ h.1, e2 _ _ h.2⟩
theorem ft_mem {f : Fl} {a : Addr} (h : f = .own) : a ∈ ft f a := by
  subst h
  exact List.mem_cons_self
mutual
/-- the heaps have grown; the own nodes stand -/
theorem Rep.mono {H B G H' B' G' : Hp} (e2 : Ex B B') (e3 : Ex G G') : ∀ {d : D} {v : V} {F : List Addr}, Rep tx H B G d v F → (∀ a ∈ F, ∀ o, H a = some o → H' a = some o) → Rep tx H' B' G' d v F
  | .non, _, _, h, _ => h
  | .bl _, _, _, h, _ => h
  | .int _, _, _, h, _ => h
  | .str _, _, _, h, _ => h
  | .bag, _, _, h, _ => h
  | .lst f xs, v, F, h, e1 => by
    obtain ⟨a, vs, F', rfl, h1, h2, rfl⟩ := h
    exact ⟨a, vs, F', rfl, h1.mono (fun z o => e1 a (List.mem_append_left _ (ft_mem z)) o) e2 e3, Reps.mono e2 e3 h2 (fun b hb => e1 b (List.mem_append_right _ hb)), rfl⟩
  | .tup f xs, v, F, h, e1 => by
    obtain ⟨a, vs, F', rfl, h1, h2, rfl⟩ := h
    exact ⟨a, vs, F', rfl, h1.mono (fun z o => e1 a (List.mem_append_left _ (ft_mem z)) o) e2 e3, Reps.mono e2 e3 h2 (fun b hb => e1 b (List.mem_append_right _ hb)), rfl⟩
  | .ins f c ns xs, v, F, h, e1 => by
    obtain ⟨a, dx, vs, F', rfl, h1, hl, h2, rfl⟩ := h
    exact ⟨a, dx, vs, F', rfl, h1.mono (fun z o => e1 a (List.mem_append_left _ (ft_mem z)) o) e2 e3, hl, Reps.mono e2 e3 h2 (fun b hb => e1 b (List.mem_append_right _ hb)), rfl⟩
  | .exc f c ns xs, v, F, h, e1 => by
    obtain ⟨a, dx, vs, F', rfl, h1, hl, h2, rfl⟩ := h
    exact ⟨a, dx, vs, F', rfl, h1.mono e2 e3, hl, Reps.mono e2 e3 h2 (fun b hb => e1 b (List.mem_append_right _ hb)), rfl⟩
theorem Reps.mono {H B G H' B' G' : Hp} (e2 : Ex B B') (e3 : Ex G G') : ∀ {ds : List D} {vs : List V} {F : List Addr}, Reps tx H B G ds vs F → (∀ a ∈ F, ∀ o, H a = some o → H' a = some o) → Reps tx H' B' G' ds vs F
  | [], _, _, h, _ => h
  | d :: ds, vs, F, h, e1 => by
    obtain ⟨v, vs', F1, F2, rfl, h1, h2, rfl⟩ := h
    exact ⟨v, vs', F1, F2, rfl, Rep.mono e2 e3 h1 (fun b hb => e1 b (List.mem_append_left _ hb)), Reps.mono e2 e3 h2 (fun b hb => e1 b (List.mem_append_right _ hb)), rfl⟩
end
/-- flags turned: where each flag's node is to be found afterwards; what stays own -/
structure Turn (g : Fl → Fl) (H B G H' B' G' : Hp) (F : List Addr) : Prop where
  own : ∀ a ∈ F, ∀ o, H a = some o → match g .own with | .own => H' a = some o | .sh => G' a = some o | .brw => B' a = some o
  sh : (g .sh = .sh ∧ Ex G G') ∨ (g .sh = .brw ∧ Ex G B')
  brw : (g .brw = .sh ∧ Ex B G') ∨ (g .brw = .brw ∧ Ex B B')
def ftg (g : Fl → Fl) (F : List Addr) : List Addr := if g .own = .own then F else []
theorem Turn.left {g : Fl → Fl} {H B G H' B' G' : Hp} {F1 F2 : List Addr} (t : Turn g H B G H' B' G' (F1 ++ F2)) : Turn g H B G H' B' G' F1 := ⟨fun a ha => t.own a (List.mem_append_left _ ha), t.sh, t.brw⟩
theorem Turn.right {g : Fl → Fl} {H B G H' B' G' : Hp} {F1 F2 : List Addr} (t : Turn g H B G H' B' G' (F1 ++ F2)) : Turn g H B G H' B' G' F2 := ⟨fun a ha => t.own a (List.mem_append_right _ ha), t.sh, t.brw⟩
theorem ftg_app (g : Fl → Fl) (F1 F2 : List Addr) : ftg g (F1 ++ F2) = ftg g F1 ++ ftg g F2 := by
  unfold ftg
  split <;> rfl
theorem Turn.atL {g : Fl → Fl} {H B G H' B' G' : Hp} {f : Fl} {a : Addr} {vs : List V} (t : Turn g H B G H' B' G' (ft f a)) (h : AtL H B G f a vs) : AtL H' B' G' (g f) a vs ∧ ft (g f) a = ftg g (ft f a) := by
  cases f with
  | own =>
    have q := t.own a List.mem_cons_self _ h
    cases e : g .own with
    | own => rw [e] at q; exact ⟨q, by simp [ftg, ft, e]⟩
    | sh => rw [e] at q; exact ⟨q, by simp [ftg, ft, e]⟩
    | brw => rw [e] at q; exact ⟨q, by simp [ftg, ft, e]⟩
  | sh =>
    rcases t.sh with ⟨e, x⟩ | ⟨e, x⟩
    · rw [e]; exact ⟨x _ _ h, by simp [ftg, ft]⟩
    · rw [e]; exact ⟨x _ _ h, by simp [ftg, ft]⟩
  | brw =>
    rcases t.brw with ⟨e, x⟩ | ⟨e, x⟩
    · rw [e]; exact ⟨x _ _ h, by simp [ftg, ft]⟩
    · rw [e]; exact ⟨x _ _ h, by simp [ftg, ft]⟩
theorem Turn.atT {g : Fl → Fl} {H B G H' B' G' : Hp} {f : Fl} {a : Addr} {vs : List V} (t : Turn g H B G H' B' G' (ft f a)) (h : AtT tx H B G f a vs) : AtT tx H' B' G' (g f) a vs ∧ ft (g f) a = ftg g (ft f a) := by
  cases f with
  | own =>
    have q := t.own a List.mem_cons_self _ h
    cases e : g .own with
    | own => rw [e] at q; exact ⟨q, by simp [ftg, ft, e]⟩
    | sh => rw [e] at q; exact ⟨.inl (.inl q), by simp [ftg, ft, e]⟩
    | brw => rw [e] at q; exact ⟨.inl (.inl q), by simp [ftg, ft, e]⟩
  | sh =>
    rcases t.sh with ⟨e, x⟩ | ⟨e, x⟩
    · rw [e]; exact ⟨x.sqT h, by simp [ftg, ft]⟩
    · rw [e]; exact ⟨x.sqT h, by simp [ftg, ft]⟩
  | brw =>
    rcases t.brw with ⟨e, x⟩ | ⟨e, x⟩
    · rw [e]; exact ⟨x.sqT h, by simp [ftg, ft]⟩
    · rw [e]; exact ⟨x.sqT h, by simp [ftg, ft]⟩
theorem Turn.atI {g : Fl → Fl} {H B G H' B' G' : Hp} {f : Fl} {a C dx : Addr} {fs : List (Str × V)} (t : Turn g H B G H' B' G' (ft f a)) (h : AtI H B G f a C dx fs) : AtI H' B' G' (g f) a C dx fs ∧ ft (g f) a = ftg g (ft f a) := by
  cases f with
  | own =>
    have q := t.own a List.mem_cons_self _ h
    cases e : g .own with
    | own => rw [e] at q; exact ⟨q, by simp [ftg, ft, e]⟩
    | sh => rw [e] at q; exact ⟨q, by simp [ftg, ft, e]⟩
    | brw => rw [e] at q; exact ⟨q, by simp [ftg, ft, e]⟩
  | sh =>
    rcases t.sh with ⟨e, x⟩ | ⟨e, x⟩
    · rw [e]; exact ⟨x _ _ h, by simp [ftg, ft]⟩
    · rw [e]; exact ⟨x _ _ h, by simp [ftg, ft]⟩
  | brw =>
    rcases t.brw with ⟨e, x⟩ | ⟨e, x⟩
    · rw [e]; exact ⟨x _ _ h, by simp [ftg, ft]⟩
    · rw [e]; exact ⟨x _ _ h, by simp [ftg, ft]⟩
theorem Turn.atX {g : Fl → Fl} {H B G H' B' G' : Hp} {f : Fl} {a C dx : Addr} {fs : List (Str × V)} (t : Turn g H B G H' B' G' (ft f a)) (h : AtX B G f a C dx fs) : AtX B' G' (g f) a C dx fs ∧ ft (g f) a = ftg g (ft f a) := by
  cases f with
  | own => exact h.elim
  | sh =>
    rcases t.sh with ⟨e, x⟩ | ⟨e, x⟩
    · rw [e]; exact ⟨⟨x _ _ h.1, x _ _ h.2⟩, by simp [ftg, ft]⟩
    · rw [e]; exact ⟨⟨x _ _ h.1, x _ _ h.2⟩, by simp [ftg, ft]⟩
  | brw =>
    rcases t.brw with ⟨e, x⟩ | ⟨e, x⟩
    · rw [e]; exact ⟨⟨x _ _ h.1, x _ _ h.2⟩, by simp [ftg, ft]⟩
    · rw [e]; exact ⟨⟨x _ _ h.1, x _ _ h.2⟩, by simp [ftg, ft]⟩
theorem ftg_nil (g : Fl → Fl) : ftg g [] = [] := by unfold ftg; split <;> rfl
mutual
theorem Rep.turn {g : Fl → Fl} {H B G H' B' G' : Hp} : ∀ {d : D} {v : V} {F : List Addr}, Rep tx H B G d v F → Turn g H B G H' B' G' F → Rep tx H' B' G' (d.fl g) v (ftg g F)
  | .non, _, _, ⟨h1, h2⟩, _ => ⟨h1, by rw [h2, ftg_nil]⟩
  | .bl _, _, _, ⟨h1, h2⟩, _ => ⟨h1, by rw [h2, ftg_nil]⟩
  | .int _, _, _, ⟨h1, h2⟩, _ => ⟨h1, by rw [h2, ftg_nil]⟩
  | .str _, _, _, ⟨h1, h2⟩, _ => ⟨h1, by rw [h2, ftg_nil]⟩
  | .bag, _, _, ⟨h1, h2⟩, _ => ⟨h1, by rw [h2, ftg_nil]⟩
  | .lst f xs, v, F, h, t => by
    obtain ⟨a, vs, F', rfl, h1, h2, rfl⟩ := h
    obtain ⟨q1, q2⟩ := t.left.atL h1
    exact ⟨a, vs, ftg g F', rfl, q1, Reps.turn h2 t.right, by rw [ftg_app, q2]⟩
  | .tup f xs, v, F, h, t => by
    obtain ⟨a, vs, F', rfl, h1, h2, rfl⟩ := h
    obtain ⟨q1, q2⟩ := t.left.atT h1
    exact ⟨a, vs, ftg g F', rfl, q1, Reps.turn h2 t.right, by rw [ftg_app, q2]⟩
  | .ins f c ns xs, v, F, h, t => by
    obtain ⟨a, dx, vs, F', rfl, h1, hl, h2, rfl⟩ := h
    obtain ⟨q1, q2⟩ := t.left.atI h1
    exact ⟨a, dx, vs, ftg g F', rfl, q1, hl, Reps.turn h2 t.right, by rw [ftg_app, q2]⟩
  | .exc f c ns xs, v, F, h, t => by
    obtain ⟨a, dx, vs, F', rfl, h1, hl, h2, rfl⟩ := h
    obtain ⟨q1, q2⟩ := t.left.atX h1
    exact ⟨a, dx, vs, ftg g F', rfl, q1, hl, Reps.turn h2 t.right, by rw [ftg_app, q2]⟩
theorem Reps.turn {g : Fl → Fl} {H B G H' B' G' : Hp} : ∀ {ds : List D} {vs : List V} {F : List Addr}, Reps tx H B G ds vs F → Turn g H B G H' B' G' F → Reps tx H' B' G' (D.fls g ds) vs (ftg g F)
  | [], _, _, ⟨h1, h2⟩, _ => ⟨h1, by rw [h2, ftg_nil]⟩
  | d :: ds, vs, F, h, t => by
    obtain ⟨v, vs', F1, F2, rfl, h1, h2, rfl⟩ := h
    exact ⟨v, vs', ftg g F1, ftg g F2, rfl, Rep.turn h1 t.left, Reps.turn h2 t.right, ftg_app _ _ _⟩
end
end
end TI

set_option Elab.async false
set_option linter.all false
set_option maxRecDepth 100000
/-! the compact form of a def's body, and what it does with trees -/
namespace TI
open PySem PySem.Spec PyProof.Rows L2

/-- the drawing bag: cells, place, rest, seed, count -/
structure Bag where
  cells : List Int
  place : Int
  rest : Int
  seed : Int
  cnt : Int
/-- a run: the bag goes along; none: not carried -/
abbrev M (α : Type) := Bag → Option (α × Bag)
def ret {α : Type} (a : α) : M α := fun b => some (a, b)
def fail {α : Type} : M α := fun _ => none
def bnd {α β : Type} (m : M α) (f : α → M β) : M β := fun b => match m b with
  | none => none
  | some (a, b') => f a b'
def opt {α : Type} (o : Option α) : M α := fun b => match o with
  | none => none
  | some a => some (a, b)
def chk (c : Bool) : M Unit := fun b => if c = true then some ((), b) else none
theorem bnd_some {α β : Type} {m : M α} {f : α → M β} {b : Bag} {r : β × Bag} (h : bnd m f b = some r) : ∃ a b', m b = some (a, b') ∧ f a b' = some r := by
  unfold bnd at h
  cases e : m b with
  | none => rw [e] at h; cases h
  | some p => obtain ⟨a, b'⟩ := p; rw [e] at h; exact ⟨a, b', rfl, h⟩
theorem opt_some {α : Type} {o : Option α} {b : Bag} {r : α × Bag} (h : opt o b = some r) : o = some r.1 ∧ r.2 = b := by
  unfold opt at h
  cases o with
  | none => cases h
  | some a => cases h; exact ⟨rfl, rfl⟩
theorem ret_some {α : Type} {a : α} {b : Bag} {r : α × Bag} (h : ret a b = some r) : r = (a, b) := (Option.some.inj h).symm
theorem chk_some {c : Bool} {b : Bag} {r : Unit × Bag} (h : chk c b = some r) : c = true ∧ r.2 = b := by
  unfold chk at h
  split at h
  · rename_i q; cases h; exact ⟨q, rfl⟩
  · cases h

mutual
inductive IE where
  | var (i : Nat) | int (i : Int) | str (s : Str) | bl (b : Bool) | non
  | glo (x : Str)
  | bin (op : Operator) (a b : IE)
  | neg (a : IE)
  | not (a : IE)
  | bop (op : BoolOp) (a b : IE)
  | ife (c a b : IE)
  | cmp (op : CmpOp) (a b : IE)
  | cmp2 (op op2 : CmpOp) (a b c : IE)
  | call (f : Str) (as : IEs)
  | exc (c : Str) (as : IEs)
  | exck (c k : Str) (a : IE)
  | scall (c m : Str) (as : IEs)
  | meth (o : IE) (m : Str) (as : IEs)
  | methk (o : IE) (m k : Str) (a : IE)
  | attr (o : IE) (f : Str)
  | blt (f : Str) (as : IEs)
  | isi (e : IE) (ts : List Str)
  | lst (as : IEs) | tup (as : IEs)
  | idx (a i : IE)
  | sl (a lo hi : IE)
  | nopart | part (a : IE)
  | bget (x i : Nat) | bcell (x : Nat) (e : IE) | blen (x : Nat)
  | lc (tg : ITg) (it : IE) (elt : IE)
  | lcif (tg : ITg) (it c : IE) (elt : IE)
  | lc2 (tg : ITg) (it : IE) (tg2 : ITg) (it2 : IE) (elt : IE)
  | seq (a : IE) | range1 (a : IE) | range2 (a b : IE) | zip (a b : IE) | enum (a : IE)
inductive IEs where
  | nil | cons (e : IE) (es : IEs)
inductive ITg where
  | name (i : Nat) | tup (is : List Nat)
end

mutual
inductive IS where
  | asg (x : Nat) (e : IE)
  | unp (xs : List Nat) (e : IE)
  | par (xs : List Nat) (as : IEs)
  | fld (x : Nat) (f : Str) (e : IE)
  | app (x : Nat) (e : IE)
  | bset (x i : Nat) (e : IE)
  | expr (e : IE)
  | ret (e : IE)
  | retN
  | ifs (c : IE) (a b : ISs)
  | forr (tg : ITg) (it : IE) (body : ISs)
  | whil (c : IE) (body : ISs)
  | pass | brk | cont | dead
inductive ISs where
  | nil | cons (s : IS) (ss : ISs)
end

abbrev Env := List (Option D)

/-- the text's classes: the attribute a of the class c -/
inductive Ma where
  | meth (key : Str) | prop (key : Str) | stat (key : Str) | fld
  deriving DecidableEq
/-- one def: the key; its parameters; its names (parameters first); its body; an initializer hands back self -/
structure Def where
  key : Str
  ps : List Str
  N : List Str
  body : ISs
  init : Bool := false
/-- where what an error keeps comes from -/
inductive Src where
  | str (z : Str) | par (y : Str)
  deriving DecidableEq
/-- an own error's class: its parameters, what it keeps, whose kind it is -/
structure Exc where
  ps : List Str
  fl : List (Str × Src)
  mro : List Str
structure Pg where
  con : List (Str × D)
  fns : List Str
  cls : List Str
  att : List ((Str × Str) × Ma)
  isc : List Str
  mro : List (Str × List Str)
  defs : List Def
  exs : List (Str × Exc) := []
  file : Str := ""

def Pg.at (P : Pg) (c a : Str) : Option Ma := P.att.lookup (c, a)
def methAt (P : Pg) (c a : Str) : Option Str := match P.at c a with
  | some (.meth key) => some key
  | _ => none
/-- the parameters of the def that has the key -/
def Pg.par (P : Pg) (key : Str) : List Str := match P.defs.find? (fun d => d.key == key) with
  | some d => d.ps
  | none => []
theorem methAt_some {P : Pg} {c a key : Str} (h : methAt P c a = some key) : P.at c a = some (.meth key) := by
  unfold methAt at h
  split at h
  · rename_i e
    cases h
    exact e
  · cases h

/-- flat values -/
def D.flat : D → Bool
  | .non => true
  | .bl _ => true
  | .int _ => true
  | .str _ => true
  | _ => false
def D.ints : List D → Option (List Int)
  | [] => some []
  | .int i :: r => (D.ints r).map (i :: ·)
  | _ => none
def D.bls : List D → Option (List Bool)
  | [] => some []
  | .bl i :: r => (D.bls r).map (i :: ·)
  | _ => none
mutual
def D.data : D → Option PyData
  | .non => some .none
  | .bl b => some (.bool b)
  | .int i => some (.int i)
  | .str s => some (.str s)
  | .lst _ xs => (D.datas xs).map .list
  | .tup _ xs => (D.datas xs).map .tuple
  | _ => none
def D.datas : List D → Option (List PyData)
  | [] => some []
  | d :: ds => match D.data d, D.datas ds with
    | some a, some r => some (a :: r)
    | _, _ => none
end
/-- == of data -/
def eqD (x y : D) : Option Bool := match x.data, y.data with
  | some a, some b => if SeqAt.shaped a && SeqAt.shaped b then some (PyData.eqv a b) else none
  | _, _ => none
def mulOk (i j : Int) : Bool := decide (i.natAbs < 2 ^ 400000) && decide (j.natAbs < 2 ^ 400000)
/-- an operator of built-in kinds -/
def binD : Operator → D → D → Option D
  | .Add, .int i, .int j => some (.int (i + j))
  | .Add, .str i, .str j => if i.length + j.length ≤ sizeLine then some (.str (i ++ j)) else none
  | .Add, .lst _ xs, .lst _ ys => if xs.length + ys.length ≤ sizeLine then some (.lst .own (xs ++ ys)) else none
  | .Sub, .int i, .int j => some (.int (i - j))
  | .Mult, .int i, .int j => if mulOk i j then some (.int (i * j)) else none
  | .Mult, .lst _ xs, .int j => if decide (-(2 ^ 63) ≤ j) && decide (j < 2 ^ 63) && decide (xs.length * j.toNat ≤ sizeLine) then some (.lst .own (List.replicate j.toNat (D.fls Fl.so xs)).flatten) else none
  | .FloorDiv, .int i, .int j => if 0 < j ∧ j.natAbs < 2 ^ 9000 then some (.int (i / j)) else none
  | .Mod, .int i, .int j => if 0 < j then some (.int (i % j)) else none
  | .Pow, .int i, .int j => if 0 ≤ j ∧ j ≤ 1000000 ∧ i.natAbs < 2 ^ 64 then some (.int (i ^ j.toNat)) else none
  | _, _, _ => none
def cmpD : CmpOp → D → D → Option Bool
  | .Eq, x, y => eqD x y
  | .NotEq, x, y => (eqD x y).map (!·)
  | .Lt, .int i, .int j => some (decide (i < j))
  | .LtE, .int i, .int j => some (decide (i ≤ j))
  | .Gt, .int i, .int j => some (decide (j < i))
  | .GtE, .int i, .int j => some (decide (j ≤ i))
  | .Is, x, .non => some (match x with | .non => true | _ => false)
  | .IsNot, x, .non => some (match x with | .non => false | _ => true)
  | _, _, _ => none
/-- .. of ints -/
def cmpI (op : CmpOp) (x y : D) : Option Bool := match x, y with
  | .int i, .int j => (match op with
    | .Lt => some (decide (i < j))
    | .LtE => some (decide (i ≤ j))
    | .Gt => some (decide (j < i))
    | .GtE => some (decide (j ≤ i))
    | _ => none)
  | _, _ => none
/-- truth of built-in kinds -/
def truD : D → Option Bool
  | .non => some false
  | .bl b => some b
  | .int i => some (i != 0)
  | .str s => if s.length ≤ sizeLine then some ((s.length : Int) != 0) else none
  | .lst _ xs => some (!xs.isEmpty)
  | .tup _ xs => some (!xs.isEmpty)
  | _ => none
/-- the built-in classes of isinstance -/
def tyS (t : Str) : Option String :=
  if t = "ValueError" then some "ValueError" else if t = "LookupError" then some "LookupError" else if t = "IndexError" then some "IndexError" else if t = "int" then some "int" else if t = "bool" then some "bool" else if t = "str" then some "str" else if t = "list" then some "list" else if t = "tuple" then some "tuple" else none
def isiB (d : D) (t : String) : Bool := match d with
  | .int _ => t == "int"
  | .bl _ => t == "int" || t == "bool"
  | .str _ => t == "str"
  | .lst _ _ => t == "list"
  | .tup _ _ => t == "tuple"
  | _ => false
/-- isinstance -/
def isiD (P : Pg) (d : D) (t : Str) : Option Bool := match d with
  | .bag => none
  | .ins _ c _ _ => (P.mro.lookup c).bind fun l => match tyS t with
    | some _ => some false
    | none => if t ∈ P.isc then some (l.contains t) else none
  | .exc _ c _ _ => (P.exs.lookup c).bind fun x => if t ∈ P.isc ∨ (tyS t).isSome = true then some (x.mro.contains t) else none
  | d => (match tyS t with
    | some n => some (isiB d n)
    | none => if t ∈ P.isc then some false else none)
def isiA (P : Pg) (d : D) : List Str → Option Bool
  | [] => some false
  | t :: r => match isiD P d t with
    | some true => some true
    | some false => isiA P d r
    | none => none
def cutD (xs : List D) (lo hi : Option Int) : List D := (xs.drop (HT.sIx xs.length 0 lo)).take (HT.sIx xs.length xs.length hi - HT.sIx xs.length 0 lo)
def bltD (f : Str) (as : List D) : Option D :=
  if f == "len" then (match as with
    | [.lst _ xs] => some (.int xs.length)
    | [.tup _ xs] => some (.int xs.length)
    | [.str s] => if s.length ≤ sizeLine then some (.int s.length) else none
    | _ => none)
  else if f == "int" then (match as with
    | [.int i] => some (.int i)
    | [.bl b] => some (.int (if b then 1 else 0))
    | _ => none)
  else if f == "abs" then (match as with
    | [.int i] => some (.int (if i < 0 then -i else i))
    | _ => none)
  else if f == "list" then (match as with
    | [.lst _ xs] => some (.lst .own xs)
    | [.tup _ xs] => some (.lst .own xs)
    | _ => none)
  else if f == "tuple" then (match as with
    | [.lst _ xs] => some (.tup .own xs)
    | _ => none)
  else if f == "sum" then (match as with
    | [.lst _ xs] => (D.ints xs).map fun ns => .int ns.sum
    | _ => none)
  else if f == "all" then (match as with
    | [.lst _ xs] => (D.bls xs).map fun ns => .bl (ns.all id)
    | _ => none)
  else if f == "any" then (match as with
    | [.lst _ xs] => (D.bls xs).map fun ns => .bl (ns.any id)
    | _ => none)
  else none
def dunderOf : Operator → Str
  | .Add => "__add__"
  | .Sub => "__sub__"
  | .Mult => "__mul__"
  | _ => ""
def fldOf : List Str → List D → Str → Option D
  | n :: ns, x :: xs, f => if f = n then some x else fldOf ns xs f
  | _, _, _ => none
def putFl : List Str → List D → Str → D → List Str × List D
  | n :: ns, x :: xs, f, d => if f = n then (n :: ns, d :: xs) else (n :: (putFl ns xs f d).1, x :: (putFl ns xs f d).2)
  | _, _, f, d => ([f], [d])
/-- a def called: what it is given is shared; what it hands back may be borrowed, if something borrowed was given -/
def app (cl : Str → List D → M D) (key : Str) (ds : List D) : M D :=
  bnd (cl key (D.fls Fl.fz ds)) fun r => ret (if D.hass .brw ds then r.tt else r)
/-- an own error made -/
def putD (ρ : List (Str × D)) : List (Str × Src) → List (Str × D) → List (Str × D)
  | [], fs => fs
  | (f, .str z) :: r, fs => putD ρ r ((f, .str z) :: fs)
  | (f, .par y) :: r, fs => putD ρ r ((f, (ρ.lookup y).getD .non) :: fs)
def excD (P : Pg) (c : Str) (ds : List D) : Option D := (P.exs.lookup c).bind fun x => if x.ps.length = ds.length then some (.exc .sh c ((putD (x.ps.zip ds) x.fl []).map (·.1)) ((putD (x.ps.zip ds) x.fl []).map (·.2))) else none
def excM (P : Pg) (c : Str) (ds : List D) : M D := app (fun c ds => opt (excD P c ds)) c ds
def excK (P : Pg) (c k : Str) (d : D) : M D := if (P.exs.lookup c).map (·.ps) = some [k] then excM P c [d] else fail
def wipeE (env : Env) : List Nat → Env
  | [] => env
  | v :: vs => (wipeE env vs).set v none
def setsE : List Nat → List D → Env → Option Env
  | [], [], env => some env
  | i :: is, d :: ds, env => setsE is ds (env.set i (some d))
  | _, _, _ => none
def tgE : ITg → D → Env → Option Env
  | .name i, d, env => some (env.set i (some d))
  | .tup is, .tup _ ds, env => setsE is ds env
  | .tup _, _, _ => none
def ITg.ix : ITg → List Nat
  | .name i => [i]
  | .tup is => is
/-- the turns of a comprehension: from each item a value, or nothing -/
def mapO {α : Type} (f : D → M (Option α)) : List D → M (List α)
  | [] => ret []
  | d :: ds => bnd (f d) fun r => bnd (mapO f ds) fun rs => ret (match r with
    | some y => y :: rs
    | none => rs)
/-- .. a list of values each -/
def mapL {α : Type} (f : D → M (List α)) : List D → M (List α)
  | [] => ret []
  | d :: ds => bnd (f d) fun r => bnd (mapL f ds) fun rs => ret (r ++ rs)

/-- the drawing bag read and written -/
def Bag.get (b : Bag) : Nat → Option Int
  | 1 => some b.place
  | 2 => some b.rest
  | 3 => some b.seed
  | 4 => some b.cnt
  | _ => none
def Bag.set (b : Bag) (j : Int) : Nat → Option Bag
  | 1 => some { b with place := j }
  | 2 => some { b with rest := j }
  | 3 => some { b with seed := j }
  | 4 => some { b with cnt := j }
  | _ => none
def bgetM (env : Env) (x i : Nat) : M D := fun b => match (env[x]?).join with
  | some .bag => (b.get i).map fun j => (.int j, b)
  | _ => none
def bcellM (env : Env) (x : Nat) (d : D) : M D := fun b => match (env[x]?).join, d with
  | some .bag, .int j => (L2.atI b.cells j).map fun z => (.int z, b)
  | _, _ => none
def blenM (env : Env) (x : Nat) : M D := fun b => match (env[x]?).join with
  | some .bag => some (.int b.cells.length, b)
  | _ => none
/-- what an expression does: as a value, as a test, as a part of a slice, as what is walked -/
structure Sm where
  v : Env → M D
  t : Env → M Bool
  p : Env → M (Option Int)
  i : Env → M (List D)
section
variable (P : Pg) (cl : Str → List D → M D)
/-- an own def that is to hand back a bool -/
def appB (key : Str) (ds : List D) : M Bool := bnd (app cl key ds) fun r => match r with
  | .bl k => ret k
  | _ => fail
def truM (x : D) : M Bool := match x with
  | .ins fl c ns xs => (match methAt P c "__bool__" with
    | some key => appB cl key [.ins fl c ns xs]
    | none => fail)
  | x => opt (truD x)
def itemsD (x : D) : Option (List D) := match x.so with
  | .lst _ xs => some xs
  | .tup _ xs => some xs
  | _ => none
def itemsL (x : D) : Option (List D) := match x.so with
  | .lst _ xs => some xs
  | _ => none
def intPart (x : D) : M (Option Int) := match x with
  | .int i => ret (some i)
  | _ => fail
/-- .. of a value -/
def Sm.of (v : Env → M D) : Sm :=
  ⟨v, fun env => bnd (v env) (truM P cl), fun env => bnd (v env) fun x => match x with
    | .int i => ret (some i)
    | _ => fail, fun env => bnd (v env) fun x => opt (itemsD x)⟩
def Sm.no : Sm := ⟨fun _ => fail, fun _ => fail, fun _ => fail, fun _ => fail⟩
def binM (op : Operator) (x y : D) : M D := match x, y with
  | .ins f c ns xs, .ins f2 c2 ns2 xs2 => (match methAt P c (dunderOf op) with
    | some key => if c = c2 then app cl key [.ins f c ns xs, .ins f2 c2 ns2 xs2] else fail
    | none => fail)
  | x, y => opt (binD op x y)
def negM (x : D) : M D := match x with
  | .int i => ret (.int (-i))
  | _ => fail
def bopM (op : BoolOp) (x : D) (b : M D) : M D := match op, x with
  | .And, .bl true => b
  | .And, .bl false => ret (.bl false)
  | .Or, .bl true => ret (.bl true)
  | .Or, .bl false => b
  | _, _ => fail
def bopT (op : BoolOp) (k : Bool) (t : M Bool) : M Bool := match op, k with
  | .And, true => t
  | .And, false => ret false
  | .Or, true => ret true
  | .Or, false => t
def cmpM (op : CmpOp) (x y : D) : M D := match x, y with
  | .ins f c ns xs, .ins f2 c2 ns2 xs2 => (match methAt P c "__eq__" with
    | some key => if c = c2 then (match op with
      | .Eq => bnd (appB cl key [.ins f c ns xs, .ins f2 c2 ns2 xs2]) fun k => ret (.bl k)
      | .NotEq => bnd (appB cl key [.ins f c ns xs, .ins f2 c2 ns2 xs2]) fun k => ret (.bl (!k))
      | _ => fail) else fail
    | none => fail)
  | x, y => bnd (opt (cmpD op x y)) fun k => ret (.bl k)
def methM (x : D) (m : Str) (as : M (List D)) : M D := match x with
  | .ins f c ns xs => (match P.at c m with
    | some (.meth key) => if m ∈ ns then fail else bnd as fun ds => app cl key (.ins f c ns xs :: ds)
    | _ => fail)
  | _ => fail
/-- o.m(k = a) -/
def methK (x : D) (m k : Str) (a : M D) : M D := match x with
  | .ins f c ns xs => (match methAt P c m with
    | some key => if (P.par key).drop 1 = [k] ∧ m ∉ ns then bnd a fun d => app cl key [.ins f c ns xs, d] else fail
    | none => fail)
  | _ => fail
def attrM (x : D) (f : Str) : M D := match x with
  | .ins fl c ns xs => (match P.at c f with
    | some (.prop key) => app cl key [.ins fl c ns xs]
    | some .fld => opt (fldOf ns xs f)
    | _ => fail)
  | .exc _ c ns xs => (match P.exs.lookup c with
    | some x => if f ∈ x.fl.map (·.1) then opt (fldOf ns xs f) else fail
    | none => fail)
  | _ => fail
/-- bool(x) -/
def boolM (x : D) : M D := match x with
  | .ins fl c ns xs => (match methAt P c "__bool__" with
    | some key => bnd (appB cl key [.ins fl c ns xs]) fun k => ret (.bl k)
    | none => fail)
  | .int i => ret (.bl (i != 0))
  | .bl k => ret (.bl k)
  | _ => fail
def bltM (f : Str) (ds : List D) : M D := if f = "bool" then (match ds with
  | [x] => boolM P cl x
  | _ => fail) else opt (bltD f ds)
def idxD (x y : D) : Option D := match x, y with
  | .lst _ xs, .int j => atI xs j
  | .tup _ xs, .int j => atI xs j
  | _, _ => none
def slD (x : D) (l u : Option Int) : Option D := match x with
  | .lst _ xs => some (.lst .own (cutD xs l u))
  | .tup f xs => if HT.sIx xs.length 0 l = 0 ∧ HT.sIx xs.length xs.length u = xs.length then some (.tup f xs) else some (.tup .own (cutD xs l u))
  | _ => none
def range1D (x : D) : Option (List D) := match x with
  | .int n => if -(2 ^ 62) ≤ n ∧ n < 2 ^ 62 then some ((List.range n.toNat).map fun i => .int (i : Nat)) else none
  | _ => none
def range2D (x y : D) : Option (List D) := match x, y with
  | .int l, .int n => if (-(2 ^ 62) ≤ l ∧ l < 2 ^ 62) ∧ -(2 ^ 62) ≤ n ∧ n < 2 ^ 62 then some ((List.range (n - l).toNat).map fun i => .int (l + (i : Nat))) else none
  | _, _ => none
def pairD (x y : D) : D := .tup .own [x, y]
def zipD (x y : D) : Option (List D) := match itemsD x, itemsD y with
  | some xs, some ys => some (List.zipWith pairD xs ys)
  | _, _ => none
def enumD (x : D) : Option (List D) := (itemsD x).map fun xs => List.zipWith (fun (i : Nat) y => pairD (.int (i : Nat)) y) (List.range xs.length) xs
def seqM (f : Fl → List D → D) (as : M (List D)) : M D := bnd as fun ds => if ds.length ≤ sizeLine then ret (f .own ds) else fail
/-- one turn of a comprehension -/
def turnM (tg : ITg) (env : Env) (k : Env → M (Option D)) (d : D) : M (Option D) := bnd (opt (tgE tg d.so (wipeE env tg.ix))) k
mutual
def evA : IE → Sm
  | .var i => .of P cl fun env => opt ((env[i]?).join.map D.bw)
  | .int i => .of P cl fun _ => ret (.int i)
  | .str s => .of P cl fun _ => ret (.str s)
  | .bl b => .of P cl fun _ => ret (.bl b)
  | .non => .of P cl fun _ => ret .non
  | .glo x => .of P cl fun _ => opt (P.con.lookup x)
  | .bin op a b => .of P cl fun env => bnd ((evA a).v env) fun x => bnd ((evA b).v env) fun y => binM P cl op x y
  | .neg a => .of P cl fun env => bnd ((evA a).v env) negM
  | .not a => { Sm.of P cl (fun env => bnd (bnd ((evA a).v env) (truM P cl)) fun k => ret (.bl (!k))) with t := fun env => bnd ((evA a).t env) fun k => ret (!k) }
  | .bop op a b => { Sm.of P cl (fun env => bnd ((evA a).v env) fun x => bopM op x ((evA b).v env)) with
      t := fun env => bnd ((evA a).t env) fun k => bopT op k ((evA b).t env) }
  | .ife c a b => { Sm.of P cl (fun env => bnd ((evA c).t env) fun k => if k = true then (evA a).v env else (evA b).v env) with
      t := fun env => bnd ((evA c).t env) fun k => if k = true then (evA a).t env else (evA b).t env }
  | .cmp op a b => .of P cl fun env => bnd ((evA a).v env) fun x => bnd ((evA b).v env) fun y => cmpM P cl op x y
  | .cmp2 op op2 a b c => .of P cl fun env => bnd ((evA a).v env) fun x => bnd ((evA b).v env) fun y => bnd (opt (cmpI op x y)) fun k =>
      if k = true then bnd ((evA c).v env) fun z => bnd (opt (cmpI op2 y z)) fun k2 => ret (.bl k2) else ret (.bl false)
  | .call f as => .of P cl fun env => bnd (evs as env) fun ds => app cl f ds
  | .exc c as => .of P cl fun env => bnd (evs as env) fun ds => excM P c ds
  | .exck c k a => .of P cl fun env => bnd ((evA a).v env) fun d => excK P c k d
  | .scall c m as => .of P cl fun env => bnd (evs as env) fun ds => match P.at c m with
    | some (.stat key) => app cl key ds
    | _ => fail
  | .meth o m as => .of P cl fun env => bnd ((evA o).v env) fun x => methM P cl x m (evs as env)
  | .methk o m k a => .of P cl fun env => bnd ((evA o).v env) fun x => methK P cl x m k ((evA a).v env)
  | .attr o f => .of P cl fun env => bnd ((evA o).v env) fun x => attrM P cl x f
  | .blt f as => .of P cl fun env => bnd (evs as env) fun ds => bltM P cl f ds
  | .isi e ts => .of P cl fun env => bnd ((evA e).v env) fun x => bnd (opt (isiA P x ts)) fun k => ret (.bl k)
  | .lst as => .of P cl fun env => seqM .lst (evs as env)
  | .tup as => .of P cl fun env => seqM .tup (evs as env)
  | .idx a i => .of P cl fun env => bnd ((evA a).v env) fun x => bnd ((evA i).v env) fun y => opt (idxD x y)
  | .sl a lo hi => .of P cl fun env => bnd ((evA a).v env) fun x => bnd ((evA lo).p env) fun l => bnd ((evA hi).p env) fun u => opt (slD x l u)
  | .bget x i => .of P cl fun env => bgetM env x i
  | .bcell x e => .of P cl fun env => bnd ((evA e).v env) (bcellM env x)
  | .blen x => .of P cl fun env => blenM env x
  | .nopart => { Sm.no with p := fun _ => ret none }
  | .part a => { Sm.no with p := fun env => bnd ((evA a).v env) intPart }
  | .lc tg it elt => .of P cl fun env => bnd ((evA it).i env) fun xs => seqM .lst (mapO (turnM tg env fun env' => bnd ((evA elt).v env') fun y => ret (some y)) xs)
  | .lcif tg it c elt => .of P cl fun env => bnd ((evA it).i env) fun xs => seqM .lst (mapO (turnM tg env fun env' => bnd ((evA c).t env') fun k => if k = true then bnd ((evA elt).v env') fun y => ret (some y) else ret none) xs)
  | .lc2 tg it tg2 it2 elt => .of P cl fun env => bnd ((evA it).i env) fun xs => seqM .lst (mapL (fun d => bnd (opt (tgE tg d.so (wipeE env (tg.ix ++ tg2.ix)))) fun env' => bnd ((evA it2).i env') fun zs =>
      mapO (turnM tg2 env' fun env2 => bnd ((evA elt).v env2) fun y => ret (some y)) zs) xs)
  | .seq a => { Sm.no with i := fun env => bnd ((evA a).v env) fun x => opt (itemsD x) }
  | .range1 a => { Sm.no with i := fun env => bnd ((evA a).v env) fun x => opt (range1D x) }
  | .range2 a b => { Sm.no with i := fun env => bnd ((evA a).v env) fun x => bnd ((evA b).v env) fun y => opt (range2D x y) }
  | .zip a b => { Sm.no with i := fun env => bnd ((evA a).v env) fun x => bnd ((evA b).v env) fun y => opt (zipD x y) }
  | .enum a => { Sm.no with i := fun env => bnd ((evA a).v env) fun x => opt (enumD x) }
def evs : IEs → Env → M (List D)
  | .nil, _ => ret []
  | .cons e es, env => bnd ((evA e).v env) fun d => bnd (evs es env) fun ds => ret (d :: ds)
end
end

/-! ### statements -/
mutual
/-- the names that an expression reads -/
def IE.vars : IE → List Nat
  | .var i => [i]
  | .bin _ a b => a.vars ++ b.vars
  | .neg a => a.vars
  | .not a => a.vars
  | .bop _ a b => a.vars ++ b.vars
  | .ife c a b => c.vars ++ a.vars ++ b.vars
  | .cmp _ a b => a.vars ++ b.vars
  | .cmp2 _ _ a b c => a.vars ++ b.vars ++ c.vars
  | .call _ as => as.vars
  | .exc _ as => as.vars
  | .exck _ _ a => a.vars
  | .scall _ _ as => as.vars
  | .meth o _ as => o.vars ++ as.vars
  | .methk o _ _ a => o.vars ++ a.vars
  | .attr o _ => o.vars
  | .blt _ as => as.vars
  | .isi e _ => e.vars
  | .lst as => as.vars
  | .tup as => as.vars
  | .idx a i => a.vars ++ i.vars
  | .sl a lo hi => a.vars ++ lo.vars ++ hi.vars
  | .lc _ it e => it.vars ++ e.vars
  | .lcif _ it c e => it.vars ++ c.vars ++ e.vars
  | .lc2 _ it _ it2 e => it.vars ++ it2.vars ++ e.vars
  | .bget x _ => [x]
  | .bcell x e => x :: e.vars
  | .blen x => [x]
  | .seq a => a.vars
  | .part a => a.vars
  | .range1 a => a.vars
  | .range2 a b => a.vars ++ b.vars
  | .zip a b => a.vars ++ b.vars
  | .enum a => a.vars
  | _ => []
def IEs.vars : IEs → List Nat
  | .nil => []
  | .cons e es => e.vars ++ es.vars
end
/-- the names of S alone -/
def only (S : List Nat) : Nat → Env → Env
  | _, [] => []
  | i, x :: r => (if i ∈ S then x else none) :: only S (i + 1) r
/-- the names of S given away -/
def giveE (S : List Nat) : Nat → Env → Env
  | _, [] => []
  | i, x :: r => (if i ∈ S then x.map D.fz else x) :: giveE S (i + 1) r
/-- a value to be kept: if it borrows from the names S they are given away -/
def keepE (S : List Nat) (d : D) (env : Env) : D × Env := if d.has .brw then (d.ub, giveE S 0 env) else (d, env)
def keepEs (S : List Nat) (ds : List D) (env : Env) : List D × Env := if D.hass .brw ds then (D.fls Fl.ub ds, giveE S 0 env) else (ds, env)
/-- how a statement ends -/
inductive Fw where
  | nx (env : Env) | rt (d : D) (env : Env) | bk (env : Env) | ct (env : Env)
/-- x.f = d -/
def putE (P : Pg) (x : Nat) (f : Str) (S : List Nat) (d : D) (env : Env) : Option Env := match env[x]? with
  | some (some (.ins .own c ns xs)) => if (x ∉ S ∧ ns.length < 900) ∧ P.at c f = some .fld then some (env.set x (some (.ins .own c (putFl ns xs f d).1 (putFl ns xs f d).2))) else none
  | _ => none
/-- x.append(d) -/
def appE (x : Nat) (S : List Nat) (d : D) (env : Env) : Option Env := match env[x]? with
  | some (some (.lst .own xs)) => if x ∉ S ∧ xs.length < sizeLine then some (env.set x (some (.lst .own (xs ++ [d])))) else none
  | _ => none
def bsetM (env : Env) (x i : Nat) (d : D) : M Fw := fun b => match (env[x]?).join, d with
  | some .bag, .int j => (b.set j i).map fun b' => (.nx env, b')
  | _, _ => none
section
variable (P : Pg) (cl : Str → List D → M D)
/-- an expression whose value is kept -/
def evK (e : IE) (env : Env) : M (D × Env) := bnd ((evA P cl e).v (only e.vars 0 env)) fun d => ret (keepE e.vars d env)
def loopM (f : D → Env → M Fw) : List D → Env → M Fw
  | [], env => ret (.nx env)
  | d :: ds, env => bnd (f d env) fun r => match r with
    | .nx env' => loopM f ds env'
    | .ct env' => loopM f ds env'
    | .bk env' => ret (.nx env')
    | .rt v env' => ret (.rt v env')
def whileM (c : Env → M Bool) (f : Env → M Fw) : Nat → Env → M Fw
  | 0, _ => fail
  | n + 1, env => bnd (c env) fun k => if k = true then bnd (f env) fun r => match r with
    | .nx env' => whileM c f n env'
    | .ct env' => whileM c f n env'
    | .bk env' => ret (.nx env')
    | .rt v env' => ret (.rt v env')
    else ret (.nx env)
variable (W : Nat)
mutual
def exS : IS → Env → M Fw
  | .asg x e, env => bnd (evK P cl e env) fun r => ret (.nx (r.2.set x (some r.1)))
  | .unp xs e, env => bnd (evK P cl e env) fun r => bnd (opt (tgE (.tup xs) r.1.so r.2)) fun env2 => ret (.nx env2)
  | .par xs as, env => bnd (evs P cl as (only as.vars 0 env)) fun ds => bnd (opt (setsE xs (keepEs as.vars ds env).1 (keepEs as.vars ds env).2)) fun env' => ret (.nx env')
  | .fld x f e, env => bnd (evK P cl e env) fun r => bnd (opt (putE P x f e.vars r.1 r.2)) fun env' => ret (.nx env')
  | .app x e, env => bnd (evK P cl e env) fun r => bnd (opt (appE x e.vars r.1 r.2)) fun env' => ret (.nx env')
  | .bset x i e, env => bnd ((evA P cl e).v (only e.vars 0 env)) (bsetM env x i)
  | .expr e, env => bnd ((evA P cl e).v (only e.vars 0 env)) fun _ => ret (.nx env)
  | .ret e, env => bnd ((evA P cl e).v env) fun d => ret (.rt d.ub env)
  | .retN, env => ret (.rt .non env)
  | .ifs c a b, env => bnd ((evA P cl c).t env) fun k => if k = true then exSs a env else exSs b env
  | .forr tg it body, env => bnd ((evA P cl it).i (only it.vars 0 env)) fun xs =>
      loopM (fun d env' => bnd (opt (tgE tg d.ub.so env')) fun env2 => exSs body env2) xs (giveE it.vars 0 env)
  | .whil c body, env => whileM (fun env => (evA P cl c).t env) (fun env => exSs body env) W env
  | .pass, env => ret (.nx env)
  | .brk, env => ret (.bk env)
  | .cont, env => ret (.ct env)
  | .dead, _ => fail
def exSs : ISs → Env → M Fw
  | .nil, env => ret (.nx env)
  | .cons s ss, env => bnd (exS s env) fun r => match r with
    | .nx env' => exSs ss env'
    | r => ret r
end
/-- a def run at its arguments -/
def runD (d : Def) (ds : List D) : M D :=
  if ds.length = d.ps.length then bnd (exSs P cl W d.body (ds.map some ++ List.replicate (d.N.length - ds.length) none)) fun r => match r with
    | .rt v _ => ret v
    | .nx _ => ret .non
    | _ => fail
  else fail
end
/-- the last self of an initializer -/
def selfOf (r : Fw) : Option D := match r with
  | .nx env => (env[0]?).join
  | _ => none
def runI (P : Pg) (cl : Str → List D → M D) (W : Nat) (d : Def) (c : Str) (ds : List D) : M D :=
  if ds.length + 1 = d.ps.length then bnd (exSs P cl W d.body ((some (.ins .own c [] []) :: ds.map some) ++ List.replicate (d.N.length - (ds.length + 1)) none)) fun r => opt (selfOf r)
  else fail
/-- the text's defs, n calls deep, W turns of a while; the drawing is handed in -/
def callP (P : Pg) (W : Nat) (prim : Str → Option (List D → M D)) : Nat → Str → List D → M D
  | 0, _, _ => fail
  | n + 1, key, ds => match prim key with
    | some f => f ds
    | none => match P.defs.find? (fun d => d.key == key) with
      | none => fail
      | some d => if d.init = true then runI P (callP P W prim n) W d key ds else runD P (callP P W prim n) W d ds
end TI

set_option Elab.async false
set_option linter.all false
set_option maxRecDepth 100000
set_option maxHeartbeats 4000000
/-! plain parameters -/
namespace TI
open PySem PySem.Spec PyProof.Rows L2
theorem lookup_zip {x : Str} : ∀ {ps : List Str} {us : List Value}, us.length = ps.length → x ∈ ps → ∃ v, (ps.zip us).lookup x = some v
  | [], _, _, h => by cases h
  | p :: ps, [], h, _ => by simp at h
  | p :: ps, u :: us, h, hx => by
    rw [List.zip_cons_cons, List.lookup_cons]
    by_cases e : x = p
    · subst e
      rw [beq_self_eq_true]
      exact ⟨u, rfl⟩
    · rw [beq_eq_false_iff_ne.mpr e]
      exact lookup_zip (by simpa using h) ((List.mem_cons.mp hx).resolve_left e)
theorem lookup_out {x : Str} : ∀ {ps : List Str} {us : List Value}, x ∉ ps → (ps.zip us).lookup x = none
  | [], _, _ => by simp
  | p :: ps, [], _ => by simp
  | p :: ps, u :: us, h => by
    have h1 : x ≠ p := fun z => h (z ▸ List.mem_cons_self)
    rw [List.zip_cons_cons, List.lookup_cons, beq_eq_false_iff_ne.mpr h1]
    exact lookup_out fun z => h (List.mem_cons_of_mem _ z)
theorem fm_congr {α β : Type} {f g : α → Option β} : ∀ {l : List α}, (∀ a ∈ l, f a = g a) → l.filterMap f = l.filterMap g
  | [], _ => rfl
  | a :: l, h => by
    rw [List.filterMap_cons, List.filterMap_cons, h a List.mem_cons_self, fm_congr fun b hb => h b (List.mem_cons_of_mem _ hb)]
theorem binds_zip : ∀ {ps : List Str} {us : List Value}, us.length = ps.length → ps.Nodup → (ps.filterMap fun n => ((ps.zip us).lookup n).map (n, ·)) = ps.zip us
  | [], us, _, _ => rfl
  | p :: ps, [], h, _ => by simp at h
  | p :: ps, u :: us, h, nd => by
    obtain ⟨n1, n2⟩ := List.nodup_cons.mp nd
    have e0 : ((p :: ps).zip (u :: us)).lookup p = some u := by rw [List.zip_cons_cons, List.lookup_cons, beq_self_eq_true]
    have e1 : ∀ n ∈ ps, ((p :: ps).zip (u :: us)).lookup n = (ps.zip us).lookup n := fun n hn => by
      rw [List.zip_cons_cons, List.lookup_cons, beq_eq_false_iff_ne.mpr (show n ≠ p from fun z => n1 (by rw [← z]; exact hn))]
    rw [List.filterMap_cons, e0]
    show (p, u) :: _ = _
    rw [List.zip_cons_cons]
    congr 1
    refine (fm_congr fun n hn => ?_).trans (binds_zip (by simpa using h) n2)
    have q := e1 n hn
    rw [List.zip_cons_cons] at q
    rw [q]
theorem missing_none {ps : List Str} {us : List Value} (h : us.length = ps.length) : (ps.filter fun n => ((ps.zip us).lookup n).isNone) = [] := by
  rw [List.filter_eq_nil_iff]
  intro n hn
  obtain ⟨v, e⟩ := lookup_zip h hn
  rw [e]
  simp
def plainArgs (as : List Arg) : Arguments := ⟨[], as, none, [], [], none, []⟩
theorem bind_plain {x qual : Str} {body : List Stmt} {scope : Scope} {kV doc pm cdv ct : Value} {an : Option Addr} {as : List Arg} (nd : (as.map (·.arg)).Nodup) (us : List Value) (hl : us.length = (as.map (·.arg)).length) :
    bindArgs (PySem.W.fnOf x qual (plainArgs as) body scope .none kV doc pm an cdv ct) ⟨us, []⟩ = pure ((as.map (·.arg)).zip us) := by
  have h1 := missing_none hl
  have h2 := binds_zip hl nd
  have e : seqItems? Value.none = (pure none : Sem (Option (Array Value))) := rfl
  have h3 : ¬ (us.length > as.length) := by rw [hl, List.length_map]; omega
  generalize hps : as.map (·.arg) = ps at *
  have h4 : ps.length = as.length := by rw [← hps, List.length_map]
  unfold bindArgs
  simp only [PySem.W.fnOf, plainArgs, List.map_nil, List.nil_append, hps, List.append_nil, e, pure_bind, Option.getD_none]
  have h5 : (decide (us.length > ps.length) && (none : Option Arg).isNone) = false := by
    rw [hl]
    simp
  simp [h1, h2, hl]
theorem bind_kw2 {x qual p z : Str} {body : List Stmt} {scope : Scope} {kV doc pm cdv ct : Value} {an : Option Addr} {as : List Arg} (hps : as.map (·.arg) = [p, z]) (hn : z ≠ p) (u w : Value) :
    bindArgs (PySem.W.fnOf x qual (plainArgs as) body scope .none kV doc pm an cdv ct) ⟨[u], [(z, w)]⟩ = pure [(p, u), (z, w)] := by
  have e : seqItems? Value.none = (pure none : Sem (Option (Array Value))) := rfl
  have b1 : (z == p) = false := beq_eq_false_iff_ne.mpr hn
  have b2 : (p == z) = false := beq_eq_false_iff_ne.mpr (Ne.symm hn)
  unfold bindArgs
  simp [PySem.W.fnOf, plainArgs, hps, e, b1, b2, List.lookup_cons]
end TI

set_option Elab.async false
set_option linter.all false
set_option maxRecDepth 100000
set_option maxHeartbeats 2000000
/-! errors of own classes, whose __init__ says super().__init__(..) and stores: made as values -/
namespace TX
open PySem PySem.W PySem.Calls PyProof.Rows PySem.Spec

/-- of the built-in base -/
structure BaseF (B newId i : String) (bmB : List Value) : Prop where
  ex : ExcBaseFacts B newId i bmB
  kx : KxsFacts B i
  st : StoreFacts B bmB "object.__setattr__" "object"
/-- of the class at C, its __init__ at fI -/
structure ExC (K : Frag) (C fI : Addr) (B newId i : String) (bmB : List Value) : Prop where
  base : BaseF B newId i bmB
  cls : excInitIn K C bmB newId = true
  over : excOver K C bmB = true
  dct : hasDictIn K C = true
  init : findIn K (.ref C) "__init__" = some (some (.ref fI))
  fn : isFn K (.ref fI) = true
  sa : findIn K (.ref C) "__setattr__" = some (some (.builtin "object.__setattr__"))
  sup : ks_superIn K C C "__init__" = some (some (.builtin i))
  subB : subIn K (.ref C) (.type B) = some true
  subC : mroIn K C (.ref C) = some true
  any : nsIn K cStatics "thirdparty.any" = some none
section
open Builtin Builtin.ObjectAttr
variable {prog : Program} {w : World} {A : Around} {E : Value → Shared → Prop} {K : Frag} {C fI : Addr} {B newId i : String} {bmB : List Value}
variable {h1 h : Heap} {g : Array GenState} {d : Drawn} {t : Nat} {os : OsState} {e tt : Addr} {dv : Option Addr} {mA : Str → Option Value} {f : Str} {v : Value}

/-- the error in the making: all else stands as in h1 -/
structure Mk1 (h1 : Heap) (e C tt : Addr) (dv : Option Addr) (mA : Str → Option Value) (h : Heap) : Prop where
  keep : ∀ b o, b ≠ e → h1.get? b = some o → h.get? b = some o
  at_ : h.get? e = some (excObj C tt dv .none)
  dct : match dv with
    | none => mA = fun _ => none
    | some dx => h.Ns1 dx mA ∧ h1.get? dx = none ∧ dx ≠ e
theorem Mk1.kin (S : Mk1 h1 e C tt dv mA h) (X : K.In h1) (ne : ∀ b o, K.lookup b = some o → b ≠ e) : K.In h := fun b o q => S.keep b o (ne b o q) (X b o q)

/-- self.f = v -/
theorem store1 {nl : List Str} {Q : Unit → Shared → Prop} (T : ExC K C fI B newId i bmB) (X : K.In h) (S : Mk1 h1 e C tt dv mA h) (he : h1.get? e ≠ none) (ha : findIn K (.ref C) f = some none) (hw : Within mA nl) (hz : nl.length ≤ 900)
    (hq : ∀ h' tk' dx, Mk1 h1 e C tt (some dx) (fun y => if y = f then some v else mA y) h' → Q () ⟨h', g, d, tk', os⟩) :
    wpAny (model prog w) A (setAttr (.ref e) f v) Q E ⟨h, g, d, t, os⟩ := by
  have ht : takerIn K C f = some none := by unfold takerIn; rw [ha]; rfl
  obtain ⟨cd, hcd, hh⟩ := any_some T.dct
  have hcls : Looks (model prog w) h (classData C) cd := looks_clsIn X hcd
  cases dv with
  | none =>
    have hx := S.at_
    have em : mA = fun _ => none := S.dct
    subst em
    refine set_plain (od := none) X ⟨hx, rfl, rfl, trivial⟩ T.sa ?_
    refine osa_openX (s := ⟨h, g, d, t + 1, os⟩) (od := none) T.base.st X ⟨hx, rfl, rfl, trivial⟩ T.over ht fun b => ?_
    have hxs : e ≠ h.objs.size := Nat.ne_of_lt (Heap.lt_size hx)
    refine wpAny_bind (wpAny_pure (wpAny_bind (instanceDict_exc hx hcls hh ?_)))
    show wpAny _ _ (storeInDict h.objs.size (.str f t) f v) _ _ _
    refine HandSPX.store_in_new ⟨_, #[], _, (Heap.get?_update_ne _ _ _ _ hxs.symm).trans (Heap.get?_push_at rfl rfl), rfl, fun e he => absurd he (by simp), fun _ => rfl⟩ fun h' tk' hn' hs => ?_
    have hx₁ : (h.push (dictOf [] 0)).get? e = some (excObj C tt none .none) := Heap.get?_push_of_some _ hx
    refine hq h' tk' h.objs.size ⟨fun b o hb ho => ?_, ?_, hn', ?_, hxs.symm⟩
    · have hb' := S.keep b o hb ho
      exact (hs.2 b (Nat.ne_of_lt (Heap.lt_size hb'))).trans ((Heap.get?_update_ne _ _ _ _ hb).trans (Heap.get?_push_of_some _ hb'))
    · exact (hs.2 e hxs).trans (Heap.get?_update_self _ hx₁ rfl)
    · cases z : h1.get? h.objs.size with
      | none => rfl
      | some o => exact absurd (Heap.lt_size (S.keep _ _ hxs.symm z)) (Nat.lt_irrefl _)
  | some dx =>
    obtain ⟨hns, hd1, hde⟩ := S.dct
    obtain ⟨oD, esD, epD, hoD, hdD, hcD⟩ := hns.count hw
    have hx := S.at_
    refine set_plain (od := some oD) X ⟨hx, rfl, rfl, hoD⟩ T.sa ?_
    refine osa_openX (s := ⟨h, g, d, t + 1, os⟩) (od := some oD) T.base.st X ⟨hx, rfl, rfl, hoD⟩ T.over ht fun b => ?_
    refine wpAny_bind (wpAny_pure (wpAny_bind (wpAny_bind (wpAny_loadPart hx (wpAny_bind (hcls.here ?_))))))
    rw [hh]
    refine wpAny_pure (a := some dx) ?_
    refine ESX.store_in_old hns hw (by omega) fun h' tk' hn' hs => ?_
    refine hq h' tk' dx ⟨fun b o hb ho => ?_, (hs.2 e (Ne.symm hde)).trans hx, hn', hd1, hde⟩
    exact (hs.2 b (fun z => by rw [z, hd1] at ho; cases ho)).trans (S.keep b o hb ho)

end
/-- a method call on one line -/
theorem ht_at {o : Expr} {m : Str} {apos pos : Pos} {c : Const} {j : Nat} {p3 : Pos} {env : Env} (h2 : (apos.endLine == pos.line) = true) : PySem.eval (.Call (.Attribute o m apos) [.Constant c j p3] [] pos) env = (do
      let ov ← attributeBase o m env (PySem.eval o env)
      standAt apos.atName
      let (f, first) ← holding [ov] (getMethod ov m (L2.plainOf o env))
      callWith pos f first (backTo pos (starEach [.Constant c j p3] env)) []) := by
  rw [arm_eval_Call]
  refine congrArg (fun k => attributeBase o m env (PySem.eval o env) >>= k) (funext fun ov => ?_)
  refine congrArg (fun k => standAt apos.atName >>= k) (funext fun _ => ?_)
  exact L2.mcall_line rfl h2
/-! ### super().__init__(text) -/
/-- of the __init__: how it stands in K, its cell, its code's file -/
structure InitT (prog : Program) (K : Frag) (C fI : Addr) (name qual : Str) (as : List Arg) (body : List Stmt) (scope : Scope) (kV doc pm : Value) (an : Option Addr) (cda cc : Addr) (ct : Value) : Prop where
  lk : ∃ oc od osl, K.lookup fI = some ⟨oc, od, .func (ksFn name qual ⟨[], as, none, [], [], none, []⟩ body scope .none kV doc pm an (.ref cda) ct cc), osl⟩
  code : codeIn K (.ref cda) qual = true
  file : ∃ ccl cdd vs ccs fl tf, K.lookup cda = some ⟨ccl, cdd, .fields vs, ccs⟩ ∧ vs[2]? = some (.str fl tf) ∧ ((prog.main.file : Str) == fl) = true
  cell : ∃ cl cld csl, K.lookup cc = some ⟨cl, cld, .cell (some (.ref C)), csl⟩
  top : (prog.main.scope.names.lookup ("super" : Str)).isSome = false
  ks : scope.names.lookup ("super" : Str) = some .globalImplicit
  kc : scope.names.lookup ("__class__" : Str) = some .free
  kind : scope.kind = .function
section
variable {prog : Program} {w : World} {A : Around} {E : Value → Shared → Prop} {K : Frag} {C fI : Addr} {B newId i : String} {bmB : List Value} {mg : Str → Option Value}
variable {h1 h : Heap} {g : Array GenState} {d : Drawn} {t : Nat} {os : OsState} {e tt : Addr}
variable {name qual : Str} {as : List Arg} {body : List Stmt} {scope : Scope} {kV doc pm ct : Value} {an : Option Addr} {cda cc L : Addr}
theorem super1 {z : Str} {j : Nat} {p0 p1 p2 p3 p4 p5 : Pos} {ar : Arg} {m : Str → Option Value} {Q : Flow → Shared → Prop} {base : Heap} (T : ExC K C fI B newId i bmB) (D : InitT prog K C fI name qual as body scope kV doc pm an cda cc ct) (X : K.In h1) (ne : ∀ b o, K.lookup b = some o → b ≠ e)
    (M : L2.Mod K mg base) (Mk : ∀ b o, base.get? b = some o → h.get? b = some o) (hsup : mg "super" = none) (S : Mk1 h1 e C tt none (fun _ => none) h) (hline : (p2.endLine == p4.line) = true) (hp : as.head? = some ar) (hka : scope.names.lookup ar.arg = some .local)
    (hn : h.Ns L m) (hL : L ≠ e) (hL1 : ∃ o, h1.get? L = some o) (hv : m ar.arg = some (.ref e))
    (hq : ∀ h' tk' tt', Mk1 h1 e C tt' none (fun _ => none) h' → h'.Ns L m → (∀ b o, b ≠ e → h.get? b = some o → h'.get? b = some o) → Q .next ⟨h', g, d, tk', os⟩) :
    _root_.PySem.wpAt (model prog w) A (.func body (ksEnv qual scope L fI (.ref cda) cc)) (PySem.exec (.Expr (.Call (.Attribute (.Call (.Name "super" p0) [] [] p1) "__init__" p2) [.Constant (.str z) j p3] [] p4) p5) (ksEnv qual scope L fI (.ref cda) cc)) Q E ⟨h, g, d, t, os⟩ := by
  have XK : K.In h := S.kin X ne
  obtain ⟨oc, od, osl, lk⟩ := D.lk
  obtain ⟨ccl, cdd, vs, ccs, fl, tf, hcode, hvs, hfile⟩ := D.file
  obtain ⟨cl, cld, csl, hcell⟩ := D.cell
  have I0 : InstAt h e (excObj C tt none .none) C none := ⟨S.at_, rfl, rfl, trivial⟩
  obtain ⟨cd, hcd, _⟩ := any_some T.dct
  obtain ⟨oD, hD1, hD2⟩ : ∃ oD, h.get? C = some oD ∧ oD.data = .cls cd := by
    unfold clsIn at hcd
    split at hcd
    · rename_i c d cd' sl ho
      cases hcd
      exact ⟨_, XK _ _ ho, rfl⟩
    · cases hcd
  have eC : e ≠ C := ks_ne XK I0 hcd
  obtain ⟨mb, hb1, hb2⟩ := M.blt
  refine ks_wpAt_Expr_any (ks_wpAt_MethodCall (pl := L2.plainOf (.Call (.Name "super" p0) [] [] p1) (ksEnv qual scope L fI (.ref cda) cc)) ?_ (ht_at hline)) (by unfold interactive; rw [show (ksEnv qual scope L fI (.ref cda) cc).scope.kind = .function from D.kind]; rfl)
  refine ks_wpAt_super_base (env := ksEnv qual scope L fI (.ref cda) cc) D.ks D.kc (by decide) rfl (XK _ _ lk) rfl hp rfl (XK _ _ hcode) rfl hvs hfile D.top ?_
  refine ks_loadName_global D.kind D.ks (loadGlobal_builtin (env := ksEnv qual scope L fI (.ref cda) cc) (M.glob.keeps Mk) hsup (hb1.keeps Mk) ((hb2 _ (by decide)).trans PyProof.Rows.Boot.«super») ⟨rfl, ?_⟩)
  refine wpAny_loadName_free D.kind D.kc rfl ⟨_, XK _ _ hcell, rfl⟩ ?_
  refine wpAny_loadName_local D.kind hka hn hv ?_
  refine ks_wpAny_isType_cls hD1 hD2 ⟨rfl, ?_⟩
  refine ks_wpAny_call_super hD1 hD2 I0.at_ I0.cls (fun c z => by cases z) (looks_mroIn XK T.subC) (fun h2 e2 k2 => ?_)
  have X2 : K.In h2 := XK.keeps k2
  have L2 : h2.get? L ≠ none := by
    obtain ⟨o, ho⟩ := hL1
    rw [k2 _ _ (S.keep _ _ hL ho)]
    exact fun z => nomatch z
  have hx2 := k2 _ _ S.at_
  have I2 : InstAt h2 e (excObj C tt none .none) C none := ⟨hx2, rfl, rfl, trivial⟩
  have hm : alongIn K "__init__" ((cd.mro.dropWhile (· != .ref C)).drop 1) = some (some (.builtin i)) := by
    have q := T.sup
    unfold ks_superIn at q
    rw [hcd] at q
    exact q
  refine kxs_getMethod T.base.kx e2 (looks_opaque X2 T.any) (l₀ := cd.mro) (fun A Q E s k q => wpAny_bind ((looks_clsIn X2 hcd) A _ E s k (wpAny_pure q))) rfl X2 hm (I2.type.andThen (looks_subIn X2 T.subB)) eC (by decide) ?_
  have k3 : ∀ b o, h2.get? b = some o → (h2.push (kxs_mw i e)).get? b = some o := fun b o q => Heap.get?_push_of_some _ q
  have hmw : (h2.push (kxs_mw i e)).get? h2.objs.size = some (kxs_mw i e) := Heap.get?_push_at rfl rfl
  refine kxs_callWith (i := i) (x := e) (by rfl) (evalArgs_plain ?_)
  refine Calls.spliced_cons (Calls.Constant_str (k := j) (pos := p3) (Calls.spliced_nil ⟨hmw, ?_⟩))
  show wpAny _ _ (call (.ref h2.objs.size) [.str z _]) _ _ _
  obtain ⟨nm, N', qn, bs, bm, hdct, sn, sub, ab, col, dd, k0, k1, k2', k3', k5, hC, hT⟩ := excInit_of (X2.keeps k3) T.cls
  refine wpAny_call (codeAny_of_tree ?_)
  show wpAny _ A.in1 (callAny (.ref h2.objs.size) ⟨[.str z _], []⟩) _ _ _
  simp only [callAny]
  refine wpAny_bind (wpAny_load hmw ?_)
  simp only [kxs_mw, show (Value.type "method-wrapper" == Value.type "method" || Value.type "method-wrapper" == Value.type "builtin_function_or_method" || Value.type "method-wrapper" == Value.type "method-wrapper") = true by decide, if_true]
  refine KFB.if_so (by decide) ?_
  refine wpAny_bind (check_bound_init T.base.ex.toExcCallFacts hC (k3 _ _ hx2) rfl ?_)
  refine wpAny_bind (wpAny_pure (wpAny_pure ?_))
  refine ⟨plainId_quiet T.base.ex.init.plain _, codeAny_builtin T.base.ex.initEntry ?_⟩
  refine exc_init_tree (cls := .ref C) (t0 := tt) (dv := none) (c2 := .none) (c3 := .none) (b4 := .bool false) (k3 _ _ hx2) (by show 1 ≤ sizeLine; rw [sizeLine_eq]; omega) fun h4 k4 e4 _ => ?_
  have kk : ∀ b o, b ≠ e → h.get? b = some o → h4.get? b = some o := fun b o hb ho => k4 b o hb (k3 b o (k2 b o ho))
  refine hq h4 _ _ ⟨fun b o hb ho => kk b o hb (S.keep b o hb ho), e4, rfl⟩ ?_ kk
  obtain ⟨oL, es, ep, ho, r⟩ := hn
  exact ⟨oL, es, ep, kk _ _ hL ho, r⟩
end
end TX

set_option Elab.async false
set_option linter.all false
set_option maxRecDepth 100000
set_option maxHeartbeats 2000000
/-! .. the stores, the whole __init__, the class called -/
namespace TX
open PySem PySem.W PySem.Calls PyProof.Rows PySem.Spec

/-- where a stored value comes from -/
abbrev Src := TI.Src
def stOf (self : Str) : Stmt → Option (Str × Src)
  | .Assign [.Attribute (.Name x _) f _] (.Constant (.str z) _ _) _ => if x = self then some (f, .str z) else none
  | .Assign [.Attribute (.Name x _) f _] (.Name y _) _ => if x = self then some (f, .par y) else none
  | _ => none
def stsOf (self : Str) : List Stmt → Option (List (Str × Src))
  | [] => some []
  | st :: sts => match stOf self st, stsOf self sts with
    | some p, some r => some (p :: r)
    | _, _ => none
def putF (ρ : Str → Option L2.V) : List (Str × Src) → List (Str × L2.V) → List (Str × L2.V)
  | [], fs => fs
  | (f, .str z) :: r, fs => putF ρ r ((f, .str z) :: fs)
  | (f, .par y) :: r, fs => putF ρ r ((f, (ρ y).getD .non) :: fs)
section
variable {prog : Program} {w : World} {A : Around} {E : Value → Shared → Prop} {K : Frag} {C fI : Addr} {B newId i : String} {bmB : List Value} {mg : Str → Option Value}
variable {h1 : Heap} {g : Array GenState} {d : Drawn} {os : OsState} {e : Addr}
variable {name qual : Str} {as : List Arg} {body : List Stmt} {scope : Scope} {kV doc pm ct : Value} {an : Option Addr} {cda cc L : Addr} {m : Str → Option Value} {ρ : Str → Option L2.V} {self : Str}
theorem stores1 (T : ExC K C fI B newId i bmB) (hk : scope.kind = .function) (X : K.In h1) (ne : ∀ b o, K.lookup b = some o → b ≠ e) (he : h1.get? e ≠ none) (hL : L ≠ e) (hL1 : ∃ o, h1.get? L = some o)
    (hs : m self = some (.ref e)) (hsl : scope.names.lookup self = some .local ∧ (self == ("__debug__" : Str)) = false) (hsC : self ≠ "super") :
    ∀ (sts : List Stmt) (fl : List (Str × Src)) (h : Heap) (t : Nat) (tt : Addr) (dv : Option Addr) (mA : Str → Option Value) (fs : List (Str × L2.V)) (Q : Flow → Shared → Prop),
    stsOf self sts = some fl → (∀ p ∈ fl, findIn K (.ref C) p.1 = some none ∧ match p.2 with
      | .str _ => True
      | .par y => (∃ v u, ρ y = some v ∧ m y = some u ∧ L2.RelV v u) ∧ scope.names.lookup y = some .local ∧ (y == ("__debug__" : Str)) = false) →
    Mk1 h1 e C tt dv mA h → h.Ns L m → (∀ g, L2.RelO (fs.lookup g) (mA g)) → fs.length + fl.length ≤ 900 →
    (∀ h' tk' dv' mA', (fl ≠ [] ∨ dv ≠ none → dv' ≠ none) → Mk1 h1 e C tt dv' mA' h' → (∀ g, L2.RelO ((putF ρ fl fs).lookup g) (mA' g)) → Q .next ⟨h', g, d, tk', os⟩) →
    wpAny (model prog w) A (execs sts (ksEnv qual scope L fI (.ref cda) cc)) Q E ⟨h, g, d, t, os⟩
  | [], fl, h, t, tt, dv, mA, fs, Q, e1, _, S, hn, rl, hz, hq => by
    cases e1
    exact wpAny_execs_nil (hq h t dv mA (fun z => z.elim (fun z => absurd rfl z) id) S rl)
  | st :: sts, fl, h, t, tt, dv, mA, fs, Q, e1, hf, S, hn, rl, hz, hq => by
    unfold stsOf at e1
    split at e1
    · rename_i p r ep er
      cases e1
      have XK : K.In h := S.kin X ne
      obtain ⟨f, src⟩ := p
      obtain ⟨hf0, hf1⟩ := hf _ List.mem_cons_self
      have go : ∀ {t : Nat} {y : L2.V} {v : Value}, L2.RelV y v → putF ρ ((f, src) :: r) fs = putF ρ r ((f, y) :: fs) →
          wpAny (model prog w) A (setAttr (.ref e) f v) (fun _ s' => wpAny (model prog w) A (execs sts (ksEnv qual scope L fI (.ref cda) cc)) Q E s') E ⟨h, g, d, t, os⟩ := fun {t y v} ry ep => by
        refine store1 (nl := fs.map (·.1)) T XK S he hf0 (L2.within_of rl) (by rw [List.length_map]; simp only [List.length_cons] at hz; omega) fun h' tk' dx S' => ?_
        refine stores1 T hk X ne he hL hL1 hs hsl hsC sts r h' tk' tt (some dx) _ ((f, y) :: fs) Q er (fun p hp => hf p (List.mem_cons_of_mem _ hp)) S' ?_ (L2.relO_put ry rl) (by simp only [List.length_cons] at hz ⊢; omega) fun h2 tk2 dv2 mA2 z S2 r2 => hq h2 tk2 dv2 mA2 (fun _ => z (.inr fun z => nomatch z)) S2 (by rw [ep]; exact r2)
        obtain ⟨oL, es, epp, ho, rr⟩ := hn
        obtain ⟨o1, ho1⟩ := hL1
        have q1 := S.keep _ _ hL ho1
        have q2 := S'.keep _ _ hL ho1
        rw [ho] at q1
        cases q1
        exact ⟨oL, es, epp, q2, rr⟩
      refine wpAny_execs_cons ?_
      unfold stOf at ep
      split at ep
      · rename_i x p1 f' p2 z j p3 pos
        split at ep
        · rename_i ex
          subst ex
          cases ep
          refine plainObj_wpAny_Assign_Attribute (Calls.Constant_str (ESX.ldL hn hs ?_ hk hsl.1 hsl.2)) (by rfl)
          exact go (y := .str z) ⟨_, rfl⟩ rfl
        · cases ep
      · rename_i x p1 f' p2 y p3 pos
        split at ep
        · rename_i ex
          subst ex
          cases ep
          obtain ⟨⟨v, u, e3, e4, e5⟩, e6, e7⟩ := hf1
          refine plainObj_wpAny_Assign_Attribute (ESX.ldL hn e4 (ESX.ldL hn hs ?_ hk hsl.1 hsl.2) hk e6 e7) (by rfl)
          exact go (y := v) e5 (by show putF ρ r ((f, (ρ y).getD .non) :: fs) = _; rw [e3]; rfl)
        · cases ep
      · cases ep
    · cases e1

theorem zip_rev {x : Str} : ∀ {ps : List Str} {us : List Value}, ps.Nodup → us.length = ps.length → (ps.zip us).reverse.lookup x = (ps.zip us).lookup x
  | [], us, _, _ => by simp
  | p :: ps, [], _, h => by simp at h
  | p :: ps, u :: us, nd, hl => by
    obtain ⟨n1, n2⟩ := List.nodup_cons.mp nd
    rw [List.zip_cons_cons, List.reverse_cons, List.lookup_append, zip_rev n2 (by simpa using hl)]
    simp only [List.lookup_cons, List.lookup_nil]
    by_cases ex : x = p
    · subst ex
      rw [TI.lookup_out n1, beq_self_eq_true]
      rfl
    · rw [beq_eq_false_iff_ne.mpr ex]
      cases (ps.zip us).lookup x <;> rfl
theorem vals_lookup {y : Str} {v : L2.V} : ∀ {ps : List Str} {vs : List L2.V} {us : List Value}, L2.Vals vs us → (ps.zip vs).lookup y = some v → ∃ u, (ps.zip us).lookup y = some u ∧ L2.RelV v u
  | [], _, _, _, h => by simp at h
  | p :: ps, _, _, .nil, h => by simp at h
  | p :: ps, _, _, .cons r rr, h => by
    rw [List.zip_cons_cons, List.lookup_cons] at h ⊢
    cases e : y == p with
    | true => rw [e] at h; cases h; exact ⟨_, rfl, r⟩
    | false => rw [e] at h; exact vals_lookup rr h
theorem bind_ks {x qual : Str} {body : List Stmt} {scope : Scope} {kV doc pm cdv ct : Value} {an : Option Addr} {as : List Arg} {cc : Addr} (nd : (as.map (·.arg)).Nodup) (us : List Value) (hl : us.length = (as.map (·.arg)).length) :
    bindArgs (ksFn x qual ⟨[], as, none, [], [], none, []⟩ body scope .none kV doc pm an cdv ct cc) ⟨us, []⟩ = pure ((as.map (·.arg)).zip us) :=
  (show bindArgs (ksFn x qual ⟨[], as, none, [], [], none, []⟩ body scope .none kV doc pm an cdv ct cc) ⟨us, []⟩ = bindArgs (PySem.W.fnOf x qual (TI.plainArgs as) body scope .none kV doc pm an cdv ct) ⟨us, []⟩ from rfl).trans (TI.bind_plain nd us hl)
/-- the whole __init__ called: ps its parameters behind self -/
theorem init1 {ps : List Str} {p0 p1 p2 p3 p4 p5 : Pos} {z : Str} {j : Nat} {sts : List Stmt} {fl : List (Str × Src)} {vs : List L2.V} {us : List Value} {h : Heap} {t : Nat} {tt : Addr} {R : Result → Shared → Prop} {base : Heap} {args : Args}
    (T : ExC K C fI B newId i bmB) (D : InitT prog K C fI name qual as (.Expr (.Call (.Attribute (.Call (.Name "super" p0) [] [] p1) "__init__" p2) [.Constant (.str z) j p3] [] p4) p5 :: sts) scope kV doc pm an cda cc ct)
    (hco : scope.isCoroutine = false) (hgen : scope.isGenerator = false) (hcell : ∀ x ∈ scope.names, x.2 ≠ .cell) (has : as.map (·.arg) = self :: ps) (nd : (self :: ps).Nodup) (hloc : ∀ y ∈ self :: ps, scope.names.lookup y = some .local ∧ (y == ("__debug__" : Str)) = false) (hsC : self ≠ "super")
    (hline : (p2.endLine == p4.line) = true) (hst : stsOf self sts = some fl) (hfl : ∀ p ∈ fl, findIn K (.ref C) p.1 = some none ∧ match p.2 with
      | .str _ => True
      | .par y => y ∈ ps) (hz : fl.length ≤ 900) (hne : fl ≠ [])
    (X : K.In h) (M : L2.Mod K mg base) (hb : ∀ b o, base.get? b = some o → h.get? b = some o) (hsup : mg "super" = none) (he : h.get? e = some (excObj C tt none .none)) (ne : ∀ b o, K.lookup b = some o → b ≠ e)
    (hroom : A.depth < recursionLimit) (r : L2.Vals vs us) (hbind : BindsTo ⟨h, g, d, t, os⟩ (ksFn name qual ⟨[], as, none, [], [], none, []⟩ (.Expr (.Call (.Attribute (.Call (.Name "super" p0) [] [] p1) "__init__" p2) [.Constant (.str z) j p3] [] p4) p5 :: sts) scope .none kV doc pm an (.ref cda) ct cc) args ((self :: ps).zip (.ref e :: us))) (hl : us.length = ps.length)
    (hq : ∀ h' tk' dx tt' mA, (∀ b o, b ≠ e → h.get? b = some o → h'.get? b = some o) → h'.get? e = some (excObj C tt' (some dx) .none) → h'.Ns1 dx mA → h.get? dx = none → dx ≠ e → (∀ g, L2.RelO ((putF (fun y => (ps.zip vs).lookup y) fl []).lookup g) (mA g)) → R (.ok (.ret .none)) ⟨h', g, d, tk', os⟩) :
    codeAny (model prog w) A (.call (.ref fI) args) R ⟨h, g, d, t, os⟩ := by
  obtain ⟨oc, od, osl, lk⟩ := D.lk
  have nd1 := (List.nodup_cons.mp nd).1
  refine ks_codeAny_call_defAt (o := ⟨oc, od, .func (ksFn name qual ⟨[], as, none, [], [], none, []⟩ _ scope .none kV doc pm an (.ref cda) ct cc), osl⟩) hroom (X _ _ lk) rfl (M.nolimit.keeps hb) (codeRec_of X D.code) rfl hbind hcell (fun y hy => ?_) (fun h0 hns hk0 => ?_) hco hgen D.kind
  · obtain ⟨n, v⟩ := y
    exact (hloc n (List.of_mem_zip hy).1).1
  · have hLe : h.objs.size ≠ e := Nat.ne_of_gt (Heap.lt_size he)
    have X0 : K.In h0 := X.keeps hk0
    have hL1 : ∃ o, h0.get? h.objs.size = some o := by
      obtain ⟨o, es, ep, ho, _⟩ := hns
      exact ⟨o, ho⟩
    have hself : (fun x => ((self :: ps).zip (Value.ref e :: us)).reverse.lookup x) self = some (.ref e) := by
      show ((self :: ps).zip (Value.ref e :: us)).reverse.lookup self = _
      rw [zip_rev nd (by rw [List.length_cons, List.length_cons, hl]), List.zip_cons_cons, List.lookup_cons, beq_self_eq_true]
    obtain ⟨ar, as', ea, har⟩ : ∃ ar as', as = ar :: as' ∧ ar.arg = self := by
      cases as with
      | nil => cases has
      | cons a r => exact ⟨a, r, rfl, (List.cons.inj has).1⟩
    have S0 : Mk1 h0 e C tt none (fun _ => none) h0 := ⟨fun _ _ _ q => q, hk0 _ _ he, rfl⟩
    refine ks_wpAt_execs_cons (super1 (h1 := h0) (mg := mg) (ar := ar) T D X0 ne M (fun b o q => hk0 b o (hb b o q)) hsup S0 hline (by rw [ea]; rfl) (by rw [har]; exact (hloc self List.mem_cons_self).1) hns hLe hL1 (by rw [har]; exact hself) fun h2 tk2 tt2 S2 hn2 _ => ?_)
    refine wpAt_of_wpAny (stores1 (ρ := fun y => (ps.zip vs).lookup y) T D.kind X0 ne (by rw [hk0 _ _ he]; exact fun z => nomatch z) hLe hL1 hself (hloc self List.mem_cons_self) hsC sts fl h2 tk2 tt2 none _ [] _ hst (fun p hp => ?_) S2 hn2 (fun _ => True.intro) (by simpa using hz) fun h3 tk3 dv3 mA3 z3 S3 r3 => ?_)
    · obtain ⟨q1, q2⟩ := hfl p hp
      refine ⟨q1, ?_⟩
      obtain ⟨f, src⟩ := p
      cases src with
      | str _ => exact True.intro
      | par y =>
        have q2 : y ∈ ps := q2
        have hvl : vs.length = ps.length := r.length.trans hl
        refine ⟨?_, hloc y (List.mem_cons_of_mem _ q2)⟩
        have hys : y ≠ self := fun z => nd1 (z ▸ q2)
        obtain ⟨v, ev⟩ : ∃ v, (ps.zip vs).lookup y = some v := by
          have : ∀ {ps : List Str} {vs : List L2.V}, vs.length = ps.length → y ∈ ps → ∃ v, (ps.zip vs).lookup y = some v := by
            intro ps
            induction ps with
            | nil => intro vs _ h; cases h
            | cons p ps ih =>
              intro vs hl hy
              cases vs with
              | nil => simp at hl
              | cons v vs =>
                rw [List.zip_cons_cons, List.lookup_cons]
                by_cases ey : y = p
                · subst ey; rw [beq_self_eq_true]; exact ⟨v, rfl⟩
                · rw [beq_eq_false_iff_ne.mpr ey]; exact ih (by simpa using hl) ((List.mem_cons.mp hy).resolve_left ey)
          exact this hvl q2
        obtain ⟨u, eu, ru⟩ := vals_lookup r ev
        refine ⟨v, u, ev, ?_, ru⟩
        show ((self :: ps).zip (Value.ref e :: us)).reverse.lookup y = some u
        rw [zip_rev nd (by rw [List.length_cons, List.length_cons, hl]), List.zip_cons_cons, List.lookup_cons, beq_eq_false_iff_ne.mpr hys]
        exact eu
    · cases dv3 with
      | none => exact absurd rfl (z3 (.inl hne))
      | some dx =>
        obtain ⟨n1, n2, n3⟩ := S3.dct
        refine hq h3 tk3 dx tt2 mA3 (fun b o hbe ho => S3.keep b o hbe (hk0 b o ho)) S3.at_ n1 ?_ n3 r3
        cases zz : h.get? dx with
        | none => rfl
        | some o => rw [hk0 _ _ zz] at n2; cases n2
/-- C(..): the error made -/
theorem make1 {ps : List Str} {p0 p1 p2 p3 p4 p5 : Pos} {z : Str} {j : Nat} {sts : List Stmt} {fl : List (Str × Src)} {vs : List L2.V} {us : List Value} {h : Heap} {t : Nat} {Q : Value → Shared → Prop} {base : Heap}
    (T : ExC K C fI B newId i bmB) (D : InitT prog K C fI name qual as (.Expr (.Call (.Attribute (.Call (.Name "super" p0) [] [] p1) "__init__" p2) [.Constant (.str z) j p3] [] p4) p5 :: sts) scope kV doc pm an cda cc ct)
    (hco : scope.isCoroutine = false) (hgen : scope.isGenerator = false) (hcell : ∀ x ∈ scope.names, x.2 ≠ .cell) (has : as.map (·.arg) = self :: ps) (nd : (self :: ps).Nodup) (hloc : ∀ y ∈ self :: ps, scope.names.lookup y = some .local ∧ (y == ("__debug__" : Str)) = false) (hsC : self ≠ "super")
    (hline : (p2.endLine == p4.line) = true) (hst : stsOf self sts = some fl) (hfl : ∀ p ∈ fl, findIn K (.ref C) p.1 = some none ∧ match p.2 with
      | .str _ => True
      | .par y => y ∈ ps) (hz : fl.length ≤ 900) (hne : fl ≠ [])
    (X : K.In h) (M : L2.Mod K mg base) (hb : ∀ b o, base.get? b = some o → h.get? b = some o) (hsup : mg "super" = none)
    (hroom : A.depth + 1 < recursionLimit) (r : L2.Vals vs us) (hl : us.length = ps.length) (hsz : us.length ≤ sizeLine)
    (hq : ∀ h' tk' a dx tt' mA, (∀ b o, h.get? b = some o → h'.get? b = some o) → h.get? a = none → h'.get? a = some (excObj C tt' (some dx) .none) → h'.Ns1 dx mA → h.get? dx = none → dx ≠ a → (∀ g, L2.RelO ((putF (fun y => (ps.zip vs).lookup y) fl []).lookup g) (mA g)) → Q (.ref a) ⟨h', g, d, tk', os⟩) :
    wpAny (model prog w) A (call (.ref C) us) Q E ⟨h, g, d, t, os⟩ := by
  obtain ⟨nm, N', qn, bs, bm, hdct, sn, sub, ab, col, dd, k0, k1, k2, k3, k5, hC, hT⟩ := excInit_of X T.cls
  obtain ⟨oI, hoI, hcI⟩ : ∃ oI, h.get? fI = some oI ∧ oI.cls = .type "function" := by
    obtain ⟨o, ho, hc⟩ := Option.map_eq_some_iff.mp (show (K.lookup fI).map (·.cls) = some (.type "function") from beq_iff_eq.mp T.fn)
    exact ⟨o, X _ _ ho, hc⟩
  have kk : ∀ b o, h.get? b = some o → ((h.push (PySem.W.kdv_tup us)).push (PySem.HandSPX.excO C h.objs.size)).get? b = some o := fun b o q => Heap.get?_push_of_some _ (Heap.get?_push_of_some _ q)
  have hget : ((h.push (PySem.W.kdv_tup us)).push (PySem.HandSPX.excO C h.objs.size)).get? (h.objs.size + 1) = some (PySem.HandSPX.excO C h.objs.size) := by heap_get
  have nb : ∀ {b : Addr} {o : Obj}, h.get? b = some o → b ≠ h.objs.size + 1 := fun {b o} q => Nat.ne_of_lt (Nat.lt_succ_of_lt (Heap.lt_size q))
  refine wpAny_call (PySem.HandSPX.call_own T.base.ex hT hC (looks_findIn X T.init) (fun self => exc_bind hoI hcI self) hsz ?_)
  refine init1 (h := (h.push (PySem.W.kdv_tup us)).push (PySem.HandSPX.excO C h.objs.size)) (e := h.objs.size + 1) (tt := h.objs.size) T D hco hgen hcell has nd hloc hsC hline hst hfl hz hne (X.keeps kk) M (fun b o q => kk b o (hb b o q)) hsup hget (fun b o q => nb (X _ _ q)) (by rw [L2.make_depth]; exact hroom) r (.of_eq ?_) hl fun h' tk' dx tt' mA k1 k2 k3 k4 k5 k6 => ⟨rfl, ?_⟩
  · have := bind_ks (x := name) (qual := qual) (body := (.Expr (.Call (.Attribute (.Call (.Name "super" p0) [] [] p1) "__init__" p2) [.Constant (.str z) j p3] [] p4) p5 :: sts)) (scope := scope) (kV := kV) (doc := doc) (pm := pm) (cdv := .ref cda) (ct := ct) (an := an) (as := as) (cc := cc) (by rw [has]; exact nd) (.ref (h.objs.size + 1) :: us) (by rw [has, List.length_cons, List.length_cons, hl])
    rw [has] at this
    exact this
  · have no : ∀ {b : Addr}, ((h.push (PySem.W.kdv_tup us)).push (PySem.HandSPX.excO C h.objs.size)).get? b = none → h.get? b = none := fun {b} q => by
      cases z : h.get? b with
      | none => rfl
      | some o => rw [kk _ _ z] at q; cases q
    refine hq h' tk' _ dx tt' mA (fun b o q => k1 b o (nb q) (kk b o q)) ?_ k2 k3 (no k4) k5 k6
    cases z : h.get? (h.objs.size + 1) with
    | none => rfl
    | some o => exact absurd rfl (nb z)
end
end TX

set_option Elab.async false
set_option linter.all false
set_option maxRecDepth 100000
set_option maxHeartbeats 2000000
/-! .. called with a keyword -/
namespace TX
open PySem PySem.HandSPX
section
variable {M : Model} {A : Around} {E : Value → Shared → Prop} {h : Heap} {g : Array GenState} {d : Drawn} {t : Nat} {os : OsState}
variable {nm q : Str} {C N : Addr} {bs bm bmB : List Value} {hdct : Bool} {sn : List Str} {sub : List Value} {ab : Bool} {col : Option Bool} {dd : Option Addr} {k0 k1 k2 k3 k5 : Option Value} {B newId initId : String}
theorem check_newK (F : ExcBaseFacts B newId initId bmB) (hT : ∀ X : String, bm.contains (.type X) = bmB.contains (.type X)) {rest : List Value} {kw : List (Str × Value)} {Q : Unit → Shared → Prop}
    (hC : h.get? C = some (excClassObj nm q C N bs bm hdct sn sub ab col dd k0 k1 k2 k3 k5 newId)) (hq : Q () ⟨h, g, d, t, os⟩) : wpAny M A (checkBuiltinCall newId ⟨.ref C :: rest, kw⟩) Q E ⟨h, g, d, t, os⟩ := by
  have hcont : (Value.ref C :: bm).contains (.type B) = true := by rw [List.contains_cons, hT, F.hasB, Bool.or_true]
  have hstar := F.noStar
  simp only [checkBuiltinCall, F.newKind, F.newSplit, F.newRow]
  repeat (first | refine wpAny_loadPart_at hC ?_ | (refine wpAny_isSubtype_exc hC ?_; rw [hcont]) | refine wpAny_staticBase_exc hC ?_ | refine wpAny_madeBy_exc hC ?_ | simp only [bne_self_eq_false, Bool.false_eq_true, if_false] | wp_step)
  exact hq
theorem check_tcK {rest : List Value} {kw : List (Str × Value)} {Q : Unit → Shared → Prop} (hC : h.get? C = some (excClassObj nm q C N bs bm hdct sn sub ab col dd k0 k1 k2 k3 k5 newId))
    (hq : Q () ⟨h, g, d, t, os⟩) : wpAny M A (checkBuiltinCall "type.__call__" ⟨.ref C :: rest, kw⟩) Q E ⟨h, g, d, t, os⟩ := by
  have f3 := tc_sub
  have hT : (⟨h, g, d, t, os⟩ : Shared).TypeIs (.ref C) "type" := ⟨_, hC, rfl⟩
  simp only [checkBuiltinCall, tc_kind, tc_split]
  repeat (any_goals (first | assumption | with_reducible refine wpAny_loadPart_at hC ?_ | with_reducible refine wpAny_onRaise ?_ | with_reducible refine wpAny_map ?_ | wp_step))
end
section
variable {prog : Program} {w : World} {A : Around} {E : Value → Shared → Prop} {R : Result → Shared → Prop} {h : Heap} {g : Array GenState} {d : Drawn} {t : Nat} {os : OsState}
variable {nm q : Str} {C N : Addr} {bs bm bmB : List Value} {hdct : Bool} {sn : List Str} {sub : List Value} {ab : Bool} {col : Option Bool} {dd : Option Addr} {k0 k1 k2 k3 k5 : Option Value} {B newId initId : String}
theorem newK (F : ExcBaseFacts B newId initId bmB) (hT : ∀ X : String, bm.contains (.type X) = bmB.contains (.type X)) {rest : List Value} {kw : List (Str × Value)}
    (hC : h.get? C = some (excClassObj nm q C N bs bm hdct sn sub ab col dd k0 k1 k2 k3 k5 newId))
    (hq : R (.ok (.ret (.ref (h.objs.size + 1)))) ⟨(h.push { cls := .type "tuple", data := .seq rest.toArray }).push
      { cls := .ref C, data := .fields #[.ref h.objs.size, .none, .none, .none, .bool false, .none] }, g, d, t, os⟩) (hrest : rest.length ≤ sizeLine) :
    codeAny (model prog w) A (.builtin newId ⟨.ref C :: rest, kw⟩) R ⟨h, g, d, t, os⟩ := by
  have hends := F.ends
  have hcB : (Value.ref C :: bm).contains (.type B) = true := by rw [List.contains_cons, hT, F.hasB, Bool.or_true]
  have hcA : (Value.ref C :: bm).contains (.type "AttributeError") = false := by rw [List.contains_cons, hT, F.noAttr]; rfl
  have hcN : (Value.ref C :: bm).contains (.type "NameError") = false := by rw [List.contains_cons, hT, F.noName]; rfl
  refine codeAny_builtinAt F.entry ?_
  unfold Builtin.«BaseException.__new__»
  refine wpAt_bind ?_
  show wpAt _ _ _ (stack >>= _) _ _ _
  refine wpAt_bind (wpAt_stack fun p below => wpAt_of_wpAny ?_)
  wp_walk
  refine wpAt_of_wpAny ?_
  rw [F.owner]
  repeat (first | with_reducible refine wpAny_madeHere_exc F.canon hC ?_ | with_reducible refine wpAny_loadPart_at hC ?_ | (with_reducible refine wpAny_isSubtype_exc hC ?_; first | rw [hcB] | rw [hcA] | rw [hcN]) | wp_step)
  show R _ _
  rw [Heap.size_push]
  exact hq
theorem type_callK (F : ExcBaseFacts B newId initId bmB) (hT : ∀ X : String, bm.contains (.type X) = bmB.contains (.type X)) {rest : List Value} {kw : List (Str × Value)} {fI : Addr} {Q : Fin → Shared → Prop}
    (hC : h.get? C = some (excClassObj nm q C N bs bm hdct sn sub ab col dd k0 k1 k2 k3 k5 newId))
    (hi : W.Looks (model prog w) h (typeLookup (.ref C) "__init__") (some (.ref fI))) (hb : ∀ self, W.Looks (model prog w) h (bindSpecial (.ref fI) self) (.ref fI, [self])) (hrest : rest.length ≤ sizeLine)
    (hq : codeAny (model prog w) A (.call (.ref fI) ⟨.ref (h.objs.size + 1) :: rest, kw⟩)
      (fun r s' => match r with | .ok (.ret v) => v = .none ∧ Q (.done (.ret (.ref (h.objs.size + 1)))) s' | .ok _ => False | .error e => E e s')
      ⟨(h.push (W.kdv_tup rest)).push (excO C h.objs.size), g, d, t, os⟩) :
    wpAny (model prog w) A (Builtin.«type.__call__» ⟨.ref C :: rest, kw⟩) Q E ⟨h, g, d, t, os⟩ := by
  repeat (first | with_reducible refine wpAny_loadPart_at hC ?_ | with_reducible refine wpAny_madeBy_exc hC ?_ | wp_step)
  refine codeAny_call_builtin_code (Code.quiet_builtin _ F.quiet) (check_newK F hT hC ?_)
  refine newK F hT hC ?_ hrest
  show wpAny _ _ _ _ _ _
  have k : ∀ b o, h.get? b = some o → ((h.push (W.kdv_tup rest)).push (excO C h.objs.size)).get? b = some o := fun b o e => Heap.get?_push_of_some _ (Heap.get?_push_of_some _ e)
  have hC₁ := k _ _ hC
  have hget : ((h.push (W.kdv_tup rest)).push (excO C h.objs.size)).get? (h.objs.size + 1) = some (excO C h.objs.size) := by heap_get
  have hcC : (Value.ref C :: bm).contains (.ref C) = true := by simp
  have i1 := hi.keeps k
  have b1 := (hb (.ref (h.objs.size + 1))).keeps k
  unfold isInstance
  repeat (first | with_reducible refine wpAny_loadPart_at hget ?_ | (with_reducible refine wpAny_isSubtype_exc hC₁ ?_; rw [hcC]) | wp_step)
  show wpAny _ _ (typeLookup (.ref C) _) _ _ _
  refine i1.at ?_
  refine wpAny_holding (wpAny_bind (b1.at ?_))
  refine wpAny_bind (wpAny_call (codeAny_mono hq fun r s' z => ?_))
  rcases r with e | (v | _ | _ | _) <;> first | exact z | exact z.elim | skip
  obtain ⟨rfl, z⟩ := z
  first
    | exact wpAny_pure (wpAny_pure z)
    | (wp_walk; exact z)
theorem call_ownK (F : ExcBaseFacts B newId initId bmB) (hT : ∀ X : String, bm.contains (.type X) = bmB.contains (.type X)) {rest : List Value} {kw : List (Str × Value)} {fI : Addr}
    (hC : h.get? C = some (excClassObj nm q C N bs bm hdct sn sub ab col dd k0 k1 k2 k3 k5 newId))
    (hi : W.Looks (model prog w) h (typeLookup (.ref C) "__init__") (some (.ref fI))) (hb : ∀ self, W.Looks (model prog w) h (bindSpecial (.ref fI) self) (.ref fI, [self])) (hrest : rest.length ≤ sizeLine)
    (hq : codeAny (model prog w) (A.under (.builtin "type.__call__" ⟨.ref C :: rest, kw⟩)) (.call (.ref fI) ⟨.ref (h.objs.size + 1) :: rest, kw⟩) (W.InitBack (h.objs.size + 1) R)
      ⟨(h.push (W.kdv_tup rest)).push (excO C h.objs.size), g, d, t, os⟩) :
    codeAny (model prog w) A (.call (.ref C) ⟨rest, kw⟩) R ⟨h, g, d, t, os⟩ := by
  have f1 := tc_lookup
  have f2 := tc_bind (.ref C)
  have hTy : (⟨h, g, d, t, os⟩ : Shared).TypeIs (.ref C) "type" := ⟨_, hC, rfl⟩
  refine codeAny_of_tree ?_
  show wpAny _ _ (callAny (.ref C) _) _ _ _
  repeat (any_goals (first | assumption | with_reducible refine wpAny_loadPart_at hC ?_ | wp_step))
  refine ⟨rfl, ?_⟩
  refine codeAny_call_builtin_at (Code.quiet_builtin _ (by decide +kernel)) entry_typeCall (check_tcK hC (type_callK F hT hC hi hb hrest ?_))
  refine codeAny_mono hq fun r s' z => ?_
  rcases r with e | (v | _ | _ | _) <;> exact z
end
end TX
namespace TX
open PySem PySem.W PySem.Calls PyProof.Rows PySem.Spec
/-- the class at C, called, makes an error that keeps fl of the parameters ps -/
def ExMk (prog : Program) (K : Frag) (mg : Str → Option Value) (base : Heap) (C : Addr) (ps : List Str) (fl : List (Str × Src)) : Prop :=
  ∀ (w : World) (A : Around) (E Q : Value → Shared → Prop) (h : Heap) (g : Array GenState) (d : Drawn) (t : Nat) (os : OsState) (vs : List L2.V) (us rest : List Value) (kw : List (Str × Value)),
    K.In h → L2.Mod K mg base → (∀ b o, base.get? b = some o → h.get? b = some o) → A.depth + 1 < recursionLimit → L2.Vals vs us → us.length = ps.length → ((kw = [] ∧ rest = us) ∨ ∃ y v, ps = [y] ∧ rest = [] ∧ kw = [(y, v)] ∧ us = [v]) →
    (∀ h' tk' a dx tt' mA, (∀ b o, h.get? b = some o → h'.get? b = some o) → h.get? a = none → h'.get? a = some (excObj C tt' (some dx) .none) → h'.Ns1 dx mA → h.get? dx = none → dx ≠ a → (∀ g, L2.RelO ((putF (fun y => (ps.zip vs).lookup y) fl []).lookup g) (mA g)) → Q (.ref a) ⟨h', g, d, tk', os⟩) →
    wpAny (model prog w) A (call (.ref C) rest kw) Q E ⟨h, g, d, t, os⟩
section
variable {prog : Program} {K : Frag} {C fI : Addr} {B newId i : String} {bmB : List Value} {mg : Str → Option Value}
variable {name qual : Str} {as : List Arg} {scope : Scope} {kV doc pm ct : Value} {an : Option Addr} {cda cc : Addr} {self : Str}
theorem bind_ksK {x qual : Str} {body : List Stmt} {scope : Scope} {kV doc pm cdv ct : Value} {an : Option Addr} {as : List Arg} {cc : Addr} {p z : Str} (hps : as.map (·.arg) = [p, z]) (hn : z ≠ p) (u w : Value) :
    bindArgs (ksFn x qual ⟨[], as, none, [], [], none, []⟩ body scope .none kV doc pm an cdv ct cc) ⟨[u], [(z, w)]⟩ = pure [(p, u), (z, w)] :=
  (show bindArgs (ksFn x qual ⟨[], as, none, [], [], none, []⟩ body scope .none kV doc pm an cdv ct cc) ⟨[u], [(z, w)]⟩ = bindArgs (PySem.W.fnOf x qual (TI.plainArgs as) body scope .none kV doc pm an cdv ct) ⟨[u], [(z, w)]⟩ from rfl).trans (TI.bind_kw2 hps hn u w)
theorem exMk {ps : List Str} {p0 p1 p2 p3 p4 p5 : Pos} {z : Str} {j : Nat} {sts : List Stmt} {fl : List (Str × Src)} {base : Heap}
    (T : ExC K C fI B newId i bmB) (D : InitT prog K C fI name qual as (.Expr (.Call (.Attribute (.Call (.Name "super" p0) [] [] p1) "__init__" p2) [.Constant (.str z) j p3] [] p4) p5 :: sts) scope kV doc pm an cda cc ct)
    (hco : scope.isCoroutine = false) (hgen : scope.isGenerator = false) (hcell : ∀ x ∈ scope.names, x.2 ≠ .cell) (has : as.map (·.arg) = self :: ps) (nd : (self :: ps).Nodup) (hloc : ∀ y ∈ self :: ps, scope.names.lookup y = some .local ∧ (y == ("__debug__" : Str)) = false) (hsC : self ≠ "super")
    (hline : (p2.endLine == p4.line) = true) (hst : stsOf self sts = some fl) (hfl : ∀ p ∈ fl, findIn K (.ref C) p.1 = some none ∧ match p.2 with
      | .str _ => True
      | .par y => y ∈ ps) (hz : fl.length ≤ 900) (hne : fl ≠ []) (hpz : ps.length ≤ 900) (hsup : mg "super" = none) : ExMk prog K mg base C ps fl := by
  intro w A E Q h g d t os vs us rest kw X M hb hroom r hl hk hq
  have hsz : rest.length ≤ sizeLine := by
    rw [sizeLine_eq]
    rcases hk with ⟨_, rfl⟩ | ⟨y, v, _, rfl, _⟩
    · omega
    · exact Nat.zero_le _
  obtain ⟨nm, N', qn, bs, bm, hdct, sn, sub, ab, col, dd, k0, k1, k2, k3, k5, hC, hT⟩ := excInit_of X T.cls
  obtain ⟨oI, hoI, hcI⟩ : ∃ oI, h.get? fI = some oI ∧ oI.cls = .type "function" := by
    obtain ⟨o, ho, hc⟩ := Option.map_eq_some_iff.mp (show (K.lookup fI).map (·.cls) = some (.type "function") from beq_iff_eq.mp T.fn)
    exact ⟨o, X _ _ ho, hc⟩
  have kk : ∀ b o, h.get? b = some o → ((h.push (PySem.W.kdv_tup rest)).push (PySem.HandSPX.excO C h.objs.size)).get? b = some o := fun b o q => Heap.get?_push_of_some _ (Heap.get?_push_of_some _ q)
  have hget : ((h.push (PySem.W.kdv_tup rest)).push (PySem.HandSPX.excO C h.objs.size)).get? (h.objs.size + 1) = some (PySem.HandSPX.excO C h.objs.size) := by heap_get
  have nb : ∀ {b : Addr} {o : Obj}, h.get? b = some o → b ≠ h.objs.size + 1 := fun {b o} q => Nat.ne_of_lt (Nat.lt_succ_of_lt (Heap.lt_size q))
  refine wpAny_call (call_ownK T.base.ex hT hC (looks_findIn X T.init) (fun self => exc_bind hoI hcI self) hsz ?_)
  have hd : (A.under (.builtin "type.__call__" ⟨.ref C :: rest, kw⟩)).depth < recursionLimit := by rw [L2.make_depth]; exact hroom
  refine init1 (h := (h.push (PySem.W.kdv_tup rest)).push (PySem.HandSPX.excO C h.objs.size)) (e := h.objs.size + 1) (tt := h.objs.size) T D hco hgen hcell has nd hloc hsC hline hst hfl hz hne (X.keeps kk) M (fun b o q => kk b o (hb b o q)) hsup hget (fun b o q => nb (X _ _ q)) hd r (.of_eq ?_) hl fun h' tk' dx tt' mA k1 k2 k3 k4 k5 k6 => ⟨rfl, ?_⟩
  · rcases hk with ⟨rfl, rfl⟩ | ⟨y, v, rfl, rfl, rfl, rfl⟩
    · have := bind_ks (x := name) (qual := qual) (body := (.Expr (.Call (.Attribute (.Call (.Name "super" p0) [] [] p1) "__init__" p2) [.Constant (.str z) j p3] [] p4) p5 :: sts)) (scope := scope) (kV := kV) (doc := doc) (pm := pm) (cdv := .ref cda) (ct := ct) (an := an) (as := as) (cc := cc) (by rw [has]; exact nd) (.ref (h.objs.size + 1) :: rest) (by rw [has, List.length_cons, List.length_cons, hl])
      rw [has] at this
      exact this
    · exact bind_ksK has (fun z => (List.nodup_cons.mp nd).1 (by rw [z]; exact List.mem_cons_self)) _ _
  · have no : ∀ {b : Addr}, ((h.push (PySem.W.kdv_tup rest)).push (PySem.HandSPX.excO C h.objs.size)).get? b = none → h.get? b = none := fun {b} q => by
      cases z : h.get? b with
      | none => rfl
      | some o => rw [kk _ _ z] at q; cases q
    refine hq h' tk' _ dx tt' mA (fun b o q => k1 b o (nb q) (kk b o q)) ?_ k2 k3 (no k4) k5 k6
    cases z : h.get? (h.objs.size + 1) with
    | none => rfl
    | some o => exact absurd rfl (nb z)
end
end TX

set_option Elab.async false
set_option linter.all false
set_option maxRecDepth 100000
/-! the relation between trees and the heap along an expression -/
namespace TI
open PySem PySem.Spec PyProof.Rows L2

/-- all but the bag stands -/
def ExB (β : Addr) (H H' : Hp) : Prop := ∀ a o, a ≠ β → H a = some o → H' a = some o
theorem ExB.refl {β : Addr} (H : Hp) : ExB β H H := fun _ _ _ h => h
theorem ExB.trans {β : Addr} {H H1 H2 : Hp} (a : ExB β H H1) (b : ExB β H1 H2) : ExB β H H2 := fun x o n h => b x o n (a x o n h)
theorem ExB.new {β : Addr} {H : Hp} {p : Addr} {o : HO} (h : H p = none) : ExB β H (upd H p o) := fun a u _ e => by
  rw [upd_ne (ne_of_none e h)]
  exact e
/-- the bag in the heap -/
def BagOk (tx : Tx) (b : Bag) (H : Hp) : Prop := H tx.β = some (.lst [.ref tx.ι, .int b.place, .int b.rest, .int b.seed, .int b.cnt]) ∧ tx.ι ≠ tx.β ∧ H tx.ι = some (.lst (b.cells.map V.int))
theorem BagOk.mono {tx : Tx} {b : Bag} {H H' : Hp} (h : BagOk tx b H) (e : ExB tx.β H H') (hb : H' tx.β = H tx.β) : BagOk tx b H' := by
  obtain ⟨h1, h2, h3⟩ := h
  exact ⟨hb.trans h1, h2, e _ _ h2 h3⟩
theorem BagOk.live {tx : Tx} {b : Bag} {H : Hp} (h : BagOk tx b H) : H tx.β ≠ none := by
  obtain ⟨h1, _⟩ := h
  rw [h1]
  intro z
  cases z
theorem BagOk.liveι {tx : Tx} {b : Bag} {H : Hp} (h : BagOk tx b H) : H tx.ι ≠ none := by
  obtain ⟨_, _, h1⟩ := h
  rw [h1]
  intro z
  cases z
theorem BagOk.new {tx : Tx} {b : Bag} {H : Hp} {p : Addr} {o : HO} (h : BagOk tx b H) (hp : H p = none) : BagOk tx b (upd H p o) := by
  refine h.mono (ExB.new hp) (upd_ne ?_)
  intro z
  exact h.live (z ▸ hp)
/-- another object changed -/
theorem BagOk.upd {tx : Tx} {b : Bag} {H : Hp} {p : Addr} {o : HO} (h : BagOk tx b H) (h1 : p ≠ tx.β) (h2 : p ≠ tx.ι) : BagOk tx b (L2.upd H p o) := by
  obtain ⟨k1, k2, k3⟩ := h
  exact ⟨by rw [upd_ne (Ne.symm h1)]; exact k1, k2, by rw [upd_ne (Ne.symm h2)]; exact k3⟩

section
variable {tx : Tx}
mutual
theorem Rep.live {H B G : Hp} : ∀ {d : D} {v : V} {F : List Addr}, Rep tx H B G d v F → ∀ a ∈ F, H a ≠ none
  | .non, _, _, ⟨_, h⟩, a, ha => by subst h; cases ha
  | .bl _, _, _, ⟨_, h⟩, a, ha => by subst h; cases ha
  | .int _, _, _, ⟨_, h⟩, a, ha => by subst h; cases ha
  | .str _, _, _, ⟨_, h⟩, a, ha => by subst h; cases ha
  | .bag, _, _, ⟨_, h⟩, a, ha => by subst h; cases ha
  | .lst f xs, v, F, h, b, hb => by
    obtain ⟨a, vs, F', rfl, h1, h2, rfl⟩ := h
    rcases List.mem_append.mp hb with hb | hb
    · cases f with
      | own =>
        have e : b = a := by simpa [ft] using hb
        have h1 : H a = some (.lst vs) := h1
        rw [e, h1]; intro z; cases z
      | sh => simp [ft] at hb
      | brw => simp [ft] at hb
    · exact Reps.live h2 b hb
  | .tup f xs, v, F, h, b, hb => by
    obtain ⟨a, vs, F', rfl, h1, h2, rfl⟩ := h
    rcases List.mem_append.mp hb with hb | hb
    · cases f with
      | own =>
        have e : b = a := by simpa [ft] using hb
        have h1 : H a = some (.tup vs) := h1
        rw [e, h1]; intro z; cases z
      | sh => simp [ft] at hb
      | brw => simp [ft] at hb
    · exact Reps.live h2 b hb
  | .ins f c ns xs, v, F, h, b, hb => by
    obtain ⟨a, dx, vs, F', rfl, h1, hl, h2, rfl⟩ := h
    rcases List.mem_append.mp hb with hb | hb
    · cases f with
      | own =>
        have e : b = a := by simpa [ft] using hb
        have h1 : H a = some (.ins (tx.ca c) dx (ns.zip vs)) := h1
        rw [e, h1]; intro z; cases z
      | sh => simp [ft] at hb
      | brw => simp [ft] at hb
    · exact Reps.live h2 b hb
  | .exc f c ns xs, v, F, h, b, hb => by
    obtain ⟨a, dx, vs, F', rfl, h1, hl, h2, rfl⟩ := h
    rcases List.mem_append.mp hb with hb | hb
    · cases f with
      | own => exact h1.elim
      | sh => simp [ft] at hb
      | brw => simp [ft] at hb
    · exact Reps.live h2 b hb
theorem Reps.live {H B G : Hp} : ∀ {ds : List D} {vs : List V} {F : List Addr}, Reps tx H B G ds vs F → ∀ a ∈ F, H a ≠ none
  | [], _, _, ⟨_, h⟩, a, ha => by subst h; cases ha
  | d :: ds, vs, F, h, a, ha => by
    obtain ⟨v, vs', F1, F2, rfl, h1, h2, rfl⟩ := h
    rcases List.mem_append.mp ha with ha | ha
    · exact Rep.live h1 a ha
    · exact Reps.live h2 a ha
end
theorem Reps.length {H B G : Hp} : ∀ {ds : List D} {vs : List V} {F : List Addr}, Reps tx H B G ds vs F → ds.length = vs.length
  | [], _, _, ⟨h, _⟩ => by subst h; rfl
  | d :: ds, vs, F, h => by
    obtain ⟨v, vs', F1, F2, rfl, h1, h2, rfl⟩ := h
    simp [Reps.length h2]
theorem Reps.append {H B G : Hp} : ∀ {ds es : List D} {vs ws : List V} {F F' : List Addr}, Reps tx H B G ds vs F → Reps tx H B G es ws F' → Reps tx H B G (ds ++ es) (vs ++ ws) (F ++ F')
  | [], _, _, _, _, _, ⟨h, h'⟩, r => by subst h; subst h'; exact r
  | d :: ds, es, vs, ws, F, F', h, r => by
    obtain ⟨v, vs', F1, F2, rfl, h1, h2, rfl⟩ := h
    exact ⟨v, vs' ++ ws, F1, F2 ++ F', rfl, h1, Reps.append h2 r, by rw [List.append_assoc]⟩
theorem Reps.split {H B G : Hp} : ∀ {ds es : List D} {us : List V} {F : List Addr}, Reps tx H B G (ds ++ es) us F → ∃ vs ws F1 F2, us = vs ++ ws ∧ F = F1 ++ F2 ∧ Reps tx H B G ds vs F1 ∧ Reps tx H B G es ws F2
  | [], es, us, F, h => ⟨[], us, [], F, rfl, rfl, ⟨rfl, rfl⟩, h⟩
  | d :: ds, es, us, F, h => by
    obtain ⟨v, vs', F1, F2, rfl, h1, h2, rfl⟩ := h
    obtain ⟨vs, ws, F3, F4, rfl, rfl, h3, h4⟩ := Reps.split h2
    exact ⟨v :: vs, ws, F1 ++ F3, F4, rfl, by rw [List.append_assoc], ⟨v, vs, F1, F3, rfl, h1, h3, rfl⟩, h4⟩
theorem Reps.one {H B G : Hp} {d : D} {v : V} {F : List Addr} (h : Rep tx H B G d v F) : Reps tx H B G [d] [v] F := ⟨v, [], F, [], rfl, h, ⟨rfl, rfl⟩, by rw [List.append_nil]⟩
theorem Reps.get {H B G : Hp} : ∀ {ds : List D} {vs : List V} {F : List Addr} {i : Nat} {d : D}, Reps tx H B G ds vs F → ds[i]? = some d → ∃ v F', vs[i]? = some v ∧ Rep tx H B G d v F' ∧ F'.Sublist F
  | [], _, _, i, _, _, e => by simp at e
  | d :: ds, vs, F, 0, x, h, e => by
    obtain ⟨v, vs', F1, F2, rfl, h1, h2, rfl⟩ := h
    simp at e; subst e
    exact ⟨v, F1, rfl, h1, List.sublist_append_left _ _⟩
  | d :: ds, vs, F, i + 1, x, h, e => by
    obtain ⟨v, vs', F1, F2, rfl, h1, h2, rfl⟩ := h
    obtain ⟨w, F', e', r, s⟩ := Reps.get (i := i) h2 (by simpa using e)
    exact ⟨w, F', by simpa using e', r, s.trans (List.sublist_append_right _ _)⟩
/-- the flags turned where nothing is own any more -/
theorem ftg_none {g : Fl → Fl} (h : g .own ≠ .own) (F : List Addr) : ftg g F = [] := by
  unfold ftg
  rw [if_neg h]
theorem ftg_all {g : Fl → Fl} (h : g .own = .own) (F : List Addr) : ftg g F = F := by
  unfold ftg
  rw [if_pos h]

/-! ### names -/
/-- the names' values -/
def EnvR (tx : Tx) (H B G : Hp) : Env → L2.St → List Addr → Prop
  | [], σ, F => σ = [] ∧ F = []
  | none :: env, σ, F => ∃ s σ', σ = s :: σ' ∧ EnvR tx H B G env σ' F
  | some d :: env, σ, F => ∃ v σ' F1 F2, σ = some v :: σ' ∧ Rep tx H B G d v F1 ∧ EnvR tx H B G env σ' F2 ∧ F = F1 ++ F2
theorem EnvR.mono {H B G H' B' G' : Hp} (e2 : Ex B B') (e3 : Ex G G') : ∀ {env : Env} {σ : L2.St} {F : List Addr}, EnvR tx H B G env σ F → (∀ a ∈ F, ∀ o, H a = some o → H' a = some o) → EnvR tx H' B' G' env σ F
  | [], _, _, h, _ => h
  | none :: env, σ, F, h, e1 => by
    obtain ⟨s, σ', rfl, h⟩ := h
    exact ⟨s, σ', rfl, EnvR.mono e2 e3 h e1⟩
  | some d :: env, σ, F, h, e1 => by
    obtain ⟨v, σ', F1, F2, rfl, h1, h2, rfl⟩ := h
    exact ⟨v, σ', F1, F2, rfl, h1.mono e2 e3 (fun a ha => e1 a (List.mem_append_left _ ha)), EnvR.mono e2 e3 h2 (fun a ha => e1 a (List.mem_append_right _ ha)), rfl⟩
theorem EnvR.live {H B G : Hp} : ∀ {env : Env} {σ : L2.St} {F : List Addr}, EnvR tx H B G env σ F → ∀ a ∈ F, H a ≠ none
  | [], _, _, ⟨_, h⟩, a, ha => by subst h; cases ha
  | none :: env, σ, F, h, a, ha => by
    obtain ⟨s, σ', rfl, h⟩ := h
    exact EnvR.live h a ha
  | some d :: env, σ, F, h, a, ha => by
    obtain ⟨v, σ', F1, F2, rfl, h1, h2, rfl⟩ := h
    rcases List.mem_append.mp ha with ha | ha
    · exact h1.live a ha
    · exact EnvR.live h2 a ha
theorem EnvR.get {H B G : Hp} : ∀ {env : Env} {σ : L2.St} {F : List Addr} {i : Nat} {d : D}, EnvR tx H B G env σ F → env[i]? = some (some d) → ∃ v F1, σ[i]? = some (some v) ∧ Rep tx H B G d v F1 ∧ F1.Sublist F
  | [], _, _, i, _, _, e => by simp at e
  | none :: env, σ, F, 0, d, h, e => by simp at e
  | none :: env, σ, F, i + 1, d, h, e => by
    obtain ⟨s, σ', rfl, h⟩ := h
    obtain ⟨v, F1, h1, h2, h3⟩ := EnvR.get (i := i) h (by simpa using e)
    exact ⟨v, F1, by simpa using h1, h2, h3⟩
  | some x :: env, σ, F, 0, d, h, e => by
    obtain ⟨v, σ', F1, F2, rfl, h1, h2, rfl⟩ := h
    simp at e; subst e
    exact ⟨v, F1, rfl, h1, List.sublist_append_left _ _⟩
  | some x :: env, σ, F, i + 1, d, h, e => by
    obtain ⟨v, σ', F1, F2, rfl, h1, h2, rfl⟩ := h
    obtain ⟨w, F3, h3, h4, h5⟩ := EnvR.get (i := i) h2 (by simpa using e)
    exact ⟨w, F3, by simpa using h3, h4, h5.trans (List.sublist_append_right _ _)⟩
theorem EnvR.length {H B G : Hp} : ∀ {env : Env} {σ : L2.St} {F : List Addr}, EnvR tx H B G env σ F → env.length = σ.length
  | [], _, _, ⟨h, _⟩ => by subst h; rfl
  | none :: env, σ, F, h => by
    obtain ⟨s, σ', rfl, h⟩ := h
    simp [EnvR.length h]
  | some d :: env, σ, F, h => by
    obtain ⟨v, σ', F1, F2, rfl, h1, h2, rfl⟩ := h
    simp [EnvR.length h2]
/-- a name is set; what it had is no more ours; its new part may be anything apart -/
theorem EnvR.set {H B G : Hp} {d : D} {v : V} {F' : List Addr} (r : Rep tx H B G d v F') : ∀ {env : Env} {σ : L2.St} {F : List Addr} (i : Nat), EnvR tx H B G env σ F → i < env.length →
    ∃ Fa Fb Fc, F = Fa ++ Fb ++ Fc ∧ EnvR tx H B G (env.set i (some d)) (σ.set i (some v)) (Fa ++ F' ++ Fc)
  | [], _, _, i, _, hi => by simp at hi
  | none :: env, σ, F, 0, h, _ => by
    obtain ⟨s, σ', rfl, h⟩ := h
    exact ⟨[], [], F, by simp, v, σ', F', F, rfl, r, h, by simp⟩
  | none :: env, σ, F, i + 1, h, hi => by
    obtain ⟨s, σ', rfl, h⟩ := h
    obtain ⟨Fa, Fb, Fc, e, q⟩ := EnvR.set r i h (by simpa using hi)
    exact ⟨Fa, Fb, Fc, e, s, σ'.set i (some v), rfl, q⟩
  | some x :: env, σ, F, 0, h, _ => by
    obtain ⟨w, σ', F1, F2, rfl, h1, h2, rfl⟩ := h
    exact ⟨[], F1, F2, by simp, v, σ', F', F2, rfl, r, h2, by simp⟩
  | some x :: env, σ, F, i + 1, h, hi => by
    obtain ⟨w, σ', F1, F2, rfl, h1, h2, rfl⟩ := h
    obtain ⟨Fa, Fb, Fc, e, q⟩ := EnvR.set r i h2 (by simpa using hi)
    exact ⟨F1 ++ Fa, Fb, Fc, by rw [e]; simp [List.append_assoc], w, σ'.set i (some v), F1, Fa ++ F' ++ Fc, rfl, h1, q, by simp [List.append_assoc]⟩
/-- a name forgotten -/
theorem EnvR.unset {H B G : Hp} : ∀ {env : Env} {σ : L2.St} {F : List Addr} (i : Nat), EnvR tx H B G env σ F → ∃ F', F'.Sublist F ∧ EnvR tx H B G (env.set i none) (σ.set i none) F'
  | [], σ, F, i, h => by
    obtain ⟨rfl, rfl⟩ := h
    exact ⟨[], List.Sublist.refl _, rfl, rfl⟩
  | none :: env, σ, F, 0, h => by
    obtain ⟨s, σ', rfl, h⟩ := h
    exact ⟨F, List.Sublist.refl _, none, σ', rfl, h⟩
  | none :: env, σ, F, i + 1, h => by
    obtain ⟨s, σ', rfl, h⟩ := h
    obtain ⟨F', e, q⟩ := EnvR.unset i h
    exact ⟨F', e, s, σ'.set i none, rfl, q⟩
  | some x :: env, σ, F, 0, h => by
    obtain ⟨w, σ', F1, F2, rfl, h1, h2, rfl⟩ := h
    exact ⟨F2, List.sublist_append_right _ _, none, σ', rfl, h2⟩
  | some x :: env, σ, F, i + 1, h => by
    obtain ⟨w, σ', F1, F2, rfl, h1, h2, rfl⟩ := h
    obtain ⟨F', e, q⟩ := EnvR.unset i h2
    exact ⟨F1 ++ F', e.append_left F1, w, σ'.set i none, F1, F', rfl, h1, q, rfl⟩
theorem EnvR.wipe {H B G : Hp} {env : Env} {σ : L2.St} {F : List Addr} (h : EnvR tx H B G env σ F) : ∀ vs : List Nat, ∃ F', F'.Sublist F ∧ EnvR tx H B G (wipeE env vs) (L2.wipe σ vs) F'
  | [] => ⟨F, List.Sublist.refl _, h⟩
  | v :: vs => by
    obtain ⟨F1, s1, h1⟩ := EnvR.wipe h vs
    obtain ⟨F2, s2, h2⟩ := h1.unset v
    exact ⟨F2, s2.trans s1, h2⟩
/-- some names alone -/
theorem EnvR.only {H B G : Hp} (S : List Nat) : ∀ {env : Env} {σ : L2.St} {F : List Addr} (i : Nat), EnvR tx H B G env σ F → ∃ F1 F2, (F1 ++ F2).Perm F ∧ EnvR tx H B G (only S i env) σ F1
  | [], σ, F, i, h => by
    obtain ⟨rfl, rfl⟩ := h
    exact ⟨[], [], List.Perm.refl _, rfl, rfl⟩
  | none :: env, σ, F, i, h => by
    obtain ⟨s, σ', rfl, h⟩ := h
    obtain ⟨F1, F2, p, q⟩ := EnvR.only S (i + 1) h
    refine ⟨F1, F2, p, ?_⟩
    unfold TI.only
    split
    · exact ⟨s, σ', rfl, q⟩
    · exact ⟨s, σ', rfl, q⟩
  | some d :: env, σ, F, i, h => by
    obtain ⟨v, σ', Fd, Fr, rfl, h1, h2, rfl⟩ := h
    obtain ⟨F1, F2, p, q⟩ := EnvR.only S (i + 1) h2
    unfold TI.only
    by_cases hi : i ∈ S
    · rw [if_pos hi]
      exact ⟨Fd ++ F1, F2, by rw [List.append_assoc]; exact p.append_left Fd, v, σ', Fd, F1, rfl, h1, q, rfl⟩
    · rw [if_neg hi]
      refine ⟨F1, Fd ++ F2, ?_, some v, σ', rfl, q⟩
      refine List.Perm.trans ?_ (p.append_left Fd)
      rw [← List.append_assoc, ← List.append_assoc]
      exact List.Perm.append_right F2 List.perm_append_comm
end

/-! ### the state ahead of an expression, and behind it -/
/-- P: what nobody may borrow; O: what is not shared -/
structure Pre (tx : Tx) (P O : List Addr) (σ : L2.St) (env : Env) (b : Bag) (H : Hp) : Prop where
  sub : ∀ a ∈ P, a ∈ O
  bag : tx.β ∈ P
  live : ∀ a ∈ O, H a ≠ none
  env : ∃ F, EnvR tx H (off P H) (off O H) env σ F ∧ ∀ a ∈ F, a ∈ O ∧ a ∉ P
  ok : BagOk tx b H
/-- values held, behind H -/
structure Held (tx : Tx) (P O : List Addr) (H : Hp) (ds : List D) (b : Bag) (us : List V) (H' : Hp) (F : List Addr) : Prop where
  fresh : ∀ a ∈ F, H a = none
  nd : F.Nodup
  ex : ExB tx.β H H'
  rep : Reps tx H' (off (P ++ F) H') (off (O ++ F) H') ds us F
  ok : BagOk tx b H'
section
variable {tx : Tx} {P O : List Addr} {σ : L2.St} {env : Env} {b b' : Bag} {H H1 H2 : Hp}
theorem Pre.bagO (p : Pre tx P O σ env b H) : tx.β ∈ O := p.sub _ p.bag
theorem Pre.neβ (p : Pre tx P O σ env b H) {a : Addr} (h : H a = none) : a ≠ tx.β := fun z => p.live _ p.bagO (z ▸ h)
/-- what is off O grows along -/
theorem off_step {O F : List Addr} {β : Addr} (hβ : β ∈ O) (ex : ExB β H H1) (fresh : ∀ a ∈ F, H a = none) : Ex (off O H) (off (O ++ F) H1) := by
  refine off_ex (fun a ha hn => ?_) (fun a o hn ho => ex a o (fun z => hn (z ▸ hβ)) ho)
  rcases List.mem_append.mp ha with h | h
  · exact h
  · exact absurd (fresh a h) hn
theorem Pre.step (p : Pre tx P O σ env b H) {F : List Addr} (fresh : ∀ a ∈ F, H a = none) (ex : ExB tx.β H H1) (liv : ∀ a ∈ F, H1 a ≠ none) (ok : BagOk tx b' H1) : Pre tx (P ++ F) (O ++ F) σ env b' H1 := by
  obtain ⟨Fe, he, hF⟩ := p.env
  refine ⟨fun a ha => ?_, List.mem_append_left _ p.bag, fun a ha => ?_, ⟨Fe, he.mono (off_step p.bag ex fresh) (off_step p.bagO ex fresh) (fun a ha o ho => ex a o (fun z => (hF a ha).2 (z ▸ p.bag)) ho), fun a ha => ⟨List.mem_append_left _ (hF a ha).1, fun z => ?_⟩⟩, ok⟩
  · rcases List.mem_append.mp ha with h | h
    · exact List.mem_append_left _ (p.sub a h)
    · exact List.mem_append_right _ h
  · rcases List.mem_append.mp ha with h | h
    · cases e : H a with
      | none => exact absurd e (p.live a h)
      | some o =>
        by_cases hb : a = tx.β
        · rw [hb]; exact ok.live
        · rw [ex a o hb e]; intro z; cases z
    · exact liv a h
  · rcases List.mem_append.mp z with h | h
    · exact (hF a ha).2 h
    · exact p.live a (hF a ha).1 (fresh a h)
theorem Pre.held (p : Pre tx P O σ env b H) {ds : List D} {us : List V} {F : List Addr} (h : Held tx P O H ds b' us H1 F) : Pre tx (P ++ F) (O ++ F) σ env b' H1 := p.step h.fresh h.ex (Reps.live h.rep) h.ok
theorem Held.nil (p : Pre tx P O σ env b H) : Held tx P O H [] b [] H [] := ⟨fun a z => (by cases z), List.nodup_nil, ExB.refl _, ⟨rfl, rfl⟩, p.ok⟩
/-- .. and further values behind them -/
theorem Held.app (p : Pre tx P O σ env b H) {b2 : Bag} {ds es : List D} {us ws : List V} {F F' : List Addr} (h : Held tx P O H ds b' us H1 F) (h' : Held tx (P ++ F) (O ++ F) H1 es b2 ws H2 F') : Held tx P O H (ds ++ es) b2 (us ++ ws) H2 (F ++ F') := by
  have fr : ∀ a ∈ F', H a = none := fun a ha => by
    have q := h'.fresh a ha
    cases e : H a with
    | none => rfl
    | some o =>
      by_cases hb : a = tx.β
      · rw [hb] at q; exact absurd q h.ok.live
      · rw [h.ex a o hb e] at q; cases q
  refine ⟨fun a ha => ?_, ?_, h.ex.trans h'.ex, ?_, h'.ok⟩
  · rcases List.mem_append.mp ha with z | z
    · exact h.fresh a z
    · exact fr a z
  · refine List.nodup_append.mpr ⟨h.nd, h'.nd, fun a ha c hc z => ?_⟩
    subst z
    exact Reps.live h.rep a ha (h'.fresh a hc)
  · have r2 := h'.rep
    rw [List.append_assoc, List.append_assoc] at r2
    refine Reps.append (h.rep.mono ?_ ?_ ?_) r2
    · rw [← List.append_assoc]
      exact off_step (List.mem_append_left _ p.bag) h'.ex h'.fresh
    · rw [← List.append_assoc]
      exact off_step (List.mem_append_left _ p.bagO) h'.ex h'.fresh
    · intro a ha o ho
      exact h'.ex a o (p.neβ (h.fresh a ha)) ho
/-- less is held -/
theorem Held.less {ds es : List D} {us ws : List V} {F F' : List Addr} (h : Held tx P O H ds b us H1 F) (s : F'.Sublist F) (r : Reps tx H1 (off (P ++ F) H1) (off (O ++ F) H1) es ws F') : Held tx P O H es b ws H1 F' := by
  refine ⟨fun a ha => h.fresh a (s.subset ha), h.nd.sublist s, h.ex, r.mono ?_ ?_ (fun _ _ _ z => z), h.ok⟩
  · refine off_ex (fun a ha _ => ?_) (fun _ _ _ z => z)
    rcases List.mem_append.mp ha with z | z
    · exact List.mem_append_left _ z
    · exact List.mem_append_right _ (s.subset z)
  · refine off_ex (fun a ha _ => ?_) (fun _ _ _ z => z)
    rcases List.mem_append.mp ha with z | z
    · exact List.mem_append_left _ z
    · exact List.mem_append_right _ (s.subset z)
/-- a new object at p over some of what is held -/
theorem Held.laid (p : Pre tx P O σ env b' H) {ds es : List D} {us ws : List V} {F F' : List Addr} {q : Addr} {o : HO} {d : D} (h : Held tx P O H ds b us H1 F) (s : F'.Sublist F) (r : Reps tx H1 (off (P ++ F) H1) (off (O ++ F) H1) es ws F') (hq : H1 q = none)
    (mk : ∀ (H2 B G : Hp), H2 q = some o → Reps tx H2 B G es ws F' → Rep tx H2 B G d (.ref q) (q :: F')) : Held tx P O H [d] b [.ref q] (upd H1 q o) (q :: F') := by
  have h0 := h.less s r
  have hq0 : H q = none := by
    cases e : H q with
    | none => rfl
    | some u =>
      by_cases hb : q = tx.β
      · rw [hb] at hq; exact absurd hq h.ok.live
      · rw [h.ex q u hb e] at hq; cases hq
  have nq : q ∉ F' := fun z => Reps.live h0.rep q z hq
  refine ⟨fun a ha => ?_, List.nodup_cons.mpr ⟨nq, h0.nd⟩, h.ex.trans (ExB.new hq), ?_, h.ok.new hq⟩
  · rcases List.mem_cons.mp ha with e | ha
    · rw [e]; exact hq0
    · exact h0.fresh a ha
  · refine Reps.one (mk _ _ _ upd_same (h0.rep.mono ?_ ?_ ?_))
    · refine off_ex (fun a ha hn => ?_) (fun a u hn z => by rw [upd_ne (ne_of_none z hq)]; exact z)
      rcases List.mem_append.mp ha with z | z
      · exact List.mem_append_left _ z
      · rcases List.mem_cons.mp z with e | z
        · subst e; exact absurd hq hn
        · exact List.mem_append_right _ z
    · refine off_ex (fun a ha hn => ?_) (fun a u hn z => by rw [upd_ne (ne_of_none z hq)]; exact z)
      rcases List.mem_append.mp ha with z | z
      · exact List.mem_append_left _ z
      · rcases List.mem_cons.mp z with e | z
        · subst e; exact absurd hq hn
        · exact List.mem_append_right _ z
    · intro a ha u z
      rw [upd_ne (ne_of_none z hq)]
      exact z
end

/-! ### readings -/
/-- the value of v -/
def tEv (tx : Tx) (v : Env → M D) : TE := fun σ H Q => ∃ P O env b d b', Pre tx P O σ env b H ∧ v env b = some (d, b') ∧ ∀ u H' F, Held tx P O H [d] b' [u] H' F → Q u H'
def tEt (tx : Tx) (v : Env → M Bool) : TT := fun σ H Q => ∃ P O env b d b', Pre tx P O σ env b H ∧ v env b = some (d, b') ∧ ∀ H', Held tx P O H [] b' [] H' [] → Q d H'
def tEa (tx : Tx) (v : Env → M (List D)) : TA := fun σ H Q => ∃ P O env b ds b', Pre tx P O σ env b H ∧ v env b = some (ds, b') ∧ ∀ us H' F, Held tx P O H ds b' us H' F → Q us H'
def tEp (tx : Tx) (v : Env → M (Option Int)) : TO := fun σ H Q => ∃ P O env b d b', Pre tx P O σ env b H ∧ v env b = some (d, b') ∧ ∀ H', Held tx P O H [] b' [] H' [] → Q d H'
theorem PE.imp {X : Cx} {e : Expr} {t t' : TE} (h : PE X e t) (i : ∀ σ H Q, t' σ H Q → t σ H Q) : PE X e t' := ⟨fun pins s σ H Q I q => h.run pins s σ H Q I (i σ H Q q)⟩
theorem PT.imp {X : Cx} {e : Expr} {t t' : TT} (h : PT X e t) (i : ∀ σ H Q, t' σ H Q → t σ H Q) : PT X e t' := ⟨fun pins s σ H Q I q => h.run pins s σ H Q I (i σ H Q q)⟩
theorem PW.imp {X : Cx} {e : Expr} {t t' : TT} (h : PW X e t) (i : ∀ σ H Q, t' σ H Q → t σ H Q) : PW X e t' := ⟨fun wh pins s σ H Q I q => h.run wh pins s σ H Q I (i σ H Q q)⟩
theorem PA.imp {X : Cx} {es : List Expr} {t t' : TA} (h : PA X es t) (i : ∀ σ H Q, t' σ H Q → t σ H Q) : PA X es t' := ⟨fun p pins s σ H Q I q => h.run p pins s σ H Q I (i σ H Q q)⟩
theorem PO.imp {X : Cx} {e : Option Expr} {t t' : TO} (h : PO X e t) (i : ∀ σ H Q, t' σ H Q → t σ H Q) : PO X e t' := ⟨fun pins s σ H Q I q => h.run pins s σ H Q I (i σ H Q q)⟩
end TI

set_option Elab.async false
set_option linter.all false
set_option maxRecDepth 100000
/-! what a def promises; values handed to operators and calls -/
namespace TI
open PySem PySem.Spec PyProof.Rows L2

section
variable {tx : Tx}
mutual
theorem Rep.noB {H B G B' : Hp} : ∀ {d : D} {v : V} {F : List Addr}, Rep tx H B G d v F → d.has .brw = false → Rep tx H B' G d v F
  | .non, _, _, h, _ => h
  | .bl _, _, _, h, _ => h
  | .int _, _, _, h, _ => h
  | .str _, _, _, h, _ => h
  | .bag, _, _, h, _ => h
  | .lst f xs, v, F, h, e => by
    obtain ⟨a, vs, F', rfl, h1, h2, rfl⟩ := h
    rw [D.has, Bool.or_eq_false_iff] at e
    refine ⟨a, vs, F', rfl, ?_, Reps.noB h2 e.2, rfl⟩
    cases f with
    | own => exact h1
    | sh => exact h1
    | brw => simp at e
  | .tup f xs, v, F, h, e => by
    obtain ⟨a, vs, F', rfl, h1, h2, rfl⟩ := h
    rw [D.has, Bool.or_eq_false_iff] at e
    refine ⟨a, vs, F', rfl, ?_, Reps.noB h2 e.2, rfl⟩
    cases f with
    | own => exact h1
    | sh => exact h1
    | brw => simp at e
  | .ins f c ns xs, v, F, h, e => by
    obtain ⟨a, dx, vs, F', rfl, h1, hl, h2, rfl⟩ := h
    rw [D.has, Bool.or_eq_false_iff] at e
    refine ⟨a, dx, vs, F', rfl, ?_, hl, Reps.noB h2 e.2, rfl⟩
    cases f with
    | own => exact h1
    | sh => exact h1
    | brw => simp at e
  | .exc f c ns xs, v, F, h, e => by
    obtain ⟨a, dx, vs, F', rfl, h1, hl, h2, rfl⟩ := h
    rw [D.has, Bool.or_eq_false_iff] at e
    refine ⟨a, dx, vs, F', rfl, ?_, hl, Reps.noB h2 e.2, rfl⟩
    cases f with
    | own => exact h1
    | sh => exact h1
    | brw => simp at e
theorem Reps.noB {H B G B' : Hp} : ∀ {ds : List D} {vs : List V} {F : List Addr}, Reps tx H B G ds vs F → D.hass .brw ds = false → Reps tx H B' G ds vs F
  | [], _, _, h, _ => h
  | d :: ds, vs, F, h, e => by
    obtain ⟨v, vs', F1, F2, rfl, h1, h2, rfl⟩ := h
    rw [D.hass, Bool.or_eq_false_iff] at e
    exact ⟨v, vs', F1, F2, rfl, Rep.noB h1 e.1, Reps.noB h2 e.2, rfl⟩
end
theorem off_nil_app {O F : List Addr} {H : Hp} : Ex (off (O ++ F) H) (off O H) := off_ex (fun a h _ => List.mem_append_left _ h) (fun _ _ _ z => z)
theorem off_mono {O P : List Addr} {H : Hp} (h : ∀ a ∈ P, a ∈ O) : Ex (off O H) (off P H) := off_ex (fun a z _ => h a z) (fun _ _ _ z => z)

/-- what a def promises that does what f says -/
def spK (tx : Tx) (f : List D → M D) : Sp := fun vs H Q _ => ∃ (P : List Addr) (b : Bag) (ds : List D) (d : D) (b' : Bag),
  tx.β ∈ P ∧ (∀ a ∈ P, H a ≠ none) ∧ BagOk tx b H ∧ Reps tx H (off P H) (off P H) ds vs [] ∧ f ds b = some (d, b') ∧ ∀ u H' F, Held tx P P H [d] b' [u] H' F → Q u H'
/-- .. an initializer -/
def spI (tx : Tx) (c : Str) (f : List D → M D) : Sp := fun vs H Q _ => ∃ (P : List Addr) (b : Bag) (ds : List D) (d : D) (b' : Bag) (x dx : Addr) (us : List V) (H1 : Hp),
  vs = .ref x :: us ∧ H1 x = none ∧ H1 dx = none ∧ dx ≠ x ∧ H = upd (upd H1 dx (.own x)) x (.ins (tx.ca c) dx []) ∧
  tx.β ∈ P ∧ (∀ a ∈ P, H1 a ≠ none) ∧ BagOk tx b H1 ∧ Reps tx H1 (off P H1) (off P H1) ds us [] ∧ f ds b = some (d, b') ∧ ∀ H' F, Held tx P P H1 [d] b' [.ref x] H' F → Q .non H'

variable {P O : List Addr} {σ : L2.St} {env : Env} {b b1 b2 b' : Bag} {H H1 H2 : Hp}
/-- what is held, given to a def; what it hands back, held -/
theorem app_core (p : Pre tx P O σ env b H) {ds : List D} {us : List V} {F : List Addr} (h : Held tx P O H ds b1 us H1 F) {cl : Str → List D → M D} {key : Str} {d : D} (e : app cl key ds b1 = some (d, b2)) :
    ∃ (Pc : List Addr) (r : D), tx.β ∈ Pc ∧ (∀ a ∈ Pc, H1 a ≠ none) ∧ Reps tx H1 (off Pc H1) (off Pc H1) (D.fls Fl.fz ds) us [] ∧ cl key (D.fls Fl.fz ds) b1 = some (r, b2) ∧
      ∀ u H' F', Held tx Pc Pc H1 [r] b2 [u] H' F' → Held tx P O H [d] b2 [u] H' F' := by
  have liveO : ∀ a ∈ O, H1 a ≠ none := fun a ha z => by
    cases q : H a with
    | none => exact p.live a ha q
    | some o =>
      by_cases hb : a = tx.β
      · rw [hb] at z; exact h.ok.live z
      · rw [h.ex a o hb q] at z; cases z
  have notO : ∀ a ∈ F, a ∉ O := fun a ha z => p.live a z (h.fresh a ha)
  have back : ∀ {a : Addr}, H1 a = none → H a = none := fun {a} z => by
    cases q : H a with
    | none => rfl
    | some o =>
      by_cases hb : a = tx.β
      · rw [hb] at z; exact absurd z h.ok.live
      · rw [h.ex a o hb q] at z; cases z
  unfold app at e
  obtain ⟨r, b3, e1, e2⟩ := bnd_some e
  have e4 := ret_some e2
  injection e4 with e5 e3
  subst e3
  cases hbw : D.hass .brw ds with
  | false =>
    rw [hbw] at e5
    have e6 : d = r := e5
    subst e6
    refine ⟨O, d, p.bagO, liveO, ?_, e1, fun u H' F' hr => ?_⟩
    · have q := (h.rep.noB (B' := off (O ++ F) H1) hbw).turn (g := Fl.fz) (H' := H1) (B' := off O H1) (G' := off O H1) ⟨fun a ha o ho => off_some.mpr ⟨notO a ha, ho⟩, .inl ⟨rfl, off_nil_app⟩, .inl ⟨rfl, off_nil_app⟩⟩
      rw [ftg_none (g := Fl.fz) (by decide)] at q
      exact q
    · refine ⟨fun a ha => back (hr.fresh a ha), hr.nd, h.ex.trans hr.ex, hr.rep.mono ?_ (Ex.refl _) (fun _ _ _ z => z), hr.ok⟩
      refine off_mono fun a ha => ?_
      rcases List.mem_append.mp ha with z | z
      · exact List.mem_append_left _ (p.sub a z)
      · exact List.mem_append_right _ z
  | true =>
    rw [hbw] at e5
    have e6 : d = r.tt := e5
    subst e6
    refine ⟨P, r, p.bag, fun a ha => liveO a (p.sub a ha), ?_, e1, fun u H' F' hr => ?_⟩
    · have q := h.rep.turn (g := Fl.fz) (H' := H1) (B' := off P H1) (G' := off P H1) ⟨fun a ha o ho => off_some.mpr ⟨fun z => notO a ha (p.sub a z), ho⟩,
        .inl ⟨rfl, off_mono fun a z => List.mem_append_left _ (p.sub a z)⟩, .inl ⟨rfl, off_nil_app⟩⟩
      rw [ftg_none (g := Fl.fz) (by decide)] at q
      exact q
    · obtain ⟨v, vs', F1, F2, ev, h1, h2, ef⟩ := hr.rep
      have q := hr.rep.turn (g := Fl.tt) (H' := H') (B' := off (P ++ F') H') (G' := off (O ++ F') H') ⟨fun a ha o ho => ho, .inr ⟨rfl, Ex.refl _⟩, .inr ⟨rfl, Ex.refl _⟩⟩
      rw [ftg_all (g := Fl.tt) rfl] at q
      exact ⟨fun a ha => back (hr.fresh a ha), hr.nd, h.ex.trans hr.ex, q, hr.ok⟩
theorem app_sp (p : Pre tx P O σ env b H) {ds : List D} {us : List V} {F : List Addr} (h : Held tx P O H ds b1 us H1 F) {cl : Str → List D → M D} {key : Str} {d : D} (e : app cl key ds b1 = some (d, b2)) {Q : VK} {E : XK}
    (q : ∀ u H' F', Held tx P O H [d] b2 [u] H' F' → Q u H') : spK tx (cl key) us H1 Q E := by
  obtain ⟨Pc, r, h1, h2, h3, h4, h5⟩ := app_core p h e
  exact ⟨Pc, b1, _, r, b2, h1, h2, h.ok, h3, h4, fun u H' F' hr => q u H' F' (h5 u H' F' hr)⟩
theorem app_spI (p : Pre tx P O σ env b H) {ds : List D} {us : List V} {F : List Addr} (h : Held tx P O H ds b1 us H1 F) {cl : Str → List D → M D} {c : Str} {d : D} (e : app cl c ds b1 = some (d, b2)) {Q : VK} {E : XK}
    (q : ∀ u H' F', Held tx P O H [d] b2 [u] H' F' → Q u H') {x dx : Addr} (hx : H1 x = none) (hdx : H1 dx = none) (ne : dx ≠ x) :
    spI tx c (cl c) (.ref x :: us) (upd (upd H1 dx (.own x)) x (.ins (tx.ca c) dx [])) (fun v H2 => v = .non ∧ Q (.ref x) H2) E := by
  obtain ⟨Pc, r, h1, h2, h3, h4, h5⟩ := app_core p h e
  exact ⟨Pc, b1, _, r, b2, x, dx, us, H1, rfl, hx, hdx, ne, rfl, h1, h2, h.ok, h3, h4, fun H' F' hr => ⟨rfl, q _ H' F' (h5 _ H' F' hr)⟩⟩
end

/-! ### what follows one, two, several values -/
section
variable (tx : Tx)
def Dn1 (m : D → M D) : V → Hp → VK → Prop := fun u H2 Q => ∃ P O σ env b H x b2 d b' F, Pre tx P O σ env b H ∧ Held tx P O H [x] b2 [u] H2 F ∧ m x b2 = some (d, b') ∧ ∀ z H3 F3, Held tx P O H [d] b' [z] H3 F3 → Q z H3
def Dn2 (m : D → D → M D) : R2 := fun u w H2 Q => ∃ P O σ env b H x y b2 d b' F, Pre tx P O σ env b H ∧ Held tx P O H [x, y] b2 [u, w] H2 F ∧ m x y b2 = some (d, b') ∧ ∀ z H3 F3, Held tx P O H [d] b' [z] H3 F3 → Q z H3
def DnA (m : List D → M D) : List V → Hp → VK → Prop := fun us H2 Q => ∃ P O σ env b H ds b2 d b' F, Pre tx P O σ env b H ∧ Held tx P O H ds b2 us H2 F ∧ m ds b2 = some (d, b') ∧ ∀ z H3 F3, Held tx P O H [d] b' [z] H3 F3 → Q z H3
/-- tests -/
def Tn1 (m : D → M Bool) : V → Hp → (Bool → Hp → Prop) → Prop := fun u H2 Q => ∃ P O σ env b H x b2 d b' F, Pre tx P O σ env b H ∧ Held tx P O H [x] b2 [u] H2 F ∧ m x b2 = some (d, b') ∧ ∀ H3, Held tx P O H [] b' [] H3 [] → Q d H3
end
section
variable {tx : Tx} {X : Cx}
theorem Held.drop {P O : List Addr} {b : Bag} {H H1 : Hp} {ds : List D} {us : List V} {F : List Addr} (h : Held tx P O H ds b us H1 F) : Held tx P O H [] b [] H1 [] := h.less (List.nil_sublist _) ⟨rfl, rfl⟩
theorem rd1 {va : Env → M D} {m : D → M D} {σ : L2.St} {H : Hp} {Q : VK} (h : tEv tx (fun env => bnd (va env) m) σ H Q) : tEv tx va σ H fun u H1 => Dn1 tx m u H1 Q := by
  obtain ⟨P, O, env, b, d, b', p, e, q⟩ := h
  obtain ⟨x, b1, e1, e2⟩ := bnd_some e
  exact ⟨P, O, env, b, x, b1, p, e1, fun u H1 F1 h1 => ⟨P, O, σ, env, b, H, x, b1, d, b', F1, p, h1, e2, q⟩⟩
theorem rd2 {va vb : Env → M D} {m : D → D → M D} {σ : L2.St} {H : Hp} {Q : VK} (h : tEv tx (fun env => bnd (va env) fun x => bnd (vb env) fun y => m x y) σ H Q) :
    tEv tx va σ H fun u H1 => tEv tx vb σ H1 fun w H2 => Dn2 tx m u w H2 Q := by
  obtain ⟨P, O, env, b, d, b', p, e, q⟩ := h
  obtain ⟨x, b1, e1, e⟩ := bnd_some e
  obtain ⟨y, b2, e2, e⟩ := bnd_some e
  exact ⟨P, O, env, b, x, b1, p, e1, fun u H1 F1 h1 => ⟨P ++ F1, O ++ F1, env, b1, y, b2, p.held h1, e2, fun w H2 F2 h2 => ⟨P, O, σ, env, b, H, x, y, b2, d, b', F1 ++ F2, p, Held.app p h1 h2, e, q⟩⟩⟩
theorem rdA {va : Env → M (List D)} {m : List D → M D} {σ : L2.St} {H : Hp} {Q : VK} (h : tEv tx (fun env => bnd (va env) m) σ H Q) : tEa tx va σ H fun us H1 => DnA tx m us H1 Q := by
  obtain ⟨P, O, env, b, d, b', p, e, q⟩ := h
  obtain ⟨ds, b1, e1, e2⟩ := bnd_some e
  exact ⟨P, O, env, b, ds, b1, p, e1, fun us H1 F1 h1 => ⟨P, O, σ, env, b, H, ds, b1, d, b', F1, p, h1, e2, q⟩⟩
theorem rdT {va : Env → M D} {m : D → M Bool} {σ : L2.St} {H : Hp} {Q : Bool → Hp → Prop} (h : tEt tx (fun env => bnd (va env) m) σ H Q) : tEv tx va σ H fun u H1 => Tn1 tx m u H1 Q := by
  obtain ⟨P, O, env, b, d, b', p, e, q⟩ := h
  obtain ⟨x, b1, e1, e2⟩ := bnd_some e
  exact ⟨P, O, env, b, x, b1, p, e1, fun u H1 F1 h1 => ⟨P, O, σ, env, b, H, x, b1, d, b', F1, p, h1, e2, q⟩⟩
theorem tEv.imp {v : Env → M D} {σ : L2.St} {H : Hp} {Q Q' : VK} (h : tEv tx v σ H Q) (i : ∀ u H', Q u H' → Q' u H') : tEv tx v σ H Q' := by
  obtain ⟨P, O, env, b, d, b', p, e, q⟩ := h
  exact ⟨P, O, env, b, d, b', p, e, fun u H' F h => i _ _ (q u H' F h)⟩

/-! ### names, constants, argument lists -/
theorem s_var {i : Nat} {x : Str} {pos : Pos} (hN : X.N[i]? = some x) (hv : Vis X.env.scope x) (hd : (x == ("__debug__" : Str)) = false) (hcd : (x == ("__classdict__" : Str)) = false) :
    PE X (.Name x pos) (tEv tx fun env => opt ((env[i]?).join.map D.bw)) := by
  refine PE.imp (pe_var hN hv hd hcd) fun σ H Q h => ?_
  obtain ⟨P, O, env, b, d, b', p, e, q⟩ := h
  obtain ⟨e1, e2⟩ := opt_some e
  dsimp only at e1 e2
  subst e2
  obtain ⟨d0, e3, rfl⟩ := Option.map_eq_some_iff.mp e1
  have e4 : env[i]? = some (some d0) := by
    cases z : env[i]? with
    | none => rw [z] at e3; cases e3
    | some o => rw [z] at e3; exact congrArg some e3
  obtain ⟨F, he, hF⟩ := p.env
  obtain ⟨v, F1, h1, h2, h3⟩ := he.get e4
  refine ⟨v, h1, q v H [] ⟨fun a z => (by cases z), List.nodup_nil, ExB.refl _, Reps.one ?_, p.ok⟩⟩
  have t := h2.turn (g := Fl.bw) (H' := H) (B' := off (P ++ []) H) (G' := off (O ++ []) H) ⟨fun a ha o ho => ?_, .inl ⟨rfl, ?_⟩, .inr ⟨rfl, ?_⟩⟩
  · rw [ftg_none (g := Fl.bw) (by decide)] at t
    exact t
  · exact off_some.mpr ⟨by rw [List.append_nil]; exact (hF a (h3.subset ha)).2, ho⟩
  · rw [List.append_nil]; exact Ex.refl _
  · rw [List.append_nil]; exact Ex.refl _
theorem s_const {e : Expr} {v : V} {d : D} (h : PE X e (tC v)) (r : ∀ H B G, Rep tx H B G d v []) : PE X e (tEv tx fun _ => ret d) := by
  refine PE.imp h fun σ H Q h => ?_
  obtain ⟨P, O, env, b, d', b', p, e, q⟩ := h
  have e := ret_some e
  injection e with e1 e2
  subst e1; subst e2
  exact q v H [] ⟨fun a z => (by cases z), List.nodup_nil, ExB.refl _, Reps.one (r _ _ _), p.ok⟩
theorem s_glo {e : Expr} {o : Option D} (h : ∀ d, o = some d → ∃ v, PE X e (tC v) ∧ ∀ H B G, Rep tx H B G d v []) (hn : o ≠ none) : PE X e (tEv tx fun _ => opt o) := by
  cases ho : o with
  | none => exact absurd ho hn
  | some d =>
    obtain ⟨v, h1, h2⟩ := h d ho
    exact PE.imp (s_const h1 h2) fun σ H Q z => z
theorem s_anil : PA X [] (tEa tx fun _ => ret []) := by
  refine PA.imp pa_nil fun σ H Q h => ?_
  obtain ⟨P, O, env, b, d', b', p, e, q⟩ := h
  have e := ret_some e
  injection e with e1 e2
  subst e1; subst e2
  exact q [] H [] (Held.nil p)
theorem s_acons {e : Expr} {es : List Expr} {va : Env → M D} {vs : Env → M (List D)} (ha : PE X e (tEv tx va)) (hs : PA X es (tEa tx vs)) (hst : starEach (e :: es) X.env = (false, eval e X.env) :: starEach es X.env) :
    PA X (e :: es) (tEa tx fun env => bnd (va env) fun d => bnd (vs env) fun ds => ret (d :: ds)) := by
  refine PA.imp (pa_cons ha hs hst) fun σ H Q h => ?_
  obtain ⟨P, O, env, b, d', b', p, e, q⟩ := h
  obtain ⟨x, b1, e1, e⟩ := bnd_some e
  obtain ⟨ys, b2, e2, e⟩ := bnd_some e
  have e := ret_some e
  injection e with e3 e4
  subst e3; subst e4
  exact ⟨P, O, env, b, x, b1, p, e1, fun u H1 F1 h1 => ⟨P ++ F1, O ++ F1, env, b1, ys, b', p.held h1, e2, fun us H2 F2 h2 => q _ _ _ (Held.app p h1 h2)⟩⟩
end
end TI

set_option Elab.async false
set_option linter.all false
set_option maxRecDepth 100000
/-! the operators of built-in kinds -/
namespace TI
open PySem PySem.Spec PyProof.Rows L2

section
variable {tx : Tx} {X : Cx} {P O : List Addr} {b : Bag} {H H1 : Hp}
theorem Held.out1 {d : D} {u : V} {F : List Addr} (h : Held tx P O H [d] b [u] H1 F) : Rep tx H1 (off (P ++ F) H1) (off (O ++ F) H1) d u F := by
  obtain ⟨v, vs', F1, F2, e, h1, ⟨h2, h3⟩, ef⟩ := h.rep
  subst h2; subst h3
  injection e with e1 e2
  subst e1
  rw [List.append_nil] at ef
  subst ef
  exact h1
theorem Held.out2 {d d' : D} {u w : V} {F : List Addr} (h : Held tx P O H [d, d'] b [u, w] H1 F) :
    ∃ F1 F2, F = F1 ++ F2 ∧ Rep tx H1 (off (P ++ F) H1) (off (O ++ F) H1) d u F1 ∧ Rep tx H1 (off (P ++ F) H1) (off (O ++ F) H1) d' w F2 := by
  obtain ⟨v, vs', F1, F2, e, h1, ⟨v2, vs2, F3, F4, e2, h3, ⟨h4, h5⟩, ef2⟩, ef⟩ := h.rep
  subst h4; subst h5; subst e2
  injection e with e3 e4
  injection e4 with e5 e6
  subst e3; subst e5
  rw [List.append_nil] at ef2
  subst ef2
  exact ⟨F1, _, ef, h1, h3⟩
/-- a value that needs no heap -/
theorem Held.flat {ds : List D} {us : List V} {F : List Addr} {d : D} {u : V} (h : Held tx P O H ds b us H1 F) (r : ∀ H B G, Rep tx H B G d u []) : Held tx P O H [d] b [u] H1 [] := h.less (List.nil_sublist _) (Reps.one (r _ _ _))
theorem repInt (i : Int) (H B G : Hp) : Rep tx H B G (.int i) (.int i) [] := ⟨rfl, rfl⟩
theorem repBl (k : Bool) (H B G : Hp) : Rep tx H B G (.bl k) (.bl k) [] := ⟨rfl, rfl⟩
theorem repStr (s : Str) (H B G : Hp) : Rep tx H B G (.str s) (.str s) [] := ⟨rfl, rfl⟩
theorem repNon (H B G : Hp) : Rep tx H B G .non .non [] := ⟨rfl, rfl⟩
theorem flat_rep {H B G : Hp} : ∀ {d : D} {v : V} {F : List Addr}, d.flat = true → Rep tx H B G d v F → F = [] ∧ ∀ H B G, Rep tx H B G d v []
  | .non, _, _, _, ⟨h, e⟩ => ⟨e, fun _ _ _ => ⟨h, rfl⟩⟩
  | .bl _, _, _, _, ⟨h, e⟩ => ⟨e, fun _ _ _ => ⟨h, rfl⟩⟩
  | .int _, _, _, _, ⟨h, e⟩ => ⟨e, fun _ _ _ => ⟨h, rfl⟩⟩
  | .str _, _, _, _, ⟨h, e⟩ => ⟨e, fun _ _ _ => ⟨h, rfl⟩⟩
  | .lst _ _, _, _, h, _ => by cases h
  | .tup _ _, _, _, h, _ => by cases h
  | .ins _ _ _ _, _, _, h, _ => by cases h
  | .exc _ _ _ _, _, _, h, _ => by cases h
  | .bag, _, _, h, _ => by cases h
theorem flats_rep {H B G : Hp} : ∀ {ds : List D} {vs : List V} {F : List Addr}, ds.all D.flat = true → Reps tx H B G ds vs F → F = [] ∧ ∀ H B G, Reps tx H B G ds vs []
  | [], _, _, _, ⟨h, e⟩ => ⟨e, fun _ _ _ => ⟨h, rfl⟩⟩
  | d :: ds, vs, F, hf, h => by
    obtain ⟨v, vs', F1, F2, rfl, h1, h2, rfl⟩ := h
    rw [List.all_cons, Bool.and_eq_true] at hf
    obtain ⟨e1, q1⟩ := flat_rep hf.1 h1
    obtain ⟨e2, q2⟩ := flats_rep hf.2 h2
    subst e1; subst e2
    exact ⟨rfl, fun H B G => ⟨v, vs', [], [], rfl, q1 H B G, q2 H B G, rfl⟩⟩
theorem reps_rep {H B G : Hp} {ds : List D} {vs : List V} (h : Reps tx H B G ds vs []) : ∀ n, Reps tx H B G (List.replicate n ds).flatten (List.replicate n vs).flatten []
  | 0 => ⟨rfl, rfl⟩
  | n + 1 => by
    rw [List.replicate_succ, List.replicate_succ, List.flatten_cons, List.flatten_cons]
    exact Reps.append h (reps_rep h n)
theorem live_of {O : List Addr} {a : Addr} {o : HO} (h : off O H a = some o) : H a = some o := (off_some.mp h).2
theorem AtL.at {B G : List Addr} {f : Fl} {a : Addr} {vs : List V} (h : AtL H (off B H) (off G H) f a vs) : H a = some (.lst vs) := by
  cases f with
  | own => exact h
  | sh => exact live_of h
  | brw => exact live_of h
theorem AtT.at {B G : List Addr} {f : Fl} {a : Addr} {vs : List V} (h : AtT tx H (off B H) (off G H) f a vs) : SqT tx.K H a vs := by
  cases f with
  | own => exact SqT.of h
  | sh => exact off_sub.sqT h
  | brw => exact off_sub.sqT h
theorem AtI.at {B G : List Addr} {f : Fl} {a C dx : Addr} {fs : List (Str × V)} (h : AtI H (off B H) (off G H) f a C dx fs) : H a = some (.ins C dx fs) := by
  cases f with
  | own => exact h
  | sh => exact live_of h
  | brw => exact live_of h

theorem Held.so {P O : List Addr} {σ : L2.St} {env : Env} {b b' : Bag} {H H1 : Hp} {ds : List D} {us : List V} {F : List Addr} (p : Pre tx P O σ env b' H) (h : Held tx P O H ds b us H1 F) : Held tx P O H (D.fls Fl.so ds) b us H1 [] := by
  have notO : ∀ a ∈ F, a ∉ O := fun a ha z => p.live a z (h.fresh a ha)
  refine ⟨fun a z => (by cases z), List.nodup_nil, h.ex, ?_, h.ok⟩
  have q := h.rep.turn (g := Fl.so) (H' := H1) (B' := off (P ++ []) H1) (G' := off (O ++ []) H1) ⟨fun a ha o ho => off_some.mpr ⟨by rw [List.append_nil]; exact notO a ha, ho⟩, .inl ⟨rfl, ?_⟩, .inr ⟨rfl, ?_⟩⟩
  · rw [ftg_none (g := Fl.so) (by decide)] at q
    exact q
  · rw [List.append_nil]; exact off_nil_app
  · rw [List.append_nil]; exact off_nil_app
/-- the built-in kinds' operators -/
theorem op_binD (hK : X.K = tx.K) {op : Operator} : OpR X (binaryOp op) (Dn2 tx fun x y => opt (binD op x y)) := by
  intro pins s σ H2 u w v v' Q I ru rw h
  obtain ⟨P, O, σ0, env, b, H, x, y, b2, d, b', F, p, hh, e0, q⟩ := h
  obtain ⟨e, eb⟩ := opt_some e0
  dsimp only at e eb
  subst eb
  obtain ⟨F1, F2, rfl, r1, r2⟩ := hh.out2
  have fin : ∀ i : Int, Q (.int i) H2 ∨ True := fun _ => .inr trivial
  unfold binD at e
  split at e
  · -- int + int
    rename_i i j
    obtain ⟨rfl, _⟩ := r1
    obtain ⟨rfl, _⟩ := r2
    cases e
    exact op_add pins s σ H2 _ _ v v' Q I ru rw ⟨i, j, rfl, rfl, q _ _ _ (hh.flat (repInt _))⟩
  · rename_i i j
    obtain ⟨rfl, _⟩ := r1
    obtain ⟨rfl, _⟩ := r2
    split at e
    · rename_i hz
      cases e
      exact op_add_str pins s σ H2 _ _ v v' Q I ru rw ⟨i, j, rfl, rfl, hz, q _ _ _ (hh.flat (repStr _))⟩
    · cases e
  · rename_i f xs g ys
    obtain ⟨a, vs, G1, rfl, h1, h2, rfl⟩ := r1
    obtain ⟨c, ws, G2, rfl, h3, h4, rfl⟩ := r2
    split at e
    · rename_i hz
      cases e
      refine op_cat pins s σ H2 _ _ v v' Q I ru rw ⟨a, c, vs, ws, rfl, rfl, h1.at, h3.at, by rw [← h2.length, ← h4.length]; exact hz, fun z hz => ?_⟩
      refine q _ _ _ (hh.laid p (F' := G1 ++ G2) ?_ (h2.append h4) hz fun H3 B G e r => ⟨z, vs ++ ws, G1 ++ G2, rfl, e, r, rfl⟩)
      exact (List.sublist_append_right _ _).append (List.sublist_append_right _ _)
    · cases e
  · rename_i i j
    obtain ⟨rfl, _⟩ := r1
    obtain ⟨rfl, _⟩ := r2
    cases e
    exact op_sub pins s σ H2 _ _ v v' Q I ru rw ⟨i, j, rfl, rfl, q _ _ _ (hh.flat (repInt _))⟩
  · rename_i i j
    obtain ⟨rfl, _⟩ := r1
    obtain ⟨rfl, _⟩ := r2
    split at e
    · rename_i hz
      unfold mulOk at hz
      rw [Bool.and_eq_true] at hz
      cases e
      exact op_mulW pins s σ H2 _ _ v v' Q I ru rw ⟨i, j, rfl, rfl, wide_mul (of_decide_eq_true hz.1) (of_decide_eq_true hz.2) (by omega) (by omega) (by omega), q _ _ _ (hh.flat (repInt _))⟩
    · cases e
  · rename_i f xs j
    obtain ⟨a, vs, G1, rfl, h1, h2, rfl⟩ := r1
    obtain ⟨rfl, rfl⟩ := r2
    split at e
    · rename_i hz
      rw [Bool.and_eq_true, Bool.and_eq_true] at hz
      obtain ⟨⟨z2, z3⟩, z4⟩ := hz
      cases e
      have hs := hh.so p
      obtain ⟨F3, F4, ef, r3, _⟩ := hs.out2
      obtain ⟨a', vs', G3, ea, h3, h4, e3⟩ := r3
      cases ea
      have e4 := List.append_eq_nil_iff.mp ef.symm
      rw [e4.1] at e3
      obtain ⟨_, rfl⟩ := List.append_eq_nil_iff.mp e3.symm
      have ev : vs' = vs := by
        have x1 := h1.at
        have x2 := h3.at
        rw [x1] at x2
        cases x2
        rfl
      subst ev
      refine op_rep pins s σ H2 _ _ v v' Q I ru rw ⟨a, j, _, rfl, rfl, h1.at, of_decide_eq_true z2, of_decide_eq_true z3, by rw [← h2.length]; exact of_decide_eq_true z4, fun z hz => ?_⟩
      exact q _ _ _ (hs.laid p (F' := []) (List.nil_sublist _) (reps_rep h4 _) hz fun H3 B G e r => ⟨z, _, [], rfl, e, r, rfl⟩)
    · cases e
  · rename_i i j
    obtain ⟨rfl, _⟩ := r1
    obtain ⟨rfl, _⟩ := r2
    split at e
    · rename_i hz
      cases e
      exact op_fdivW pins s σ H2 _ _ v v' Q I ru rw ⟨i, j, rfl, rfl, wide_div hz.1 hz.2 (by omega) (by omega), q _ _ _ (hh.flat (repInt _))⟩
    · cases e
  · rename_i i j
    obtain ⟨rfl, _⟩ := r1
    obtain ⟨rfl, _⟩ := r2
    split at e
    · rename_i hz
      cases e
      exact op_mod pins s σ H2 _ _ v v' Q I ru rw ⟨i, j, rfl, rfl, hz, q _ _ _ (hh.flat (repInt _))⟩
    · cases e
  · rename_i i j
    obtain ⟨rfl, _⟩ := r1
    obtain ⟨rfl, _⟩ := r2
    split at e
    · rename_i hz
      cases e
      exact op_pow pins s σ H2 _ _ v v' Q I ru rw ⟨i, j, rfl, rfl, hz, q _ _ _ (hh.flat (repInt _))⟩
    · cases e
  · cases e

theorem AtX.at {H : Hp} {B G : List Addr} {f : Fl} {a C dx : Addr} {fs : List (Str × V)} (h : AtX (off B H) (off G H) f a C dx fs) : H a = some (exo a C (some dx)) ∧ H dx = some (exd dx fs) := by
  cases f with
  | own => exact h.elim
  | sh => exact ⟨live_of h.1, live_of h.2⟩
  | brw => exact ⟨live_of h.1, live_of h.2⟩

/-! ### data -/
mutual
theorem Rep.dp {H : Hp} {Bo Go : List Addr} : ∀ {d : D} {v : V} {F : List Addr} {a : PyData}, Rep tx H (off Bo H) (off Go H) d v F → d.data = some a → Dp tx.K H v a
  | .non, _, _, _, ⟨h, _⟩, e => by subst h; cases e; exact .non
  | .bl _, _, _, _, ⟨h, _⟩, e => by subst h; cases e; exact .bl _
  | .int _, _, _, _, ⟨h, _⟩, e => by subst h; cases e; exact .int _
  | .str _, _, _, _, ⟨h, _⟩, e => by subst h; cases e; exact .str _
  | .bag, _, _, _, _, e => by cases e
  | .ins _ _ _ _, _, _, _, _, e => by cases e
  | .exc _ _ _ _, _, _, _, _, e => by cases e
  | .lst f xs, v, F, a, h, e => by
    obtain ⟨p, vs, F', rfl, h1, h2, rfl⟩ := h
    rw [D.data] at e
    obtain ⟨as, e1, rfl⟩ := Option.map_eq_some_iff.mp e
    exact .lst (SqL.of h1.at) (Reps.dp h2 e1)
  | .tup f xs, v, F, a, h, e => by
    obtain ⟨p, vs, F', rfl, h1, h2, rfl⟩ := h
    rw [D.data] at e
    obtain ⟨as, e1, rfl⟩ := Option.map_eq_some_iff.mp e
    exact .tup h1.at (Reps.dp h2 e1)
theorem Reps.dp {H : Hp} {Bo Go : List Addr} : ∀ {ds : List D} {vs : List V} {F : List Addr} {as : List PyData}, Reps tx H (off Bo H) (off Go H) ds vs F → D.datas ds = some as → DpAll tx.K H vs as
  | [], _, _, _, ⟨h, _⟩, e => by subst h; cases e; exact .nil
  | d :: ds, vs, F, as, h, e => by
    obtain ⟨v, vs', F1, F2, rfl, h1, h2, rfl⟩ := h
    rw [D.datas] at e
    cases e1 : d.data with
    | none => rw [e1] at e; cases e
    | some a =>
      cases e2 : D.datas ds with
      | none => rw [e1, e2] at e; cases e
      | some r =>
        rw [e1, e2] at e
        cases e
        exact .cons (Rep.dp h1 e1) (Reps.dp h2 e2)
end
theorem eqD_some {x y : D} {k : Bool} (h : eqD x y = some k) : ∃ a c, x.data = some a ∧ y.data = some c ∧ SeqAt.shaped a = true ∧ SeqAt.shaped c = true ∧ k = PyData.eqv a c := by
  unfold eqD at h
  cases e1 : x.data with
  | none => rw [e1] at h; cases h
  | some a =>
    cases e2 : y.data with
    | none => rw [e1, e2] at h; cases h
    | some c =>
      rw [e1, e2] at h
      have h : (if (SeqAt.shaped a && SeqAt.shaped c) = true then some (PyData.eqv a c) else none) = some k := h
      split at h
      · rename_i z
        rw [Bool.and_eq_true] at z
        cases h
        exact ⟨a, c, rfl, rfl, z.1, z.2, rfl⟩
      · cases h
theorem rep_isN {H B G : Hp} : ∀ {d : D} {u : V} {F : List Addr}, Rep tx H B G d u F → decide (u = V.non) = (match d with | .non => true | _ => false)
  | .non, _, _, ⟨h, _⟩ => by subst h; rfl
  | .bl _, _, _, ⟨h, _⟩ => by subst h; rfl
  | .int _, _, _, ⟨h, _⟩ => by subst h; rfl
  | .str _, _, _, ⟨h, _⟩ => by subst h; rfl
  | .bag, _, _, ⟨h, _⟩ => by subst h; rfl
  | .lst _ _, _, _, ⟨_, _, _, h, _⟩ => by subst h; rfl
  | .tup _ _, _, _, ⟨_, _, _, h, _⟩ => by subst h; rfl
  | .ins _ _ _ _, _, _, ⟨_, _, _, _, h, _⟩ => by subst h; rfl
  | .exc _ _ _ _, _, _, ⟨_, _, _, _, h, _⟩ => by subst h; rfl
/-- the built-in kinds' comparisons -/
theorem op_cmpD (hK : X.K = tx.K) (hu : X.A.units + 64 < cLine) {op : CmpOp} : OpR X (compareOp op) (Dn2 tx fun x y => bnd (opt (cmpD op x y)) fun k => ret (.bl k)) := by
  intro pins s σ H2 u w v v' Q I ru rw h
  obtain ⟨P, O, σ0, env, b, H, x, y, b2, d, b', F, p, hh, e0, q⟩ := h
  obtain ⟨k, b3, e1, e2⟩ := bnd_some e0
  obtain ⟨e, eb⟩ := opt_some e1
  dsimp only at e eb
  subst eb
  have e5 := ret_some e2
  injection e5 with e3 e4
  subst e3; subst e4
  obtain ⟨F1, F2, rfl, r1, r2⟩ := hh.out2
  have fin : Q (.bl k) H2 := q _ _ _ (hh.flat (repBl k))
  unfold cmpD at e
  split at e
  · obtain ⟨a, c, h1, h2, h3, h4, rfl⟩ := eqD_some e
    exact op_eqD hu pins s σ H2 _ _ v v' Q I ru rw ⟨a, c, by rw [hK]; exact r1.dp h1, by rw [hK]; exact r2.dp h2, h3, h4, fin⟩
  · obtain ⟨k0, e6, rfl⟩ := Option.map_eq_some_iff.mp e
    obtain ⟨a, c, h1, h2, h3, h4, rfl⟩ := eqD_some e6
    exact op_neD hu pins s σ H2 _ _ v v' Q I ru rw ⟨a, c, by rw [hK]; exact r1.dp h1, by rw [hK]; exact r2.dp h2, h3, h4, fin⟩
  · obtain ⟨rfl, _⟩ := r1
    obtain ⟨rfl, _⟩ := r2
    cases e
    exact op_lt pins s σ H2 _ _ v v' Q I ru rw ⟨_, _, rfl, rfl, fin⟩
  · obtain ⟨rfl, _⟩ := r1
    obtain ⟨rfl, _⟩ := r2
    cases e
    exact op_le pins s σ H2 _ _ v v' Q I ru rw ⟨_, _, rfl, rfl, fin⟩
  · obtain ⟨rfl, _⟩ := r1
    obtain ⟨rfl, _⟩ := r2
    cases e
    exact op_gt pins s σ H2 _ _ v v' Q I ru rw ⟨_, _, rfl, rfl, fin⟩
  · obtain ⟨rfl, _⟩ := r1
    obtain ⟨rfl, _⟩ := r2
    cases e
    exact op_ge pins s σ H2 _ _ v v' Q I ru rw ⟨_, _, rfl, rfl, fin⟩
  · obtain ⟨rfl, _⟩ := r2
    refine op_isN pins s σ H2 _ _ v v' Q I ru rw ⟨rfl, ?_⟩
    rw [rep_isN r1]
    cases e
    exact fin
  · obtain ⟨rfl, _⟩ := r2
    refine op_notN pins s σ H2 _ _ v v' Q I ru rw ⟨rfl, ?_⟩
    rw [rep_isN r1]
    cases e
    cases x <;> exact fin
  · cases e
/-- truth -/
theorem tru_D (hK : X.K = tx.K) : TruR X (Tn1 tx fun x => opt (truD x)) := by
  intro pins s σ H2 u v Q I ru h
  obtain ⟨P, O, σ0, env, b, H, x, b2, d, b', F, p, hh, e0, q⟩ := h
  obtain ⟨e, eb⟩ := opt_some e0
  dsimp only at e eb
  subst eb
  have r1 := hh.out1
  have fin : Q d H2 := q _ hh.drop
  refine tru_ok pins s σ H2 u v Q I ru ⟨d, ?_, fin⟩
  rw [hK]
  unfold truD at e
  split at e
  · obtain ⟨rfl, _⟩ := r1; cases e; rfl
  · obtain ⟨rfl, _⟩ := r1; cases e; rfl
  · obtain ⟨rfl, _⟩ := r1; cases e; rfl
  · obtain ⟨rfl, _⟩ := r1
    split at e
    · rename_i hz
      cases e
      exact ⟨hz, rfl⟩
    · cases e
  · obtain ⟨a, vs, F', rfl, h1, h2, rfl⟩ := r1
    cases e
    refine .inl ⟨vs, SqL.of h1.at, ?_⟩
    have := h2.length
    rename_i xs
    cases xs <;> cases vs <;> first | rfl | simp at this
  · obtain ⟨a, vs, F', rfl, h1, h2, rfl⟩ := r1
    cases e
    refine .inr (.inl ⟨vs, h1.at, ?_⟩)
    have := h2.length
    rename_i xs
    cases xs <;> cases vs <;> first | rfl | simp at this
  · cases e
end
end TI

set_option Elab.async false
set_option linter.all false
set_option maxRecDepth 100000
/-! items, slices, displays, built-in functions -/
namespace TI
open PySem PySem.Spec PyProof.Rows L2

section
variable {tx : Tx} {X : Cx} {P O : List Addr} {b : Bag} {H H1 : Hp}
theorem reps_atI {H B G : Hp} {ds : List D} {vs : List V} {F : List Addr} {j : Int} {d : D} (h : Reps tx H B G ds vs F) (e : atI ds j = some d) : ∃ v F', atI vs j = some v ∧ Rep tx H B G d v F' ∧ F'.Sublist F := by
  unfold atI at e ⊢
  rw [h.length] at e
  obtain ⟨k, e1, e2⟩ := Option.bind_eq_some_iff.mp e
  obtain ⟨v, F', h1, h2, h3⟩ := h.get e2
  exact ⟨v, F', by rw [e1]; exact h1, h2, h3⟩
theorem reps_drop {H B G : Hp} : ∀ {ds : List D} {vs : List V} {F : List Addr} (n : Nat), Reps tx H B G ds vs F → ∃ F', F'.Sublist F ∧ Reps tx H B G (ds.drop n) (vs.drop n) F'
  | ds, vs, F, 0, h => ⟨F, List.Sublist.refl _, h⟩
  | [], vs, F, n + 1, ⟨h, e⟩ => ⟨[], List.nil_sublist _, by subst h; exact ⟨rfl, rfl⟩⟩
  | d :: ds, vs, F, n + 1, h => by
    obtain ⟨v, vs', F1, F2, rfl, h1, h2, rfl⟩ := h
    obtain ⟨F', s, q⟩ := reps_drop n h2
    exact ⟨F', s.trans (List.sublist_append_right _ _), q⟩
theorem reps_take {H B G : Hp} : ∀ {ds : List D} {vs : List V} {F : List Addr} (n : Nat), Reps tx H B G ds vs F → ∃ F', F'.Sublist F ∧ Reps tx H B G (ds.take n) (vs.take n) F'
  | ds, vs, F, 0, h => ⟨[], List.nil_sublist _, ⟨rfl, rfl⟩⟩
  | [], vs, F, n + 1, ⟨h, e⟩ => ⟨[], List.nil_sublist _, by subst h; exact ⟨rfl, rfl⟩⟩
  | d :: ds, vs, F, n + 1, h => by
    obtain ⟨v, vs', F1, F2, rfl, h1, h2, rfl⟩ := h
    obtain ⟨F', s, q⟩ := reps_take n h2
    exact ⟨F1 ++ F', s.append_left F1, v, vs'.take n, F1, F', rfl, h1, q, rfl⟩
theorem reps_cut {H B G : Hp} {ds : List D} {vs : List V} {F : List Addr} (lo hi : Option Int) (h : Reps tx H B G ds vs F) : ∃ F', F'.Sublist F ∧ Reps tx H B G (cutD ds lo hi) (cutV vs lo hi) F' := by
  unfold cutD cutV
  rw [h.length]
  obtain ⟨F1, s1, h1⟩ := reps_drop (HT.sIx vs.length 0 lo) h
  obtain ⟨F2, s2, h2⟩ := reps_take (HT.sIx vs.length vs.length hi - HT.sIx vs.length 0 lo) h1
  exact ⟨F2, s2.trans s1, h2⟩

/-- xs[i] -/
theorem s_idx (hK : X.K = tx.K) {a i : Expr} {pos : Pos} {va vi : Env → M D} (ha : PE X a (tEv tx va)) (hi : PE X i (tEv tx vi)) (hs : PlainIx i) :
    PE X (.Subscript a i pos) (tEv tx fun env => bnd (va env) fun x => bnd (vi env) fun y => opt (idxD x y)) := by
  refine PE.imp (pe_ix (ix_list.or ix_tup) ha hi hs) fun σ H Q h => (rd2 h).imp fun u H1 h1 => h1.imp fun w H2 h2 => ?_
  obtain ⟨P, O, σ0, env, b, H0, x, y, b2, d, b', F, p, hh, e0, q⟩ := h2
  obtain ⟨e, eb⟩ := opt_some e0
  dsimp only at e eb
  subst eb
  obtain ⟨F1, F2, rfl, r1, r2⟩ := hh.out2
  rw [hK]
  unfold idxD at e
  split at e
  · obtain ⟨p', vs, F', rfl, h1, h2, rfl⟩ := r1
    obtain ⟨rfl, rfl⟩ := r2
    obtain ⟨v, F3, e1, r, s⟩ := reps_atI h2 e
    exact .inl ⟨p', vs, _, v, rfl, rfl, SqL.of h1.at, e1, q _ _ _ (hh.less ((s.trans (List.sublist_append_right _ _)).trans (List.sublist_append_left _ _)) (Reps.one r))⟩
  · obtain ⟨p', vs, F', rfl, h1, h2, rfl⟩ := r1
    obtain ⟨rfl, rfl⟩ := r2
    obtain ⟨v, F3, e1, r, s⟩ := reps_atI h2 e
    exact .inr ⟨p', vs, _, v, rfl, rfl, h1.at, e1, q _ _ _ (hh.less ((s.trans (List.sublist_append_right _ _)).trans (List.sublist_append_left _ _)) (Reps.one r))⟩
  · cases e
/-- a part of a slice -/
theorem s_nopart : PO X none (tEp tx fun _ => ret none) := by
  refine PO.imp po_none fun σ H Q h => ?_
  obtain ⟨P, O, env, b, d', b', p, e, q⟩ := h
  have e := ret_some e
  injection e with e1 e2
  subst e1; subst e2
  exact q H (Held.nil p)
theorem s_part {e : Expr} {v : Env → M D} (h : PE X e (tEv tx v)) : PO X (some e) (tEp tx fun env => bnd (v env) intPart) := by
  refine PO.imp (po_some h) fun σ H Q h => ?_
  obtain ⟨P, O, env, b, d', b', p, e, q⟩ := h
  obtain ⟨x, b1, e1, e2⟩ := bnd_some e
  refine ⟨P, O, env, b, x, b1, p, e1, fun u H1 F1 h1 => ?_⟩
  unfold intPart at e2
  split at e2
  · have e3 := ret_some e2
    injection e3 with e4 e5
    subst e4; subst e5
    obtain ⟨rfl, rfl⟩ := h1.out1
    exact ⟨_, rfl, q H1 h1.drop⟩
  · cases e2
/-- xs[lo:hi] -/
theorem s_sl (hK : X.K = tx.K) {a : Expr} {lo hi : Option Expr} {pos p2 : Pos} {va : Env → M D} {vl vh : Env → M (Option Int)} (ha : PE X a (tEv tx va)) (hl : PO X lo (tEp tx vl)) (hh : PO X hi (tEp tx vh)) :
    PE X (.Subscript a (.Slice lo hi none p2) pos) (tEv tx fun env => bnd (va env) fun x => bnd (vl env) fun l => bnd (vh env) fun u => opt (slD x l u)) := by
  refine PE.imp (pe_slice (sl_list.or sl_tupA) ha hl hh) fun σ H Q h => ?_
  obtain ⟨P, O, env, b, d, b', p, e, q⟩ := h
  obtain ⟨x, b1, e1, e⟩ := bnd_some e
  obtain ⟨l, b2, e2, e⟩ := bnd_some e
  obtain ⟨u, b3, e3, e⟩ := bnd_some e
  obtain ⟨e4, eb⟩ := opt_some e
  dsimp only at e4 eb
  subst eb
  refine ⟨P, O, env, b, x, b1, p, e1, fun z H1 F1 h1 => ⟨P ++ F1, O ++ F1, env, b1, l, b2, p.held h1, e2, fun H2 h2 => ⟨(P ++ F1) ++ [], (O ++ F1) ++ [], env, b2, u, b', (p.held h1).held h2, e3, fun H3 h3 => ?_⟩⟩⟩
  have h12 := Held.app p h1 h2
  have h3' : Held tx (P ++ (F1 ++ [])) (O ++ (F1 ++ [])) H2 [] b' [] H3 [] := by
    rw [← List.append_assoc, ← List.append_assoc]
    exact h3
  have h123 := Held.app p h12 h3'
  simp only [List.append_nil] at h123
  have r1 := h123.out1
  unfold slD at e4
  split at e4
  · obtain ⟨c, vs, F', rfl, k1, k2, rfl⟩ := r1
    cases e4
    refine .inl ⟨c, vs, rfl, SqL.of k1.at, fun z hz => ?_⟩
    obtain ⟨F2, s, r⟩ := reps_cut l u k2
    exact q _ _ _ (h123.laid p (s.trans (List.sublist_append_right _ _)) r hz fun H3 B G e r => ⟨z, _, F2, rfl, e, r, rfl⟩)
  · obtain ⟨c, vs, F', rfl, k1, k2, rfl⟩ := r1
    have hl := k2.length
    split at e4
    · rename_i hw
      cases e4
      rw [hl] at hw
      refine .inr ⟨c, vs, rfl, by rw [hK]; exact k1.at, fun _ => q _ _ _ h123, fun z => absurd hw z⟩
    · rename_i hw
      cases e4
      rw [hl] at hw
      refine .inr ⟨c, vs, rfl, by rw [hK]; exact k1.at, fun z => absurd z hw, fun _ z hz => ?_⟩
      obtain ⟨F2, s, r⟩ := reps_cut l u k2
      exact q _ _ _ (h123.laid p (s.trans (List.sublist_append_right _ _)) r hz fun H3 B G e r => ⟨z, _, F2, rfl, e, r, rfl⟩)
  · cases e4

/-! ### displays -/
theorem s_lst {es : List Expr} {pos : Pos} {vs : Env → M (List D)} (h : PA X es (tEa tx vs)) : PE X (.List es pos) (tEv tx fun env => seqM .lst (vs env)) := by
  refine PE.imp (pe_lst h) fun σ H Q h => ?_
  refine (show tEa tx vs σ H _ from ?_)
  obtain ⟨P, O, env, b, d, b', p, e, q⟩ := h
  obtain ⟨ds, b1, e1, e2⟩ := bnd_some e
  refine ⟨P, O, env, b, ds, b1, p, e1, fun us H1 F1 h1 => ?_⟩
  split at e2
  · rename_i hz
    have e3 := ret_some e2
    injection e3 with e4 e5
    subst e4; subst e5
    refine ⟨by rw [← h1.rep.length]; exact hz, fun z hz => ?_⟩
    exact q _ _ _ (h1.laid p (List.Sublist.refl _) h1.rep hz fun H3 B G e r => ⟨z, _, _, rfl, e, r, rfl⟩)
  · cases e2
theorem s_tup {es : List Expr} {k : Nat} {pos : Pos} {vs : Env → M (List D)} (h : PA X es (tEa tx vs)) : PE X (.Tuple es k pos) (tEv tx fun env => seqM .tup (vs env)) := by
  refine PE.imp (pe_tup h) fun σ H Q h => ?_
  refine (show tEa tx vs σ H _ from ?_)
  obtain ⟨P, O, env, b, d, b', p, e, q⟩ := h
  obtain ⟨ds, b1, e1, e2⟩ := bnd_some e
  refine ⟨P, O, env, b, ds, b1, p, e1, fun us H1 F1 h1 => ?_⟩
  split at e2
  · rename_i hz
    have e3 := ret_some e2
    injection e3 with e4 e5
    subst e4; subst e5
    refine ⟨by rw [← h1.rep.length]; exact hz, fun z hz => ?_⟩
    exact q _ _ _ (h1.laid p (List.Sublist.refl _) h1.rep hz fun H3 B G e r => ⟨z, _, _, rfl, e, r, rfl⟩)
  · cases e2

/-! ### built-in functions, by values -/
theorem ints_vals {H B G : Hp} : ∀ {ds : List D} {vs : List V} {F : List Addr} {ns : List Int}, Reps tx H B G ds vs F → D.ints ds = some ns → vs = ns.map V.int
  | [], _, _, _, ⟨h, _⟩, e => by subst h; cases e; rfl
  | .int i :: ds, vs, F, ns, h, e => by
    obtain ⟨v, vs', F1, F2, rfl, ⟨rfl, _⟩, h2, rfl⟩ := h
    rw [D.ints] at e
    obtain ⟨ms, e1, rfl⟩ := Option.map_eq_some_iff.mp e
    rw [ints_vals h2 e1]
    rfl
  | .non :: _, _, _, _, _, e => by cases e
  | .bl _ :: _, _, _, _, _, e => by cases e
  | .str _ :: _, _, _, _, _, e => by cases e
  | .lst _ _ :: _, _, _, _, _, e => by cases e
  | .tup _ _ :: _, _, _, _, _, e => by cases e
  | .ins _ _ _ _ :: _, _, _, _, _, e => by cases e
  | .exc _ _ _ _ :: _, _, _, _, _, e => by cases e
  | .bag :: _, _, _, _, _, e => by cases e
theorem bls_vals {H B G : Hp} : ∀ {ds : List D} {vs : List V} {F : List Addr} {ns : List Bool}, Reps tx H B G ds vs F → D.bls ds = some ns → vs = ns.map V.bl
  | [], _, _, _, ⟨h, _⟩, e => by subst h; cases e; rfl
  | .bl i :: ds, vs, F, ns, h, e => by
    obtain ⟨v, vs', F1, F2, rfl, ⟨rfl, _⟩, h2, rfl⟩ := h
    rw [D.bls] at e
    obtain ⟨ms, e1, rfl⟩ := Option.map_eq_some_iff.mp e
    rw [bls_vals h2 e1]
    rfl
  | .non :: _, _, _, _, _, e => by cases e
  | .int _ :: _, _, _, _, _, e => by cases e
  | .str _ :: _, _, _, _, _, e => by cases e
  | .lst _ _ :: _, _, _, _, _, e => by cases e
  | .tup _ _ :: _, _, _, _, _, e => by cases e
  | .ins _ _ _ _ :: _, _, _, _, _, e => by cases e
  | .exc _ _ _ _ :: _, _, _, _, _, e => by cases e
  | .bag :: _, _, _, _, _, e => by cases e
theorem Held.one_of {d : D} {us : List V} {F : List Addr} (h : Held tx P O H [d] b us H1 F) : ∃ u, us = [u] := by
  obtain ⟨v, vs', F1, F2, e, h1, ⟨h2, h3⟩, ef⟩ := h.rep
  subst h2
  exact ⟨v, e⟩
/-- the shape of what is asked of a built-in -/
def BltOk (tx : Tx) (X : Cx) (f : Str) (u : Value) : Prop := CallR X u (DnA tx fun ds => opt (bltD f ds))
/-- one argument -/
theorem blt1 {f : Str} {uv : Value} {r : List V → Hp → VK → Prop} (hc : CallR X uv r) (hone : ∀ ds d, bltD f ds = some d → ∃ x, ds = [x])
    (h : ∀ (P O : List Addr) (σ : L2.St) (env : Env) (b b2 : Bag) (H H2 : Hp) (x d : D) (u : V) (F : List Addr) (Q : VK), Pre tx P O σ env b H → Held tx P O H [x] b2 [u] H2 F → bltD f [x] = some d →
      (∀ z H3 F3, Held tx P O H [d] b2 [z] H3 F3 → Q z H3) → r [u] H2 Q) : BltOk tx X f uv := by
  intro pins s σ H2 xs us Q I rr hd
  obtain ⟨P, O, σ0, env, b, H, ds, b2, d, b', F, p, hh, e0, q⟩ := hd
  obtain ⟨e, eb⟩ := opt_some e0
  dsimp only at e eb
  subst eb
  obtain ⟨x, rfl⟩ := hone ds d e
  obtain ⟨u, rfl⟩ := hh.one_of
  exact hc pins s σ H2 [u] us Q I rr (h P O σ0 env b b' H H2 x d u F Q p hh e q)
theorem blt_len (hK : X.K = tx.K) : BltOk tx X "len" (.builtin "len") := by
  have key : ∀ ds, bltD "len" ds = (match ds with
    | [.lst _ xs] => some (.int xs.length)
    | [.tup _ xs] => some (.int xs.length)
    | [.str s] => if s.length ≤ sizeLine then some (.int s.length) else none
    | _ => none) := fun ds => by unfold bltD; rw [if_pos (by decide +kernel)] <;> rfl
  refine blt1 (call_len_seq.or call_len_str) (fun ds d e => ?_) fun P O σ env b b2 H H2 x d u F Q p hh e q => ?_
  · rw [key] at e
    split at e <;> first | exact ⟨_, rfl⟩ | cases e
  · rw [key] at e
    have r1 := hh.out1
    split at e
    · rename_i e1
      injection e1 with e1 _
      subst e1
      obtain ⟨a, vs, F', rfl, h1, h2, rfl⟩ := r1
      cases e
      refine .inl ⟨a, vs, rfl, .inl (SqL.of h1.at), ?_⟩
      rw [← h2.length]
      exact q _ _ _ (hh.flat (repInt _))
    · rename_i e1
      injection e1 with e1 _
      subst e1
      obtain ⟨a, vs, F', rfl, h1, h2, rfl⟩ := r1
      cases e
      refine .inl ⟨a, vs, rfl, .inr (by rw [hK]; exact h1.at), ?_⟩
      rw [← h2.length]
      exact q _ _ _ (hh.flat (repInt _))
    · rename_i e1
      injection e1 with e1 _
      subst e1
      obtain ⟨rfl, _⟩ := r1
      split at e
      · rename_i hz
        cases e
        exact .inr ⟨_, rfl, hz, q _ _ _ (hh.flat (repInt _))⟩
      · cases e
    · cases e
theorem blt_int : BltOk tx X "int" (.type "int") := by
  have key : ∀ ds, bltD "int" ds = (match ds with
    | [.int i] => some (.int i)
    | [.bl b] => some (.int (if b then 1 else 0))
    | _ => none) := fun ds => by unfold bltD; rw [if_neg (by decide +kernel), if_pos (by decide +kernel)] <;> rfl
  refine blt1 call_int1 (fun ds d e => ?_) fun P O σ env b b2 H H2 x d u F Q p hh e q => ?_
  · rw [key] at e
    split at e <;> first | exact ⟨_, rfl⟩ | cases e
  · rw [key] at e
    have r1 := hh.out1
    split at e
    · rename_i e1
      injection e1 with e1 _
      subst e1
      obtain ⟨rfl, _⟩ := r1
      cases e
      exact .inl ⟨_, rfl, q _ _ _ (hh.flat (repInt _))⟩
    · rename_i e1
      injection e1 with e1 _
      subst e1
      obtain ⟨rfl, _⟩ := r1
      cases e
      exact .inr ⟨_, rfl, q _ _ _ (hh.flat (repInt _))⟩
    · cases e
theorem blt_abs : BltOk tx X "abs" (.builtin "abs") := by
  have key : ∀ ds, bltD "abs" ds = (match ds with
    | [.int i] => some (.int (if i < 0 then -i else i))
    | _ => none) := fun ds => by unfold bltD; rw [if_neg (by decide +kernel), if_neg (by decide +kernel), if_pos (by decide +kernel)] <;> rfl
  refine blt1 call_abs (fun ds d e => ?_) fun P O σ env b b2 H H2 x d u F Q p hh e q => ?_
  · rw [key] at e
    split at e <;> first | exact ⟨_, rfl⟩ | cases e
  · rw [key] at e
    have r1 := hh.out1
    split at e
    · rename_i e1
      injection e1 with e1 _
      subst e1
      obtain ⟨rfl, _⟩ := r1
      cases e
      exact ⟨_, rfl, q _ _ _ (hh.flat (repInt _))⟩
    · cases e
theorem blt_list (hK : X.K = tx.K) : BltOk tx X "list" (.type "list") := by
  have key : ∀ ds, bltD "list" ds = (match ds with
    | [.lst _ xs] => some (.lst .own xs)
    | [.tup _ xs] => some (.lst .own xs)
    | _ => none) := fun ds => by unfold bltD; rw [if_neg (by decide +kernel), if_neg (by decide +kernel), if_neg (by decide +kernel), if_pos (by decide +kernel)] <;> rfl
  refine blt1 call_list_of (fun ds d e => ?_) fun P O σ env b b2 H H2 x d u F Q p hh e q => ?_
  · rw [key] at e
    split at e <;> first | exact ⟨_, rfl⟩ | cases e
  · rw [key] at e
    have r1 := hh.out1
    split at e
    · rename_i e1
      injection e1 with e1 _
      subst e1
      obtain ⟨a, vs, F', rfl, h1, h2, rfl⟩ := r1
      cases e
      exact ⟨a, vs, rfl, .inl (SqL.of h1.at), fun z hz => q _ _ _ (hh.laid p (List.sublist_append_right _ _) h2 hz fun H3 B G e r => ⟨z, _, _, rfl, e, r, rfl⟩)⟩
    · rename_i e1
      injection e1 with e1 _
      subst e1
      obtain ⟨a, vs, F', rfl, h1, h2, rfl⟩ := r1
      cases e
      exact ⟨a, vs, rfl, .inr (by rw [hK]; exact h1.at), fun z hz => q _ _ _ (hh.laid p (List.sublist_append_right _ _) h2 hz fun H3 B G e r => ⟨z, _, _, rfl, e, r, rfl⟩)⟩
    · cases e
theorem blt_tuple (hK : X.K = tx.K) : BltOk tx X "tuple" (.type "tuple") := by
  have key : ∀ ds, bltD "tuple" ds = (match ds with
    | [.lst _ xs] => some (.tup .own xs)
    | _ => none) := fun ds => by unfold bltD; rw [if_neg (by decide +kernel), if_neg (by decide +kernel), if_neg (by decide +kernel), if_neg (by decide +kernel), if_pos (by decide +kernel)] <;> rfl
  refine blt1 call_tuple_of (fun ds d e => ?_) fun P O σ env b b2 H H2 x d u F Q p hh e q => ?_
  · rw [key] at e
    split at e <;> first | exact ⟨_, rfl⟩ | cases e
  · rw [key] at e
    have r1 := hh.out1
    split at e
    · rename_i e1
      injection e1 with e1 _
      subst e1
      obtain ⟨a, vs, F', rfl, h1, h2, rfl⟩ := r1
      cases e
      exact ⟨a, vs, rfl, .inl ⟨SqL.of h1.at, fun z hz => q _ _ _ (hh.laid p (List.sublist_append_right _ _) h2 hz fun H3 B G e r => ⟨z, _, _, rfl, e, r, rfl⟩)⟩⟩
    · cases e
theorem blt_sum (hc : X.calm = true) : BltOk tx X "sum" (.builtin "sum") := by
  have key : ∀ ds, bltD "sum" ds = (match ds with
    | [.lst _ xs] => (D.ints xs).map fun ns => .int ns.sum
    | _ => none) := fun ds => by unfold bltD; rw [if_neg (by decide +kernel), if_neg (by decide +kernel), if_neg (by decide +kernel), if_neg (by decide +kernel), if_neg (by decide +kernel), if_pos (by decide +kernel)] <;> rfl
  refine blt1 (cr_sum hc) (fun ds d e => ?_) fun P O σ env b b2 H H2 x d u F Q p hh e q => ?_
  · rw [key] at e
    split at e <;> first | exact ⟨_, rfl⟩ | cases e
  · rw [key] at e
    have r1 := hh.out1
    split at e
    · rename_i e1
      injection e1 with e1 _
      subst e1
      obtain ⟨a, vs, F', rfl, h1, h2, rfl⟩ := r1
      obtain ⟨ns, e2, rfl⟩ := Option.map_eq_some_iff.mp e
      exact ⟨a, ns, rfl, SqL.of (by rw [← ints_vals h2 e2]; exact h1.at), q _ _ _ (hh.flat (repInt _))⟩
    · cases e
theorem blt_all (hc : X.calm = true) : BltOk tx X "all" (.builtin "all") := by
  have key : ∀ ds, bltD "all" ds = (match ds with
    | [.lst _ xs] => (D.bls xs).map fun ns => .bl (ns.all id)
    | _ => none) := fun ds => by unfold bltD; rw [if_neg (by decide +kernel), if_neg (by decide +kernel), if_neg (by decide +kernel), if_neg (by decide +kernel), if_neg (by decide +kernel), if_neg (by decide +kernel), if_pos (by decide +kernel)] <;> rfl
  refine blt1 (cr_all hc) (fun ds d e => ?_) fun P O σ env b b2 H H2 x d u F Q p hh e q => ?_
  · rw [key] at e
    split at e <;> first | exact ⟨_, rfl⟩ | cases e
  · rw [key] at e
    have r1 := hh.out1
    split at e
    · rename_i e1
      injection e1 with e1 _
      subst e1
      obtain ⟨a, vs, F', rfl, h1, h2, rfl⟩ := r1
      obtain ⟨ns, e2, rfl⟩ := Option.map_eq_some_iff.mp e
      exact ⟨a, ns, rfl, SqL.of (by rw [← bls_vals h2 e2]; exact h1.at), q _ _ _ (hh.flat (repBl _))⟩
    · cases e
theorem blt_any (hc : X.calm = true) : BltOk tx X "any" (.builtin "any") := by
  have key : ∀ ds, bltD "any" ds = (match ds with
    | [.lst _ xs] => (D.bls xs).map fun ns => .bl (ns.any id)
    | _ => none) := fun ds => by unfold bltD; rw [if_neg (by decide +kernel), if_neg (by decide +kernel), if_neg (by decide +kernel), if_neg (by decide +kernel), if_neg (by decide +kernel), if_neg (by decide +kernel), if_neg (by decide +kernel), if_pos (by decide +kernel)] <;> rfl
  refine blt1 (cr_any hc) (fun ds d e => ?_) fun P O σ env b b2 H H2 x d u F Q p hh e q => ?_
  · rw [key] at e
    split at e <;> first | exact ⟨_, rfl⟩ | cases e
  · rw [key] at e
    have r1 := hh.out1
    split at e
    · rename_i e1
      injection e1 with e1 _
      subst e1
      obtain ⟨a, vs, F', rfl, h1, h2, rfl⟩ := r1
      obtain ⟨ns, e2, rfl⟩ := Option.map_eq_some_iff.mp e
      exact ⟨a, ns, rfl, SqL.of (by rw [← bls_vals h2 e2]; exact h1.at), q _ _ _ (hh.flat (repBl _))⟩
    · cases e
/-- f(e, ..), f a built-in function | a built-in class -/
theorem s_bltB {x : Str} {id : String} {f : Str} {p pos : Pos} {e : Expr} {es : List Expr} {vs : Env → M (List D)} (hc : BltOk tx X f (.builtin id)) (hg : Gl X x) (hm : X.mg x = none) (hv : bootBuiltins x = some (.builtin id)) (ha : PA X (e :: es) (tEa tx vs))
    (hn : x ≠ "__name__") (hdb : (x == ("__debug__" : Str)) = false) (he : starEach (e :: es) X.env = (false, eval e X.env) :: starEach es X.env) (hpl : (backTo pos (starEach es X.env)).any (·.1) = false) :
    PE X (.Call (.Name x p) (e :: es) [] pos) (tEv tx fun env => bnd (vs env) fun ds => opt (bltD f ds)) :=
  PE.imp (pe_callB hc hg hm hv ha hn hdb he hpl) fun σ H Q h => rdA h
theorem s_bltT {x : Str} {T : String} {f : Str} {p pos : Pos} {e : Expr} {es : List Expr} {vs : Env → M (List D)} (hc : BltOk tx X f (.type T)) (hg : Gl X x) (hm : X.mg x = none) (hv : bootBuiltins x = some (.type T)) (ha : PA X (e :: es) (tEa tx vs))
    (hn : x ≠ "__name__") (hdb : (x == ("__debug__" : Str)) = false) (he : starEach (e :: es) X.env = (false, eval e X.env) :: starEach es X.env) (hpl : (backTo pos (starEach es X.env)).any (·.1) = false) :
    PE X (.Call (.Name x p) (e :: es) [] pos) (tEv tx fun env => bnd (vs env) fun ds => opt (bltD f ds)) :=
  PE.imp (pe_callTy hc hg hm hv ha hn hdb he hpl) fun σ H Q h => rdA h
end
end TI

set_option Elab.async false
set_option linter.all false
set_option maxRecDepth 100000
/-! own defs called: by name, classes, methods, properties, operators -/
namespace TI
open PySem PySem.Spec PyProof.Rows L2

/-! ### the text's forms -/
def noStar : Expr → Bool
  | .Starred _ _ => false
  | _ => true
theorem star_of {e : Expr} {es : List Expr} {env : PySem.Env} (h : noStar e = true) : starEach (e :: es) env = (false, eval e env) :: starEach es env := by
  cases e <;> first | rfl | cases h
def noSlice : Expr → Bool
  | .Slice _ _ _ _ => false
  | _ => true
theorem plain_of {e : Expr} (h : noSlice e = true) : PlainIx e := fun o i => by
  cases e <;> first | rfl | cases h
def noSuper : Expr → Bool
  | .Call (.Name id _) [] [] _ => id != "super"
  | _ => true
theorem attr_base {o : Expr} {m : Str} {env : PySem.Env} {w : Sem Value} (h : noSuper o = true) : attributeBase o m env w = w := by
  unfold attributeBase
  split
  · rename_i id p1 pos
    have h : (id != "super") = true := h
    rw [h, Bool.true_or, Bool.true_or, Bool.true_or, if_pos rfl]
  · rfl
theorem stars_any {es : List Expr} {env : PySem.Env} {pos : Pos} : (es.all noStar) = true → (backTo pos (starEach es env)).any (·.1) = false := by
  induction es with
  | nil => intro _; rfl
  | cons e es ih =>
    intro h
    rw [List.all_cons, Bool.and_eq_true] at h
    rw [star_of h.1]
    show (false || (backTo pos (starEach es env)).any (·.1)) = false
    rw [ih h.2]
    rfl
theorem stars_all {es : List Expr} {env : PySem.Env} {pos : Pos} : (es.all noStar) = true → (backTo pos (starEach es env)).all (!·.1) = true := by
  induction es with
  | nil => intro _; rfl
  | cons e es ih =>
    intro h
    rw [List.all_cons, Bool.and_eq_true] at h
    rw [star_of h.1]
    show (true && (backTo pos (starEach es env)).all (!·.1)) = true
    rw [ih h.2]
    rfl
/-- a method call on one line, of few arguments -/
theorem ht_of {o : Expr} {m : Str} {apos pos : Pos} {es : List Expr} {env : PySem.Env} (h1 : noSuper o = true) (h2 : (apos.endLine == pos.line) = true) (h3 : es.all noStar = true) (h4 : es.length < 29) :
    eval (.Call (.Attribute o m apos) es [] pos) env = (do
      let ov ← eval o env
      standAt apos.atName
      let (f, first) ← holding [ov] (getMethod ov m (plainOf o env))
      callWith pos f first (backTo pos (starEach es env)) (backToKw pos (keywordEach [] env))) := by
  rw [arm_eval_Call, attr_base h1]
  refine congrArg (fun k => eval o env >>= k) (funext fun ov => ?_)
  refine congrArg (fun k => standAt apos.atName >>= k) (funext fun _ => ?_)
  refine mcall_line ?_ h2
  unfold methodCallForm
  rw [stars_all h3]
  show (true && true && decide (es.length + 0 + 0 < 30)) = true
  rw [Bool.true_and, Bool.true_and]
  exact decide_eq_true (by omega)

/-! ### what the text's defs keep -/
/-- the def at a keeps what v says, by at most level k -/
structure FnA (tx : Tx) (X : Cx) (k : Nat) (sp : Sp) (a : Addr) (par : List Str := []) : Prop where
  ok : ∃ fd ps, FnOk X.prog X.w X.K X.mg X.base (L2.CX X.prog X.w) k a fd ps sp ∧ Binds X.K fd ps [] ∧
    ∀ (s : Shared) (x z : Str) (u w : Value), par = [x, z] → X.K.In s.heap → ps = [x, z] ∧ BindsTo s fd ⟨[u], [(z, w)]⟩ [(x, u), (z, w)]
/-- what of the text every class of ours has -/
structure ClsX (K : PySem.W.Frag) (C : Addr) : Prop where
  cl : Cls K C
  sf : PySem.W.selfFirst K C = true
  ob : PySem.W.mroIn K C (.type "object") = some true
/-- .. a class whose instances isinstance looks at -/
structure IsK (K : PySem.W.Frag) (C : Addr) : Prop where
  cl : Cls K C
  ha : PySem.W.findIn K (.ref C) "__class__" = some (some (.builtin "object.__class__"))
  hn : PySem.W.specialIn K (.builtin "object.__class__") "__get__" = some (some (.builtin "getset_descriptor.__get__"))
  ht : PySem.W.takesIn K (.builtin "object.__class__") = some true
  hm : PySem.W.mroIn K C (.type "object") = some true
/-- what of the text a class's attribute is -/
def AttOk (tx : Tx) (X : Cx) (P : Pg) (k : Nat) (cl : Str → List D → M D) (c m : Str) : Ma → Prop
  | .meth key => ∃ a, Meth X.K (tx.ca c) m a ∧ FnA tx X k (spK tx (cl key)) a (P.par key)
  | .prop key => ∃ p g, PropOf X.K (tx.ca c) m p g ∧ FnA tx X k (spK tx (cl key)) g
  | .stat key => ∃ (mc : Value) (p a : Addr) (rest : List Value), X.mg c = some (.ref (tx.ca c)) ∧ PySem.W.typeIn X.K (.ref (tx.ca c)) = some mc ∧ PySem.W.readsIn X.K (tx.ca c) mc = true ∧
      PySem.W.findCls X.K (.ref (tx.ca c)) mc m = some (.get (.builtin "staticmethod.__get__") (.ref p) .none (.ref (tx.ca c))) ∧ PySem.W.recIn X.K p "staticmethod" = some (.ref a :: rest) ∧
      PySem.W.specialIn X.K (.ref (tx.ca c)) "__getattribute__" = some (some (.builtin "type.__getattribute__")) ∧ PySem.W.keepIn X.K (.ref a) = true ∧ FnA tx X k (spK tx (cl key)) a
  | .fld => NoAttr X.K (tx.ca c) m
/-- the built-in names that the text does not bind -/
def bltNames : List Str := ["int", "bool", "str", "list", "tuple", "len", "abs", "sum", "all", "any", "range", "zip", "enumerate", "isinstance", "ValueError", "LookupError", "IndexError", "super"]
/-- what of the text an own error's class is -/
structure ExT (tx : Tx) (X : Cx) (P : Pg) (c : Str) (x : Exc) : Prop where
  mgc : X.mg c = some (.ref (tx.ca c))
  kp : PySem.W.keepIn X.K (.ref (tx.ca c)) = true
  make : TX.ExMk X.prog X.K X.mg X.base (tx.ca c) x.ps x.fl
  ga : PySem.W.findIn X.K (.ref (tx.ca c)) "__getattribute__" = some (some (.builtin "BaseException.__getattribute__"))
  gg : PySem.W.findIn X.K (.ref (tx.ca c)) "__getattr__" = some none
  sub : PySem.W.subIn X.K (.ref (tx.ca c)) (.type "BaseException") = some true
  hd : PySem.W.hasDictIn X.K (tx.ca c) = true
  fld : ∀ f, f ∈ x.fl.map (·.1) → PySem.W.findIn X.K (.ref (tx.ca c)) f = some none
  ha : PySem.W.findIn X.K (.ref (tx.ca c)) "__class__" = some (some (.builtin "object.__class__"))
  hn : PySem.W.specialIn X.K (.builtin "object.__class__") "__get__" = some (some (.builtin "getset_descriptor.__get__"))
  ht : PySem.W.takesIn X.K (.builtin "object.__class__") = some true
  hm : PySem.W.mroIn X.K (tx.ca c) (.type "object") = some true
  ks : ∀ t, t ∈ P.isc → PySem.W.kitOne X.K (.ref (tx.ca c)) (.ref (tx.ca t)) = some (x.mro.contains t)
  kb : ∀ t n, tyS t = some n → PySem.W.kitOne X.K (.ref (tx.ca c)) (.type n) = some (x.mro.contains t)
structure Fac (tx : Tx) (X : Cx) (P : Pg) (k : Nat) (cl : Str → List D → M D) : Prop where
  nb : ∀ x, x ∈ bltNames → X.mg x = none
  con : ∀ x d, P.con.lookup x = some d → ∃ v u, X.mg x = some u ∧ RelV v u ∧ ∀ H B G, Rep tx H B G d v []
  hK : X.K = tx.K
  room : Room (k + 2) X.A
  fn : ∀ f, f ∈ P.fns → ∃ a, X.mg f = some (.ref a) ∧ PySem.W.keepIn X.K (.ref a) = true ∧ FnA tx X k (spK tx (cl f)) a
  new : ∀ c, c ∈ P.cls → X.mg c = some (.ref (tx.ca c)) ∧ ∃ f, Mk X.K (tx.ca c) f ∧ FnA tx X k (spI tx c (cl c)) f
  cls : ∀ c m q, P.at c m = some q → ClsX X.K (tx.ca c) ∧ AttOk tx X P k cl c m q
  isc : ∀ t, t ∈ P.isc → X.mg t = some (.ref (tx.ca t)) ∧ (PySem.W.clsIn X.K (tx.ca t)).isSome = true ∧ PySem.W.typeIn X.K (.ref (tx.ca t)) = some (.type "type")
  mro : ∀ c l, P.mro.lookup c = some l → IsK X.K (tx.ca c) ∧ (∀ t, t ∈ P.isc → PySem.W.kitOne X.K (.ref (tx.ca c)) (.ref (tx.ca t)) = some (l.contains t)) ∧ ∀ t n, tyS t = some n → PySem.W.kitOne X.K (.ref (tx.ca c)) (.type n) = some false
  ne : ∀ c q, P.at c "__eq__" = some q → PySem.W.findIn X.K (.ref (tx.ca c)) "__ne__" = some (some (.builtin "object.__ne__"))
  exs : ∀ c x, P.exs.lookup c = some x → ExT tx X P c x
section
variable {tx : Tx} {X : Cx} {k : Nat} {P O : List Addr} {b : Bag} {H H1 : Hp} {pins : List (Addr × Obj)} {σ : L2.St} {s : Shared}
/-- a def's values handed in -/
theorem run_app (hr : Room k X.A) {sp : Sp} {a : Addr} {par : List Str} (F : FnA tx X k sp a par) {Q : VK} {us : List Value} {vs : List V} (I : Inv X pins σ H s) (r : Vals vs us)
    (h : sp vs H Q E0) : wpAny (model X.prog X.w) X.A (call (.ref a) us) (EP X pins σ Q) X.xe s := by
  obtain ⟨fd, ps, G, B, _⟩ := F.ok
  exact run_fn (dvs := []) (ds := []) G hr B .nil passL I r (by rw [List.append_nil]; exact h)
/-- .. one C call deeper; nothing is raised -/
theorem run_app1 (hr : Room (k + 1) X.A) {sp : Sp} {a : Addr} {par : List Str} (F : FnA tx X k sp a par) {Q : VK} {us : List Value} {vs : List V} {E' : Value → Shared → Prop} (I : Inv X pins σ H s) (r : Vals vs us)
    (h : sp vs H Q E0) : wpAny (model X.prog X.w) X.A.in1 (call (.ref a) us) (EP X pins σ Q) E' s := by
  obtain ⟨fd, ps, G, B, _⟩ := F.ok
  have hl : (us ++ []).length = ps.length := by rw [List.append_nil, ← r.length]; exact G.len _ _ _ _ h
  have hb := B s us I.kIn hl
  rw [List.append_nil] at hb
  refine wpAny_call (codeAny_mono (G.run X.A.in1 X.stack s H ⟨us, []⟩ us vs Q E0 hr.in1 I.env0.in1 hb r h) fun r s' hq => ?_)
  cases r with
  | error e => exact False.elim (passL (X := X.nox) pins σ H s e s' (I.wish _) hq)
  | ok fl =>
    cases fl with
    | ret u => exact I.after hq
    | next => exact False.elim hq
    | brk => exact False.elim hq
    | cont => exact False.elim hq
/-- .. two C calls deeper -/
theorem run_app2 (hr : Room (k + 2) X.A) {sp : Sp} {a : Addr} {par : List Str} (F : FnA tx X k sp a par) {Q : VK} {us : List Value} {vs : List V} {E' : Value → Shared → Prop} (I : Inv X pins σ H s) (r : Vals vs us)
    (h : sp vs H Q E0) : wpAny (model X.prog X.w) X.A.in1.in1 (call (.ref a) us) (EP X pins σ Q) E' s := by
  obtain ⟨fd, ps, G, B, _⟩ := F.ok
  have hl : (us ++ []).length = ps.length := by rw [List.append_nil, ← r.length]; exact G.len _ _ _ _ h
  have hb := B s us I.kIn hl
  rw [List.append_nil] at hb
  refine wpAny_call (codeAny_mono (G.run X.A.in1.in1 X.stack s H ⟨us, []⟩ us vs Q E0 hr.in1.in1 I.env0.in1.in1 hb r h) fun r s' hq => ?_)
  cases r with
  | error e => exact False.elim (passL (X := X.nox) pins σ H s e s' (I.wish _) hq)
  | ok fl =>
    cases fl with
    | ret u => exact I.after hq
    | next => exact False.elim hq
    | brk => exact False.elim hq
    | cont => exact False.elim hq
/-- .. the second by its name -/
theorem run_kw (hr : Room k X.A) {sp : Sp} {a : Addr} {x z : Str} (F : FnA tx X k sp a [x, z]) {Q : VK} {u w : Value} {v y : V} (I : Inv X pins σ H s) (r : RelV v u) (r2 : RelV y w)
    (h : sp [v, y] H Q E0) : wpAny (model X.prog X.w) X.A (call (.ref a) [u] [(z, w)]) (EP X pins σ Q) X.xe s := by
  obtain ⟨fd, ps, G, B, K1⟩ := F.ok
  obtain ⟨rfl, hb⟩ := K1 s x z u w rfl I.kIn
  refine wpAny_call (codeAny_mono (G.run X.A X.stack s H ⟨[u], [(z, w)]⟩ [u, w] [v, y] Q E0 hr I.env0 hb (.cons r (.cons r2 .nil)) h) fun r s' hq => ?_)
  cases r with
  | error e => exact passL pins σ H s e s' I hq
  | ok fl =>
    cases fl with
    | ret u => exact I.after hq
    | next => exact False.elim hq
    | brk => exact False.elim hq
    | cont => exact False.elim hq
theorem DnA.sp {cl : Str → List D → M D} {f : Str} {us : List V} {Q : VK} (h : DnA tx (fun ds => app cl f ds) us H Q) : spK tx (cl f) us H Q E0 := by
  obtain ⟨P, O, σ0, env, b, H, ds, b2, d, b', F, p, hh, e0, q⟩ := h
  exact app_sp p hh e0 q
theorem DnA.spI {cl : Str → List D → M D} {c : Str} {us : List V} {Q : VK} (h : DnA tx (fun ds => app cl c ds) us H Q) {x dx : Addr} (hx : H x = none) (hdx : H dx = none) (ne : dx ≠ x) :
    spI tx c (cl c) (.ref x :: us) (upd (upd H dx (.own x)) x (.ins (tx.ca c) dx [])) (fun v H2 => v = .non ∧ Q (.ref x) H2) E0 := by
  obtain ⟨P, O, σ0, env, b, H, ds, b2, d, b', F, p, hh, e0, q⟩ := h
  exact app_spI p hh e0 q hx hdx ne
theorem rd0 {m : M D} {σ : L2.St} {H : Hp} {Q : VK} {f : List D → M D} (hm : f [] = m) (h : tEv tx (fun _ => m) σ H Q) : DnA tx f [] H Q := by
  subst hm
  obtain ⟨P, O, env, b, d, b', p, e, q⟩ := h
  exact ⟨P, O, σ, env, b, H, [], b, d, b', [], p, Held.nil p, e, q⟩
/-- f(e, ..) -/
theorem s_call {cl : Str → List D → M D} {f : Str} {a : Addr} (hr : Room k X.A) (F : FnA tx X k (spK tx (cl f)) a) (hg : Gl X f) (hm : X.mg f = some (.ref a)) (hk : PySem.W.keepIn X.K (.ref a) = true) {p pos : Pos} {e : Expr} {es : List Expr} {vs : Env → M (List D)}
    (hs : (e :: es).all noStar = true) (hdb : (f == ("__debug__" : Str)) = false) (ha : PA X (e :: es) (tEa tx vs)) : PE X (.Call (.Name f p) (e :: es) [] pos) (tEv tx fun env => bnd (vs env) fun ds => app cl f ds) := by
  obtain ⟨fd, ps, G, B, _⟩ := F.ok
  rw [List.all_cons, Bool.and_eq_true] at hs
  refine PE.imp (pe_call (dvs := []) (ds := []) G hr hg hm hk B .nil passL ha hdb (star_of hs.1) (stars_any hs.2)) fun σ H Q h => ?_
  obtain ⟨P, O, env, b, ds, b1, p, e1, q⟩ := (rdA h : tEa tx vs σ H fun us H1 => DnA tx (fun ds => app cl f ds) us H1 Q)
  exact ⟨P, O, env, b, ds, b1, p, e1, fun us H' F h => by show spK tx (cl f) (us ++ []) H' Q E0; rw [List.append_nil]; exact (q us H' F h).sp⟩
theorem s_call0 {cl : Str → List D → M D} {f : Str} {a : Addr} (hr : Room k X.A) (F : FnA tx X k (spK tx (cl f)) a) (hg : Gl X f) (hm : X.mg f = some (.ref a)) (hk : PySem.W.keepIn X.K (.ref a) = true) {p pos : Pos}
    (hdb : (f == ("__debug__" : Str)) = false) : PE X (.Call (.Name f p) [] [] pos) (tEv tx fun _ => app cl f []) := by
  obtain ⟨fd, ps, G, B, _⟩ := F.ok
  exact PE.imp (pe_call0 (dvs := []) (ds := []) G hr hg hm hk B .nil passL hdb) fun σ H Q h => (rd0 (f := fun ds => app cl f ds) rfl h).sp
/-- C(e, ..) -/
theorem s_make {cl : Str → List D → M D} {c : Str} {f : Addr} (hr : Room (k + 1) X.A) (M0 : Mk X.K (tx.ca c) f) (F : FnA tx X k (spI tx c (cl c)) f) (hg : Gl X c) (hm : X.mg c = some (.ref (tx.ca c))) {p pos : Pos} {e : Expr} {es : List Expr} {vs : Env → M (List D)}
    (hs : (e :: es).all noStar = true) (hdb : (c == ("__debug__" : Str)) = false) (ha : PA X (e :: es) (tEa tx vs)) : PE X (.Call (.Name c p) (e :: es) [] pos) (tEv tx fun env => bnd (vs env) fun ds => app cl c ds) := by
  obtain ⟨fd, ps, G, B, _⟩ := F.ok
  rw [List.all_cons, Bool.and_eq_true] at hs
  refine PE.imp (pe_make (dvs := []) (ds := []) M0 G hr hg hm B .nil passL ha hdb (star_of hs.1) (stars_any hs.2)) fun σ H Q h => ?_
  obtain ⟨P, O, env, b, ds, b1, p, e1, q⟩ := (rdA h : tEa tx vs σ H fun us H1 => DnA tx (fun ds => app cl c ds) us H1 Q)
  exact ⟨P, O, env, b, ds, b1, p, e1, fun us H' F h x dx hx hdx ne => by rw [List.append_nil]; exact (q us H' F h).spI hx hdx ne⟩
theorem s_make0 {cl : Str → List D → M D} {c : Str} {f : Addr} (hr : Room (k + 1) X.A) (M0 : Mk X.K (tx.ca c) f) (F : FnA tx X k (spI tx c (cl c)) f) (hg : Gl X c) (hm : X.mg c = some (.ref (tx.ca c))) {p pos : Pos}
    (hdb : (c == ("__debug__" : Str)) = false) : PE X (.Call (.Name c p) [] [] pos) (tEv tx fun _ => app cl c []) := by
  obtain ⟨fd, ps, G, B, _⟩ := F.ok
  exact PE.imp (pe_make0 (dvs := []) (ds := []) M0 G hr hg hm B .nil passL hdb) fun σ H Q h x dx hx hdx ne => (rd0 (f := fun ds => app cl c ds) rfl h).spI hx hdx ne

/-! ### instances -/
theorem zip_none {m : Str} : ∀ {ns : List Str} {vs : List V}, m ∉ ns → (ns.zip vs).lookup m = none
  | [], _, _ => by simp
  | n :: ns, [], _ => by simp
  | n :: ns, v :: vs, h => by
    have h1 : m ≠ n := fun z => h (z ▸ List.mem_cons_self)
    have h2 : m ∉ ns := fun z => h (List.mem_cons_of_mem _ z)
    rw [List.zip_cons_cons, List.lookup_cons, beq_eq_false_iff_ne.mpr h1]
    exact zip_none h2
theorem fld_get {H B G : Hp} {f : Str} {d : D} : ∀ {ns : List Str} {xs : List D} {vs : List V} {F : List Addr}, Reps tx H B G xs vs F → fldOf ns xs f = some d → ∃ v F', (ns.zip vs).lookup f = some v ∧ Rep tx H B G d v F' ∧ F'.Sublist F
  | [], _, _, _, _, e => by cases e
  | n :: ns, [], _, _, _, e => by cases e
  | n :: ns, x :: xs, vs, F, h, e => by
    obtain ⟨v, vs', F1, F2, rfl, h1, h2, rfl⟩ := h
    unfold fldOf at e
    rw [List.zip_cons_cons, List.lookup_cons]
    split at e
    · rename_i z
      subst z
      cases e
      rw [beq_self_eq_true]
      exact ⟨v, F1, rfl, h1, List.sublist_append_left _ _⟩
    · rename_i z
      rw [beq_eq_false_iff_ne.mpr z]
      obtain ⟨w, F', e1, r, s⟩ := fld_get h2 e
      exact ⟨w, F', e1, r, s.trans (List.sublist_append_right _ _)⟩
theorem Rep.inst {H : Hp} {Bo Go : List Addr} {fl : Fl} {c : Str} {ns : List Str} {xs : List D} {v : V} {F : List Addr} (r : Rep tx H (off Bo H) (off Go H) (.ins fl c ns xs) v F) :
    ∃ a dx vs F', v = .ref a ∧ H a = some (.ins (tx.ca c) dx (ns.zip vs)) ∧ ns.length = vs.length ∧ Reps tx H (off Bo H) (off Go H) xs vs F' ∧ F'.Sublist F := by
  obtain ⟨a, dx, vs, F', e, h1, hl, h2, rfl⟩ := r
  exact ⟨a, dx, vs, F', e, h1.at, hl, h2, List.sublist_append_right _ _⟩
theorem Rep.err {H : Hp} {Bo Go : List Addr} {fl : Fl} {c : Str} {ns : List Str} {xs : List D} {v : V} {F : List Addr} (r : Rep tx H (off Bo H) (off Go H) (.exc fl c ns xs) v F) :
    ∃ a dx vs F', v = .ref a ∧ H a = some (exo a (tx.ca c) (some dx)) ∧ H dx = some (exd dx (ns.zip vs)) ∧ ns.length = vs.length ∧ Reps tx H (off Bo H) (off Go H) xs vs F' ∧ F'.Sublist F := by
  obtain ⟨a, dx, vs, F', e, h1, hl, h2, rfl⟩ := r
  exact ⟨a, dx, vs, F', e, h1.at.1, h1.at.2, hl, h2, List.sublist_append_right _ _⟩
theorem methM_some {P : Pg} {cl : Str → List D → M D} {x : D} {m : Str} {as : M (List D)} {b : Bag} {r : D × Bag} (h : methM P cl x m as b = some r) :
    ∃ f c ns xs key, x = .ins f c ns xs ∧ P.at c m = some (.meth key) ∧ m ∉ ns ∧ (bnd as fun ds => app cl key (.ins f c ns xs :: ds)) b = some r := by
  cases x with
  | ins f c ns xs =>
    unfold methM at h
    dsimp only at h
    cases hat : P.at c m with
    | none => rw [hat] at h; cases h
    | some q =>
      rw [hat] at h
      cases q with
      | meth key =>
        dsimp only at h
        by_cases hn : m ∈ ns
        · rw [if_pos hn] at h; cases h
        · rw [if_neg hn] at h
          exact ⟨f, c, ns, xs, key, rfl, hat, hn, h⟩
      | prop _ => cases h
      | stat _ => cases h
      | fld => cases h
  | _ => cases h
theorem attrM_some {P : Pg} {cl : Str → List D → M D} {x : D} {m : Str} {b : Bag} {r : D × Bag} (h : attrM P cl x m b = some r) :
    (∃ f c ns xs, x = .ins f c ns xs ∧ ((∃ key, P.at c m = some (.prop key) ∧ app cl key [.ins f c ns xs] b = some r) ∨ (P.at c m = some .fld ∧ fldOf ns xs m = some r.1 ∧ r.2 = b))) ∨
      ∃ f c ns xs y, x = .exc f c ns xs ∧ P.exs.lookup c = some y ∧ m ∈ y.fl.map (·.1) ∧ fldOf ns xs m = some r.1 ∧ r.2 = b := by
  cases x with
  | exc f c ns xs =>
    unfold attrM at h
    dsimp only at h
    cases hat : P.exs.lookup c with
    | none => rw [hat] at h; cases h
    | some y =>
      rw [hat] at h
      dsimp only at h
      split at h
      · rename_i hm
        exact .inr ⟨f, c, ns, xs, y, rfl, hat, hm, opt_some h⟩
      · cases h
  | ins f c ns xs =>
    unfold attrM at h
    dsimp only at h
    cases hat : P.at c m with
    | none => rw [hat] at h; cases h
    | some q =>
      rw [hat] at h
      cases q with
      | meth key => cases h
      | prop key => exact .inl ⟨f, c, ns, xs, rfl, .inl ⟨key, hat, h⟩⟩
      | stat _ => cases h
      | fld => exact .inl ⟨f, c, ns, xs, rfl, .inr ⟨hat, opt_some h⟩⟩
  | _ => cases h
variable {P0 : Pg} {cl : Str → List D → M D}
/-- o.m() -/
theorem s_meth0 (Fc : Fac tx X P0 k cl) {o : Expr} {m : Str} {apos pos : Pos} {va : Env → M D} (ho : PE X o (tEv tx va)) (h1 : noSuper o = true) (h2 : (apos.endLine == pos.line) = true) :
    PE X (.Call (.Attribute o m apos) [] [] pos) (tEv tx fun env => bnd (va env) fun x => methM P0 cl x m (ret [])) := by
  refine ⟨fun pins s σ H Q I h => ?_⟩
  refine PySem.W.methodCall_KW (pl := plainOf o X.env) (thn (ho.run pins s σ H _ I (rd1 h)) fun u s1 ⟨x, H1, I1, rx, q1⟩ => ?_) (ht_of (es := []) h1 h2 rfl (by decide))
  obtain ⟨P, O, σ0, env, b, H0, x0, b2, d, b', F, p, hh, e, q⟩ := q1
  obtain ⟨fl, c, ns, xs, key, rfl, hat, hn, e9⟩ := methM_some e
  obtain ⟨a, dx, vs, F', rfl, ea, hl, hr, hs⟩ := hh.out1.inst
  obtain rfl : u = Value.ref a := rx
  obtain ⟨cx, g, hm, Fn⟩ := Fc.cls _ _ _ hat
  refine getmeth_ok I1 ea cx.cl hm (zip_none hn) ?_
  refine PySem.W.callWith_K0 (first := [.ref a]) I1.kIn hm.kp (run_app (us := [.ref a]) (vs := [.ref a]) (Fc.room.mono (by omega)) Fn I1 (.cons rfl .nil) ?_)
  exact app_sp p hh e9 q
/-- o.m(e, ..) -/
theorem s_meth (Fc : Fac tx X P0 k cl) {o e : Expr} {m : Str} {apos pos : Pos} {es : List Expr} {va : Env → M D} {vs : Env → M (List D)} (ho : PE X o (tEv tx va)) (ha : PA X (e :: es) (tEa tx vs)) (h1 : noSuper o = true) (h2 : (apos.endLine == pos.line) = true)
    (h3 : (e :: es).all noStar = true) (h4 : (e :: es).length < 29) :
    PE X (.Call (.Attribute o m apos) (e :: es) [] pos) (tEv tx fun env => bnd (va env) fun x => methM P0 cl x m (vs env)) := by
  refine ⟨fun pins s σ H Q I h => ?_⟩
  obtain ⟨P, O, env, b, d, b', p, e0, q⟩ := h
  obtain ⟨x, b1, e1, e2⟩ := bnd_some e0
  have h3' := h3
  rw [List.all_cons, Bool.and_eq_true] at h3'
  refine PySem.W.methodCall_KW (pl := plainOf o X.env) (thn (ho.run pins s σ H (fun u H1 => ∃ F, Held tx P O H [x] b1 [u] H1 F) I ⟨P, O, env, b, x, b1, p, e1, fun u H1 F1 h1 => ⟨F1, h1⟩⟩) fun u s1 ⟨x0, H1, I1, rx, F1, hh⟩ => ?_) (ht_of h1 h2 h3 h4)
  obtain ⟨fl, c, ns, xs, key, rfl, hat, hn, e9⟩ := methM_some e2
  obtain ⟨ds, b2, e3, e4⟩ := bnd_some e9
  obtain ⟨a, dx, vs', F', rfl, ea, hl, hr, hs⟩ := hh.out1.inst
  obtain rfl : u = Value.ref a := rx
  obtain ⟨cx, g, hm, Fn⟩ := Fc.cls _ _ _ hat
  refine getmeth_ok I1 ea cx.cl hm (zip_none hn) ?_
  refine PySem.W.callWith_K (first := [.ref a]) (h₀ := X.base) I.ok.mod.kin hm.kp (thn (ha.run pos pins s1 σ H1 (fun us H2 => ∃ F2, Held tx (P ++ F1) (O ++ F1) H1 ds b2 us H2 F2) I1 ⟨_, _, env, b1, ds, b2, p.held hh, e3, fun us H2 F2 h2 => ⟨F2, h2⟩⟩) fun us s2 ⟨zs, H2, I2, r, F2, hh2⟩ => ⟨I2.kIn, ?_⟩) (star_of h3'.1) (stars_any h3'.2)
  exact run_app (us := .ref a :: us) (vs := .ref a :: zs) (Fc.room.mono (by omega)) Fn I2 (.cons rfl r) (app_sp p (Held.app p hh hh2) e4 q)
/-- o.f: a property | a field -/
theorem s_attr (Fc : Fac tx X P0 k cl) {o : Expr} {f : Str} {pos : Pos} {va : Env → M D} (ho : PE X o (tEv tx va)) (h1 : noSuper o = true) : PE X (.Attribute o f pos) (tEv tx fun env => bnd (va env) fun x => attrM P0 cl x f) := by
  refine ⟨fun pins s σ H Q I h => ?_⟩
  refine attr_of (attr_base h1) (thn (ho.run pins s σ H _ I (rd1 h)) fun u s1 ⟨x, H1, I1, rx, q1⟩ => ?_)
  obtain ⟨P, O, σ0, env, b, H0, x0, b2, d, b', F, p, hh, e, q⟩ := q1
  rcases attrM_some e with ⟨fl, c, ns, xs, rfl, e9⟩ | ⟨fl, c, ns, xs, y, rfl, hy, hm, e1, eb⟩
  rotate_left
  · obtain ⟨a, dx, vs, F', rfl, ea, ed, hl, hr, hs⟩ := hh.out1.err
    obtain rfl : u = Value.ref a := rx
    have T := Fc.exs c y hy
    obtain ⟨t1, ho⟩ := exo_at I1.hok ea
    obtain ⟨mA, hns, rel⟩ := exd_at I1.hok ed
    obtain ⟨od, hod, hlk⟩ := lookIn_ns hns
    dsimp only at e1 eb
    subst eb
    obtain ⟨v, F2, l, r, s2⟩ := fld_get hr e1
    obtain ⟨uu, hu, ru⟩ := RelO.some_of (v := v) (o := mA f) (by rw [← l]; exact rel f)
    exact HandSPX.exc_get I1.kIn ⟨ho, rfl, rfl, hod⟩ T.ga T.gg T.sub (PySem.W.findObj_own T.hd (T.fld f hm) rfl (by rw [hlk, hu])) (handed_of ru) ⟨v, H1, I1.tok _, ru, q _ _ _ (hh.less (s2.trans hs) (Reps.one r))⟩
  obtain ⟨a, dx, vs, F', rfl, ea, hl, hr, hs⟩ := hh.out1.inst
  obtain rfl : u = Value.ref a := rx
  rcases e9 with ⟨key, hat, e3⟩ | ⟨hat, e1, eb⟩
  · obtain ⟨cx, pa, g, hp, Fn⟩ := Fc.cls _ _ _ hat
    obtain ⟨fd, ps, G, B, _⟩ := Fn.ok
    exact getprop_ok (dvs := []) (ds := []) I1 ea cx.cl hp G (Fc.room.mono (by omega)) B .nil passL (app_sp p hh e3 q)
  · obtain ⟨cx, hn⟩ := Fc.cls _ _ _ hat
    dsimp only at e1 eb
    subst eb
    obtain ⟨v, F2, l, r, s2⟩ := fld_get hr e1
    exact getattr_ok I1 ea cx.cl hn l fun u' s2' I2 ru => ⟨v, H1, I2, ru, q _ _ _ (hh.less (s2.trans hs) (Reps.one r))⟩
/-- C.m(e, ..), a static method -/
theorem s_scall (Fc : Fac tx X P0 k cl) {c m : Str} {p1 apos pos : Pos} {e : Expr} {es : List Expr} {vs : Env → M (List D)} (ha : PA X (e :: es) (tEa tx vs)) (hg : Gl X c) (hdb : (c == ("__debug__" : Str)) = false) (h1 : noSuper (.Name c p1) = true) (h2 : (apos.endLine == pos.line) = true)
    (h3 : (e :: es).all noStar = true) (h4 : (e :: es).length < 29) {key : Str} (hat : P0.at c m = some (.stat key)) :
    PE X (.Call (.Attribute (.Name c p1) m apos) (e :: es) [] pos) (tEv tx fun env => bnd (vs env) fun ds => app cl key ds) := by
  refine ⟨fun pins s σ H Q I h => ?_⟩
  have h3' := h3
  rw [List.all_cons, Bool.and_eq_true] at h3'
  obtain ⟨cx, mc, pp, a, rest, hmg, hT, hR, hF, hrec, hga, hkp, Fn⟩ := Fc.cls _ _ _ hat
  refine PySem.W.methodCall_KW (pl := plainOf (.Name c p1) X.env) (ld_glob I hg hmg ?_ hdb) (ht_of h1 h2 h3 h4)
  obtain ⟨m0, F0⟩ := I.fr
  refine PySem.W.method_of_cls F0 I.mod.kin hga (PySem.W.cls_sm F0 I.mod.kin hT hR hF hrec rfl ?_)
  refine PySem.W.callWith_K (first := []) (h₀ := X.base) I.ok.mod.kin hkp (thn (ha.run pos pins _ σ H _ (I.tok _) (rdA h)) fun us s2 ⟨zs, H2, I2, r, q2⟩ => ⟨I2.kIn, ?_⟩) (star_of h3'.1) (stars_any h3'.2)
  exact run_app (us := us) (vs := zs) (Fc.room.mono (by omega)) Fn I2 r q2.sp
end
end TI

set_option Elab.async false
set_option linter.all false
set_option maxRecDepth 100000
set_option maxHeartbeats 1000000
/-! own errors made as values -/
namespace TI
open PySem PySem.Spec PyProof.Rows L2

section
variable {tx : Tx}
theorem lookup_rep {H B G : Hp} {y : Str} : ∀ {ps : List Str} {ds : List D} {vs : List V}, Reps tx H B G ds vs [] →
    Rep tx H B G (((ps.zip ds).lookup y).getD .non) (((ps.zip vs).lookup y).getD .non) []
  | [], _, _, _ => by simp only [List.zip_nil_left, List.lookup_nil]; exact ⟨rfl, rfl⟩
  | p :: ps, [], vs, h => by
    obtain ⟨h, _⟩ := h
    subst h
    simp only [List.zip_nil_right, List.lookup_nil]
    exact ⟨rfl, rfl⟩
  | p :: ps, d :: ds, vs, h => by
    obtain ⟨v, vs', F1, F2, rfl, h1, h2, e⟩ := h
    obtain ⟨e1, e2⟩ := List.append_eq_nil_iff.mp e.symm
    subst e1; subst e2
    simp only [List.zip_cons_cons, List.lookup_cons]
    cases y == p with
    | true => exact h1
    | false => exact lookup_rep h2
theorem putD_rep {H B G : Hp} {ps : List Str} {ds : List D} {vs : List V} (R : Reps tx H B G ds vs []) : ∀ (fl : List (Str × Src)) (fs : List (Str × D)) (gs : List (Str × V)), fs.map (·.1) = gs.map (·.1) → Reps tx H B G (fs.map (·.2)) (gs.map (·.2)) [] →
    (putD (ps.zip ds) fl fs).map (·.1) = (TX.putF (fun y => (ps.zip vs).lookup y) fl gs).map (·.1) ∧ Reps tx H B G ((putD (ps.zip ds) fl fs).map (·.2)) ((TX.putF (fun y => (ps.zip vs).lookup y) fl gs).map (·.2)) []
  | [], fs, gs, h1, h2 => ⟨h1, h2⟩
  | (f, .str z) :: r, fs, gs, h1, h2 => putD_rep R r ((f, .str z) :: fs) ((f, .str z) :: gs) (by rw [List.map_cons, List.map_cons, h1]) ⟨.str z, _, [], [], rfl, ⟨rfl, rfl⟩, h2, rfl⟩
  | (f, .par y) :: r, fs, gs, h1, h2 => putD_rep R r _ ((f, ((ps.zip vs).lookup y).getD .non) :: gs) (by rw [List.map_cons, List.map_cons, h1]) ⟨_, _, [], [], rfl, lookup_rep R, h2, rfl⟩
theorem zip_maps {α β : Type} : ∀ l : List (α × β), (l.map (·.1)).zip (l.map (·.2)) = l
  | [] => rfl
  | (a, b) :: l => by rw [List.map_cons, List.map_cons, List.zip_cons_cons, zip_maps l]
variable {X : Cx} {pins : List (Addr × Obj)} {σ : L2.St} {H : Hp} {s : Shared}
/-- an error laid, with its dict -/
theorem err_laid {h' : Heap} {t' : Nat} {a dx C tt : Addr} {mA : Str → Option Value} {fs : List (Str × V)} (I : Inv X pins σ H s) (k : ∀ b o, s.heap.get? b = some o → h'.get? b = some o) (ha : s.heap.get? a = none) (hd : s.heap.get? dx = none) (ne : dx ≠ a)
    (hget : h'.get? a = some (PySem.W.excObj C tt (some dx) .none)) (hn : h'.Ns1 dx mA) (rel : ∀ g, RelO (fs.lookup g) (mA g)) : Inv X pins σ (upd (upd H dx (exd dx fs)) a (exo a C (some dx))) { s with heap := h', toks := t' } := by
  have na := I.hok.gone ha
  have nd := I.hok.gone hd
  have nb : ∀ {b c : Addr} {o : Obj}, s.heap.get? c = none → s.heap.get? b = some o → b ≠ c := fun {b c o} e q z => by rw [z, e] at q; cases q
  have up : ∀ {b : Addr} {o : HO}, H b = some o → upd (upd H dx (exd dx fs)) a (exo a C (some dx)) b = some o := fun {b o} q => by
    rw [upd_ne (ne_of_none q na), upd_ne (ne_of_none q nd)]; exact q
  refine I.un (t' := t') ⟨fun b o q n _ _ => k b o q, fun b o q n _ _ => ⟨o.slots, k b o q⟩, fun b o q n _ => ?_, fun b o q _ => ⟨o, k b o q⟩, fun b xs q => up q, fun b o v q => up q, fun b ps q => ⟨#[], by rw [up q]; simp⟩⟩ fun b o q => ?_
  · rw [upd_ne (nb ha q), upd_ne (nb hd q)]; exact n
  · by_cases hb : b = a
    · subst hb
      rw [upd_same] at q
      cases q
      exact exo_ok hget
    · rw [upd_ne hb] at q
      by_cases hbd : b = dx
      · subst hbd
        rw [upd_same] at q
        cases q
        exact exd_ok hn rel
      · rw [upd_ne hbd] at q
        exact (I.hok b o q).stay (fun c v hc z => k c v z) (fun c hc => up hc) (fun c xs hc => up hc)
variable {P0 : Pg} {k : Nat} {cl : Str → List D → M D}
theorem run_err (Fc : Fac tx X P0 k cl) {c : Str} {rest us : List Value} {kw : List (Str × Value)} {vs : List V} {Q : VK} {y : Exc} (hy : P0.exs.lookup c = some y) (I : Inv X pins σ H s) (r : Vals vs us) (h : spK tx (fun ds => opt (excD P0 c ds)) vs H Q E0)
    (hk : (kw = [] ∧ rest = us) ∨ ∃ z v, y.ps = [z] ∧ rest = [] ∧ kw = [(z, v)] ∧ us = [v]) : wpAny (model X.prog X.w) X.A (call (.ref (tx.ca c)) rest kw) (EP X pins σ Q) X.xe s := by
  obtain ⟨Pc, b, ds, d, b', h1, h2, h3, h4, h5, q⟩ := h
  obtain ⟨e1, eb⟩ := opt_some h5
  dsimp only at e1 eb
  subst eb
  unfold excD at e1
  rw [hy, Option.bind_some] at e1
  split at e1
  · rename_i hl
    cases e1
    have T := Fc.exs c y hy
    have hus : us.length = y.ps.length := by rw [hl, h4.length, r.length]
    obtain ⟨hp, g, dr, tk, os⟩ := s
    refine T.make X.w X.A X.xe (EP X pins σ Q) hp g dr tk os vs us rest kw I.kIn I.mod I.bk ?_ r hus hk fun h' tk' a dx tt' mA kk ha hget hn hd ne rel => ?_
    · have := Fc.room.dp
      omega
    · have na := I.hok.gone ha
      have nd := I.hok.gone hd
      have nd2 : upd H dx (exd dx (TX.putF (fun y_1 => List.lookup y_1 (y.ps.zip vs)) y.fl [])) a = none := by rw [upd_ne (Ne.symm ne)]; exact na
      have hI := err_laid (t' := tk') I kk ha hd ne hget hn rel
      have exB : ExB tx.β H (upd (upd H dx (exd dx (TX.putF (fun y_1 => List.lookup y_1 (y.ps.zip vs)) y.fl []))) a (exo a (tx.ca c) (some dx))) := (ExB.new nd).trans (ExB.new nd2)
      have nP : ∀ {b : Addr}, H b = none → b ∉ Pc ++ [] := fun {b} hb z => by
        rw [List.append_nil] at z
        exact h2 b z hb
      have gr : Ex (off Pc H) (off (Pc ++ []) (upd (upd H dx (exd dx (TX.putF (fun y_1 => List.lookup y_1 (y.ps.zip vs)) y.fl []))) a (exo a (tx.ca c) (some dx)))) := off_ex (fun b hb _ => by rw [List.append_nil] at hb; exact hb) fun b o _ ho => by
        rw [upd_ne (ne_of_none ho na), upd_ne (ne_of_none ho nd)]; exact ho
      obtain ⟨q1, q2⟩ := putD_rep (ps := y.ps) (h4.mono gr gr (fun a z => by cases z)) y.fl [] [] rfl ⟨rfl, rfl⟩
      refine ⟨.ref a, _, hI, rfl, q _ _ [] ⟨fun a z => (by cases z), List.nodup_nil, exB, Reps.one ⟨a, dx, _, [], rfl, ?_, ?_, q2, rfl⟩, (h3.new nd).new nd2⟩⟩
      · rw [q1, zip_maps]
        exact ⟨off_some.mpr ⟨nP na, upd_same⟩, off_some.mpr ⟨nP nd, by rw [upd_ne ne, upd_same]⟩⟩
      · rw [q1, List.length_map, List.length_map]
  · cases e1
end
section
variable {tx : Tx} {X : Cx} {P0 : Pg} {k : Nat} {cl : Str → List D → M D}
/-- C(e, ..) -/
theorem s_err (Fc : Fac tx X P0 k cl) {c : Str} {y : Exc} (hy : P0.exs.lookup c = some y) (hg : Gl X c) {p pos : Pos} {e : Expr} {es : List Expr} {vs : Env → M (List D)}
    (hs : (e :: es).all noStar = true) (hdb : (c == ("__debug__" : Str)) = false) (ha : PA X (e :: es) (tEa tx vs)) : PE X (.Call (.Name c p) (e :: es) [] pos) (tEv tx fun env => bnd (vs env) fun ds => excM P0 c ds) := by
  rw [List.all_cons, Bool.and_eq_true] at hs
  have T := Fc.exs c y hy
  refine ⟨fun pins s σ H Q I h => ?_⟩
  refine wpAny_Call_Name_kw (ld_glob I hg T.mgc ?_ hdb)
  refine PySem.W.callWith_K (h₀ := X.base) I.ok.mod.kin T.kp (thn (ha.run pos pins s σ H (fun us H1 => DnA tx (fun ds => excM P0 c ds) us H1 Q) I (rdA h)) fun us s1 ⟨vs, H1, I1, r1, hd⟩ => ⟨I1.kIn, ?_⟩) (star_of hs.1) (stars_any hs.2)
  obtain ⟨P, O, σ0, env, b, H0, ds, b2, d, b', F, p0, hh, e0, q⟩ := hd
  exact run_err Fc hy I1 r1 (app_sp (cl := fun c ds => opt (excD P0 c ds)) (key := c) p0 hh e0 q) (.inl ⟨rfl, rfl⟩)
/-- C() -/
theorem s_err0 (Fc : Fac tx X P0 k cl) {c : Str} {y : Exc} (hy : P0.exs.lookup c = some y) (hg : Gl X c) {p pos : Pos} (hdb : (c == ("__debug__" : Str)) = false) : PE X (.Call (.Name c p) [] [] pos) (tEv tx fun _ => excM P0 c []) := by
  have T := Fc.exs c y hy
  refine ⟨fun pins s σ H Q I h => ?_⟩
  refine wpAny_Call_Name_kw (ld_glob I hg T.mgc ?_ hdb)
  obtain ⟨P, O, σ0, env, b, H0, ds, b2, d, b', F, p0, hh, e0, q⟩ := (rd0 (f := fun ds => excM P0 c ds) rfl h)
  exact PySem.W.callWith_K0 I.kIn T.kp (run_err (us := []) (vs := []) Fc hy I .nil (app_sp (cl := fun c ds => opt (excD P0 c ds)) (key := c) p0 hh e0 q) (.inl ⟨rfl, rfl⟩))
/-- C(k = e) -/
theorem s_errK (Fc : Fac tx X P0 k cl) {c z : Str} {y : Exc} (hy : P0.exs.lookup c = some y) (hg : Gl X c) {p pos kpos : Pos} {e : Expr} {ve : Env → M D}
    (hdb : (c == ("__debug__" : Str)) = false) (he : PE X e (tEv tx ve)) : PE X (.Call (.Name c p) [] [⟨some z, e, kpos⟩] pos) (tEv tx fun env => bnd (ve env) fun d => excK P0 c z d) := by
  have T := Fc.exs c y hy
  refine ⟨fun pins s σ H Q I h => ?_⟩
  obtain ⟨P, O, env, b, d, b', p0, e0, q⟩ := h
  obtain ⟨x, b1, e1, e2⟩ := bnd_some e0
  unfold excK at e2
  split at e2
  · rename_i hps
    rw [hy, Option.map_some] at hps
    have hps := Option.some.inj hps
    refine wpAny_Call_Name_kw (ld_glob I hg T.mgc ?_ hdb)
    refine PySem.W.callWith_KW0 (first := []) (h₀ := X.base) I.ok.mod.kin T.kp rfl (thn ((pk_cons (nm := some z) (kpos := kpos) he pk_nil).run pos pins s σ H (fun us H2 => ∃ F2 w, us = [w] ∧ Held tx P O H [x] b1 [w] H2 F2) I ⟨_, _, env, b, x, b1, p0, e1, fun w H2 F2 h2 => ⟨F2, w, rfl, h2⟩⟩) fun us s2 ⟨zs, H2, I2, r, F2, w, ew, hh2⟩ => ⟨I2.kIn, ?_⟩)
    subst ew
    obtain ⟨u2, rfl, r2⟩ := r.one
    exact run_err (us := [u2]) (vs := [w]) Fc hy I2 (.cons r2 .nil) (app_sp (cl := fun c ds => opt (excD P0 c ds)) (key := c) p0 hh2 e2 q) (.inr ⟨z, u2, hps, rfl, rfl, rfl⟩)
  · cases e2
end
end TI

set_option Elab.async false
set_option linter.all false
set_option maxRecDepth 100000
/-! own operators; tests; and, or, not, if; comparisons -/
namespace TI
open PySem PySem.Spec PyProof.Rows L2

section
variable {tx : Tx} {X : Cx} {k : Nat} {P0 : Pg} {cl : Str → List D → M D}
theorem Held.out2' {P O : List Addr} {b : Bag} {H H1 : Hp} {d d' : D} {u w : V} {F : List Addr} (h : Held tx P O H [d, d'] b [u, w] H1 F) :
    ∃ F1 F2, Rep tx H1 (off (P ++ F) H1) (off (O ++ F) H1) d u F1 ∧ Rep tx H1 (off (P ++ F) H1) (off (O ++ F) H1) d' w F2 := by
  obtain ⟨F1, F2, _, h1, h2⟩ := h.out2
  exact ⟨F1, F2, h1, h2⟩
theorem notImpl_of {v : V} {u : Value} {Q : Value → Shared → Prop} {s : Shared} (r : RelV v u) (h : Q u s) : PySem.W.CmpBack Q u s := by
  cases v with
  | non => cases (show u = Value.none from r); exact h
  | bl b => cases (show u = Value.bool b from r); exact h
  | int i => obtain ⟨t, e⟩ := (show ∃ t, u = Value.int i t from r); cases e; exact h
  | str x => obtain ⟨t, e⟩ := (show ∃ t, u = Value.str x t from r); cases e; exact h
  | byt b => obtain ⟨t, e⟩ := (show ∃ t, u = Value.bytes b t from r); cases e; exact h
  | flt b => obtain ⟨t, e⟩ := (show ∃ t, u = Value.float b t from r); cases e; exact h
  | ref a => cases (show u = Value.ref a from r); exact h
  | ty n => cases (show u = Value.type n from r); exact h
theorem dunder_of {op : Operator} {key : Str} {P : Pg} {c : Str} (h : methAt P c (dunderOf op) = some key) (hn : P.at c "" = none) : PySem.dunder op.info.2 = dunderOf op := by
  have bad : ∀ {o : Operator}, dunderOf o = "" → methAt P c (dunderOf o) = some key → False := fun e z => by
    rw [e] at z
    have := methAt_some z
    rw [hn] at this
    cases this
  cases op <;> first | rfl | exact (bad rfl h).elim
/-- a op b -/
theorem op_binM (Fc : Fac tx X P0 k cl) (hn : ∀ c, P0.at c "" = none) {op : Operator} : OpR X (binaryOp op) (Dn2 tx (binM P0 cl op)) := by
  intro pins s σ H2 u w v v' Q I ru rw_ h
  obtain ⟨P, O, σ0, env, b, H, x, y, b2, d, b', F, p, hh, e0, q⟩ := h
  have plain : binM P0 cl op x y = opt (binD op x y) → wpAny (model X.prog X.w) X.A (binaryOp op v v') (EP X pins σ Q) X.xe s := fun e => by
    rw [e] at e0
    exact op_binD Fc.hK pins s σ H2 u w v v' Q I ru rw_ ⟨P, O, σ0, env, b, H, x, y, b2, d, b', F, p, hh, e0, q⟩
  cases x with
  | ins f c ns xs =>
    cases y with
    | ins f2 c2 ns2 xs2 =>
      unfold binM at e0
      dsimp only at e0
      cases hk : methAt P0 c (dunderOf op) with
      | none => rw [hk] at e0; cases e0
      | some key =>
        rw [hk] at e0
        dsimp only at e0
        by_cases hc : c = c2
        · rw [if_pos hc] at e0
          subst hc
          obtain ⟨cx, g, hm, Fn⟩ := Fc.cls _ _ _ (methAt_some hk)
          obtain ⟨F1, F2, r1, r2⟩ := hh.out2'
          obtain ⟨a, dx, vs, F', rfl, ea, hl, hr, hs⟩ := r1.inst
          obtain ⟨a2, dx2, vs2, F2', rfl, ea2, hl2, hr2, hs2⟩ := r2.inst
          obtain rfl : v = Value.ref a := ru
          obtain rfl : v' = Value.ref a2 := rw_
          obtain ⟨mA, O1, _⟩ := ins_get I.hok ea
          obtain ⟨od, J, _⟩ := O1.look
          obtain ⟨mB, O2, _⟩ := ins_get I.hok ea2
          obtain ⟨od2, J2, _⟩ := O2.look
          obtain ⟨m0, F0⟩ := I.fr
          refine PySem.W.binop_K F0 I.mod.kin J J2.type cx.sf (by rw [dunder_of hk (hn c)]; exact hm.at_) hm.fn ?_
          refine thn (run_app (us := [.ref a, .ref a2]) (vs := [.ref a, .ref a2]) (Fc.room.mono (by omega)) Fn I (.cons rfl (.cons rfl .nil)) (app_sp p hh e0 q)) fun z s' ⟨zv, H', I', rz, qz⟩ => notImpl_of rz ⟨zv, H', I', rz, qz⟩
        · rw [if_neg hc] at e0; cases e0
    | _ => exact plain rfl
  | _ => cases y <;> exact plain rfl
/-- an own def that hands back a bool -/
theorem appB_some {cl : Str → List D → M D} {key : Str} {ds : List D} {b : Bag} {r : Bool × Bag} (h : appB cl key ds b = some r) : app cl key ds b = some (.bl r.1, r.2) := by
  unfold appB at h
  obtain ⟨d, b', e1, e2⟩ := bnd_some h
  cases d with
  | bl k =>
    have := ret_some e2
    subst this
    exact e1
  | _ => cases e2
theorem tru_M (Fc : Fac tx X P0 k cl) : TruR X (Tn1 tx (truM P0 cl)) := by
  intro pins s σ H2 u v Q I ru h
  obtain ⟨P, O, σ0, env, b, H, x, b2, d, b', F, p, hh, e0, q⟩ := h
  have plain : truM P0 cl x = opt (truD x) → wpAny (model X.prog X.w) X.A (truthy v) (TP X pins σ Q) X.xe s := fun e => by
    rw [e] at e0
    exact tru_D Fc.hK pins s σ H2 u v Q I ru ⟨P, O, σ0, env, b, H, x, b2, d, b', F, p, hh, e0, q⟩
  cases x with
  | ins f c ns xs =>
    unfold truM at e0
    dsimp only at e0
    cases hk : methAt P0 c "__bool__" with
    | none => rw [hk] at e0; cases e0
    | some key =>
      rw [hk] at e0
      dsimp only at e0
      have e1 := appB_some e0
      obtain ⟨cx, g, hm, Fn⟩ := Fc.cls _ _ _ (methAt_some hk)
      obtain ⟨a, dx, vs, F', rfl, ea, hl, hr, hs⟩ := hh.out1.inst
      obtain rfl : v = Value.ref a := ru
      obtain ⟨mA, O1, _⟩ := ins_get I.hok ea
      obtain ⟨od, J, _⟩ := O1.look
      obtain ⟨m0, F0⟩ := I.fr
      refine PySem.W.truthy_K F0 I.mod.kin J hm.at_ hm.fn ?_
      refine thn (run_app (Q := fun z H' => z = .bl d ∧ Q d H') (us := [.ref a]) (vs := [.ref a]) (Fc.room.mono (by omega)) Fn I (.cons rfl .nil) (app_sp p hh e1 fun z H' F' hz => ?_)) fun z s' ⟨zv, H', I', rz, ez, qz⟩ => ?_
      · obtain ⟨rfl, _⟩ := hz.out1
        exact ⟨rfl, q _ hz.drop⟩
      · subst ez
        cases rz
        exact ⟨H', I', qz⟩
  | _ => exact plain rfl
end
end TI

set_option Elab.async false
set_option linter.all false
set_option maxRecDepth 100000
/-! comparisons by own __eq__ -/
namespace TI
open PySem PySem.Spec PyProof.Rows L2
open Builtin

section
variable {prog : Program} {w : World} {A : Around} {E : Value → Shared → Prop} {s : Shared} {K : PySem.W.Frag} {x y C f : Addr} {ox oy : Obj} {od od2 : Option Obj}
theorem objNe_K (X : K.In s.heap) (I : PySem.W.InstAt s.heap x ox C od) (hu : A.units < cLine) (hs : PySem.W.findIn K (.ref C) "__eq__" = some (some (.ref f))) (hf : PySem.W.isFn K (.ref f) = true) {Q : Fin → Shared → Prop}
    (hcall : wpAny (model prog w) A (call (.ref f) [.ref x, .ref y]) (fun v s' => ∃ b, v = .bool b ∧ Q (.done (.ret (.bool (!b)))) s') E s) :
    wpAny (model prog w) A (Builtin.«object.__ne__» ⟨[.ref x, .ref y], []⟩) Q E s := by
  unfold Builtin.«object.__ne__»
  repeat (first
    | with_reducible refine wpAny_cRoomFor hu ?_
    | (refine wpAny_bind (m := callSpecialIfBound? (.ref x) (Str.ofString "__eq__") [.ref y])
        (PySem.W.ifBound_K X I hs hf (wpAny_mono hcall (fun r s' hr => by
          obtain ⟨b, rfl, hq⟩ := hr
          repeat (first | exact hq | exact wpAny_pure hq | exact wpAny_truthy_bool hq | (refine wpAny_bind (m := truthy (.bool _)) (wpAny_truthy_bool ?_)) | wp_step)) fun _ _ e => e)))
    | wp_step)
theorem ifBound_ne {args : List Value} {M : Model} {Q : Option Value → Shared → Prop} (X : K.In s.heap) (I : PySem.W.InstAt s.heap x ox C od) (hs : PySem.W.findIn K (.ref C) "__ne__" = some (some (.builtin "object.__ne__")))
    (h : wpAny M A (call (.builtin "object.__ne__") (.ref x :: args)) (fun v => Q (some v)) E s) : wpAny M A (callSpecialIfBound? (.ref x) "__ne__" args) Q E s := by
  simp only [callSpecialIfBound?, bindSpecialIfBound?]
  refine wpAny_holding (wpAny_bind (wpAny_bind (wpAny_bind (I.type.here ((PySem.W.looks_findIn X hs).here ?_)))))
  refine wpAny_bind (wpAny_askSetting (wpAny_ite ?_))
  have fin : wpAny M A (call (.builtin "object.__ne__") ([.ref x] ++ args) >>= fun v => pure (some v)) Q E s := wpAny_bind (wpAny_mono h (fun v s' h' => wpAny_pure h') fun _ _ h' => h')
  split
  · exact wpAny_bind (wpAny_of_eq (F.cmp_object.ne.bind _) (wpAny_pure (by exact fin)))
  · exact wpAny_tryCatch (wpAny_bind (wpAny_of_eq (F.cmp_object.ne.bind _) (wpAny_pure (by exact fin))))
theorem richNe_K (X : K.In s.heap) (I : PySem.W.InstAt s.heap x ox C od) (I2 : PySem.W.InstAt s.heap y oy C od2) (hu : A.units + 1 < cLine) (hob : PySem.W.mroIn K C (.type "object") = some true) (hn : PySem.W.findIn K (.ref C) "__ne__" = some (some (.builtin "object.__ne__")))
    (hs : PySem.W.findIn K (.ref C) "__eq__" = some (some (.ref f))) (hf : PySem.W.isFn K (.ref f) = true) {Q : Value → Shared → Prop}
    (hcall : wpAny (model prog w) A.in1 (call (.ref f) [.ref x, .ref y]) (fun v s' => ∃ b, v = .bool b ∧ Q (.bool (!b)) s') E s) : wpAny (model prog w) A (richCompare .NotEq (.ref x) (.ref y)) Q E s := by
  have one : wpAny (model prog w) A (tryCompare (.ref x) "__ne__" (.ref y)) (fun r s' => ∃ v, r = some (.bool v) ∧ Q (.bool v) s') E s := by
    unfold tryCompare
    refine wpAny_bind (ifBound_ne X I hn (wpAny_call (codeAny_call_builtin F.cmp_object.ne.plain F.cmpEntry_ne (PySem.W.check_slot F.cmpKind_ne F.cmpSplit_ne (I.type.andThen (PySem.W.looks_mroIn X hob)) (F.cmpArgs_ne _ _)
      (objNe_K (A := A.in1) X I hu hs hf (wpAny_mono hcall (fun v s' hv => ?_) fun _ _ e => e))))))
    obtain ⟨b, rfl, hq⟩ := hv
    exact ⟨b, rfl, wpAny_pure ⟨_, rfl, hq⟩⟩
  unfold richCompare
  simp only [oneThing_ref]
  refine wpAny_holding (wpAny_bind (wpAny_cRoomFor (by omega) ?_))
  rw [cmpInfo_NotEq]
  dsimp only
  refine wpAny_bind (I.type.here (wpAny_bind (I2.type.here ?_)))
  rw [show (Value.ref C != Value.ref C) = false from by simp]
  simp only [Bool.false_eq_true, if_false]
  refine wpAny_bind (wpAny_pure ?_)
  simp only [Bool.false_eq_true, if_false]
  refine wpAny_bind (wpAny_mono one (fun r s' z => ?_) fun _ _ e => e)
  obtain ⟨v, rfl, hq⟩ := z
  exact wpAny_pure hq
end

section
variable {tx : Tx} {X : Cx} {k : Nat} {P0 : Pg} {cl : Str → List D → M D}
/-- a op b, a comparison -/
theorem op_cmpM (Fc : Fac tx X P0 k cl) {op : CmpOp} : OpR X (compareOp op) (Dn2 tx (cmpM P0 cl op)) := by
  intro pins s σ H2 u w v v' Q I ru rw_ h
  obtain ⟨P, O, σ0, env, b, H, x, y, b2, d, b', F, p, hh, e0, q⟩ := h
  have hr0 := Fc.room
  have plain : cmpM P0 cl op x y = (bnd (opt (cmpD op x y)) fun k => ret (.bl k)) → wpAny (model X.prog X.w) X.A (compareOp op v v') (EP X pins σ Q) X.xe s := fun e => by
    rw [e] at e0
    exact op_cmpD Fc.hK hr0.units pins s σ H2 u w v v' Q I ru rw_ ⟨P, O, σ0, env, b, H, x, y, b2, d, b', F, p, hh, e0, q⟩
  cases x with
  | ins f c ns xs =>
    cases y with
    | ins f2 c2 ns2 xs2 =>
      unfold cmpM at e0
      dsimp only at e0
      cases hk : methAt P0 c "__eq__" with
      | none => rw [hk] at e0; cases e0
      | some key =>
        rw [hk] at e0
        dsimp only at e0
        by_cases hc : c = c2
        · rw [if_pos hc] at e0
          subst hc
          obtain ⟨cx, g, hm, Fn⟩ := Fc.cls _ _ _ (methAt_some hk)
          have hne := Fc.ne _ _ (methAt_some hk)
          obtain ⟨F1, F2, r1, r2⟩ := hh.out2'
          obtain ⟨a, dx, vs, F', rfl, ea, hl, hr, hs⟩ := r1.inst
          obtain ⟨a2, dx2, vs2, F2', rfl, ea2, hl2, hr2, hs2⟩ := r2.inst
          obtain rfl : v = Value.ref a := ru
          obtain rfl : v' = Value.ref a2 := rw_
          obtain ⟨mA, O1, _⟩ := ins_get I.hok ea
          obtain ⟨od, J, _⟩ := O1.look
          obtain ⟨mB, O2, _⟩ := ins_get I.hok ea2
          obtain ⟨od2, J2, _⟩ := O2.look
          obtain ⟨m0, F0⟩ := I.fr
          cases op with
          | Eq =>
            dsimp only at e0
            obtain ⟨kk, b3, e1, e2⟩ := bnd_some e0
            have e3 := ret_some e2
            injection e3 with e4 e5
            subst e4; subst e5
            have e6 := appB_some e1
            dsimp only at e6
            show wpAny _ _ (richCompare .Eq _ _) _ _ _
            refine PySem.W.cmp_K (op := .Eq) hr0.units0 F0 I.mod.kin J J2.type (by unfold PySem.W.notFirst; simp) hm.at_ hm.fn ?_
            refine thn (run_app (us := [.ref a, .ref a2]) (vs := [.ref a, .ref a2]) (Fc.room.mono (by omega)) Fn I (.cons rfl (.cons rfl .nil)) (app_sp p hh e6 q)) fun z s' ⟨zv, H', I', rz, qz⟩ => notImpl_of rz ⟨zv, H', I', rz, qz⟩
          | NotEq =>
            dsimp only at e0
            obtain ⟨kk, b3, e1, e2⟩ := bnd_some e0
            have e3 := ret_some e2
            injection e3 with e4 e5
            subst e4; subst e5
            have e6 := appB_some e1
            dsimp only at e6
            show wpAny _ _ (richCompare .NotEq _ _) _ _ _
            refine richNe_K I.kIn J J2 (by have := hr0.units; omega) cx.ob hne hm.at_ hm.fn ?_
            refine thn (run_app1 (Q := fun z H' => z = .bl kk ∧ Q (.bl (!kk)) H') (us := [.ref a, .ref a2]) (vs := [.ref a, .ref a2]) (Fc.room.mono (by omega)) Fn I (.cons rfl (.cons rfl .nil)) (app_sp p hh e6 fun z H' F' hz => ?_)) fun z s' ⟨zv, H', I', rz, ez, qz⟩ => ?_
            · obtain ⟨rfl, rfl⟩ := hz.out1
              exact ⟨rfl, q _ _ _ (hz.flat (repBl _))⟩
            · subst ez
              cases rz
              exact ⟨kk, rfl, .bl (!kk), H', I', rfl, qz⟩
          | _ => cases e0
        · rw [if_neg hc] at e0; cases e0
    | _ => exact plain rfl
  | _ => cases y <;> exact plain rfl
end
end TI

set_option Elab.async false
set_option linter.all false
set_option maxRecDepth 100000
/-! operators, tests, and, or, not, if, isinstance -/
namespace TI
open PySem PySem.Spec PyProof.Rows L2

section
variable {tx : Tx} {X : Cx} {k : Nat} {P0 : Pg} {cl : Str → List D → M D} {a b c e : Expr} {pos : Pos} {va vb vc : Env → M D} {ta tb tc : Env → M Bool}
theorem s_bin (Fc : Fac tx X P0 k cl) (hn : ∀ c, P0.at c "" = none) {op : Operator} (ha : PE X a (tEv tx va)) (hb : PE X b (tEv tx vb)) : PE X (.BinOp a op b pos) (tEv tx fun env => bnd (va env) fun x => bnd (vb env) fun y => binM P0 cl op x y) :=
  PE.imp (pe_op (op_binM Fc hn) ha hb) fun σ H Q h => rd2 h
theorem s_cmp (Fc : Fac tx X P0 k cl) {op : CmpOp} (h1 : op ≠ .In) (h2 : op ≠ .NotIn) (ha : PE X a (tEv tx va)) (hb : PE X b (tEv tx vb)) : PE X (.Compare a [op] [b] pos) (tEv tx fun env => bnd (va env) fun x => bnd (vb env) fun y => cmpM P0 cl op x y) :=
  PE.imp (pe_cmpR (op_cmpM Fc) ha hb (nomark b h1 h2)) fun σ H Q h => rd2 h
theorem cmpM_bl {op : CmpOp} {x y : D} {b : Bag} {r : D × Bag} (h : cmpM P0 cl op x y b = some r) : ∃ k, r.1 = .bl k := by
  have plain : cmpM P0 cl op x y = (bnd (opt (cmpD op x y)) fun k => ret (.bl k)) → ∃ k, r.1 = .bl k := fun e => by
    rw [e] at h
    obtain ⟨k, b1, _, e2⟩ := bnd_some h
    rw [ret_some e2]
    exact ⟨k, rfl⟩
  cases x with
  | ins f c ns xs =>
    cases y with
    | ins f2 c2 ns2 xs2 =>
      unfold cmpM at h
      dsimp only at h
      cases hk : methAt P0 c "__eq__" with
      | none => rw [hk] at h; cases h
      | some key =>
        rw [hk] at h
        dsimp only at h
        by_cases hc : c = c2
        · rw [if_pos hc] at h
          cases op with
          | Eq =>
            dsimp only at h
            obtain ⟨kk, b3, e1, e2⟩ := bnd_some h
            rw [ret_some e2]
            exact ⟨_, rfl⟩
          | NotEq =>
            dsimp only at h
            obtain ⟨kk, b3, e1, e2⟩ := bnd_some h
            rw [ret_some e2]
            exact ⟨_, rfl⟩
          | _ => cases h
        · rw [if_neg hc] at h; cases h
    | _ => exact plain rfl
  | _ => cases y <;> exact plain rfl
theorem truM_bl {k : Bool} {b : Bag} : truM P0 cl (.bl k) b = some (k, b) := rfl
/-- a test of a value that is a bool -/
theorem rdB {v : Env → M D} {σ : L2.St} {H : Hp} {Q : Bool → Hp → Prop} (hb : ∀ env b r, v env b = some r → ∃ k, r.1 = .bl k) (h : tEt tx (fun env => bnd (v env) (truM P0 cl)) σ H Q) : tEv tx v σ H fun u H' => ∃ k, u = .bl k ∧ Q k H' := by
  obtain ⟨P, O, env, b, d, b', p, e0, q⟩ := h
  obtain ⟨x, b1, e1, e2⟩ := bnd_some e0
  obtain ⟨kk, hk⟩ := hb _ _ _ e1
  dsimp only at hk
  subst hk
  rw [truM_bl] at e2
  injection e2 with e2
  injection e2 with e3 e4
  subst e3; subst e4
  refine ⟨P, O, env, b, _, _, p, e1, fun u H' F h1 => ?_⟩
  obtain ⟨rfl, _⟩ := h1.out1
  exact ⟨kk, rfl, q _ h1.drop⟩
theorem s_cmpT (Fc : Fac tx X P0 k cl) {op : CmpOp} (h1 : op ≠ .In) (h2 : op ≠ .NotIn) (ha : PE X a (tEv tx va)) (hb : PE X b (tEv tx vb)) :
    PT X (.Compare a [op] [b] pos) (tEt tx fun env => bnd (bnd (va env) fun x => bnd (vb env) fun y => cmpM P0 cl op x y) (truM P0 cl)) := by
  refine PT.imp (pt_cmpR (op_cmpM Fc) ha hb (nomark b h1 h2)) fun σ H Q h => ?_
  refine rd2 (rdB (v := fun env => bnd (va env) fun x => bnd (vb env) fun y => cmpM P0 cl op x y) (fun env b r z => ?_) h)
  obtain ⟨x, b1, e1, e2⟩ := bnd_some z
  obtain ⟨y, b2, e3, e4⟩ := bnd_some e2
  exact cmpM_bl e4
/-- any other expression as a test -/
theorem s_test (Fc : Fac tx X P0 k cl) (ha : PE X e (tEv tx va)) (he : ∀ whole, isTrue e X.env whole = (do let v ← whole; standAt e.pos; holding [v] (truthy v))) : PT X e (tEt tx fun env => bnd (va env) (truM P0 cl)) := by
  refine ⟨fun pins s σ H Q I h => ?_⟩
  exact isTrue_plain (thn (ha.run pins s σ H _ I (rdT h)) fun v s1 ⟨x, H1, I1, r1, q1⟩ => tru_M Fc pins s1 σ H1 x v Q I1 r1 q1) (he _)
/-- a test, then a bool -/
theorem rdK {t : Env → M Bool} {f : Bool → Bool} {σ : L2.St} {H : Hp} {Q : VK} (h : tEv tx (fun env => bnd (t env) fun k => ret (.bl (f k))) σ H Q) : tEt tx t σ H fun k H' => Q (.bl (f k)) H' := by
  obtain ⟨P, O, env, b, d, b', p, e0, q⟩ := h
  obtain ⟨x, b1, e1, e2⟩ := bnd_some e0
  have e3 := ret_some e2
  injection e3 with e4 e5
  subst e4; subst e5
  exact ⟨P, O, env, b, x, _, p, e1, fun H' h1 => q _ _ _ (h1.flat (repBl _))⟩
theorem rdKT {t : Env → M Bool} {f : Bool → Bool} {σ : L2.St} {H : Hp} {Q : Bool → Hp → Prop} (h : tEt tx (fun env => bnd (t env) fun k => ret (f k)) σ H Q) : tEt tx t σ H fun k H' => Q (f k) H' := by
  obtain ⟨P, O, env, b, d, b', p, e0, q⟩ := h
  obtain ⟨x, b1, e1, e2⟩ := bnd_some e0
  have e3 := ret_some e2
  injection e3 with e4 e5
  subst e4; subst e5
  exact ⟨P, O, env, b, x, _, p, e1, fun H' h1 => q _ h1⟩
theorem s_not (Fc : Fac tx X P0 k cl) (ha : PE X a (tEv tx va)) : PE X (.UnaryOp .Not a pos) (tEv tx fun env => bnd (bnd (va env) (truM P0 cl)) fun k => ret (.bl (!k))) := by
  refine ⟨fun pins s σ H Q I h => ?_⟩
  refine UnaryOp_ (thn (ha.run pins s σ H _ I (rdT (rdK (f := fun k => !k) h))) fun v s1 ⟨x, H1, I1, r1, q1⟩ => ?_)
  exact not_of (thn (tru_M Fc pins s1 σ H1 x v (fun c H2 => Q (.bl (!c)) H2) I1 r1 q1) fun c s2 ⟨H2, I2, q2⟩ => ⟨.bl (!c), H2, I2, rfl, q2⟩)
theorem s_notT (ha : PT X a (tEt tx ta)) : PT X (.UnaryOp .Not a pos) (tEt tx fun env => bnd (ta env) fun k => ret (!k)) :=
  PT.imp (pt_not ha) fun σ H Q h => rdKT (f := fun k => !k) h
theorem s_neg (ha : PE X a (tEv tx va)) : PE X (.UnaryOp .USub a pos) (tEv tx fun env => bnd (va env) negM) := by
  refine PE.imp (pe_un un_neg ha) fun σ H Q h => (rd1 h).imp fun u H1 h1 => ?_
  obtain ⟨P, O, σ0, env, b, H0, x, b2, d, b', F, p, hh, e0, q⟩ := h1
  cases x with
  | int i =>
    obtain ⟨rfl, _⟩ := hh.out1
    have e3 := ret_some e0
    injection e3 with e4 e5
    subst e4; subst e5
    exact ⟨i, rfl, q _ _ _ (hh.flat (repInt _))⟩
  | _ => cases e0

/-! ### and, or -/
theorem Held.next {P O : List Addr} {σ : L2.St} {env : Env} {b b1 b2 : Bag} {H H1 H2 : Hp} {ds : List D} {us : List V} {F : List Addr} (p : Pre tx P O σ env b H) (h : Held tx P O H [] b1 [] H1 []) (h2 : Held tx (P ++ []) (O ++ []) H1 ds b2 us H2 F) : Held tx P O H ds b2 us H2 F := Held.app p h h2
theorem s_and {rest : List Expr} (ha : PE X a (tEv tx va)) (hb : PE X (.BoolOp .And (b :: rest) pos) (tEv tx vb)) : PE X (.BoolOp .And (a :: b :: rest) pos) (tEv tx fun env => bnd (va env) fun x => bopM .And x (vb env)) := by
  refine PE.imp (pe_and ha hb) fun σ H Q h => ?_
  obtain ⟨P, O, env, b, d, b', p, e0, q⟩ := h
  obtain ⟨x, b1, e1, e2⟩ := bnd_some e0
  refine ⟨P, O, env, b, x, b1, p, e1, fun u H1 F1 h1 => ?_⟩
  cases x with
  | bl kk =>
    obtain ⟨rfl, rfl⟩ := h1.out1
    refine ⟨kk, rfl, ?_⟩
    cases kk with
    | true =>
      rw [if_pos rfl]
      exact ⟨P ++ [], O ++ [], env, b1, d, b', p.held h1.drop, e2, fun u H2 F h2 => q u H2 F (Held.next p h1.drop h2)⟩
    | false =>
      rw [if_neg (by decide)]
      have e3 := ret_some e2
      injection e3 with e4 e5
      subst e4; subst e5
      exact q _ _ _ h1
  | _ => cases e2
theorem s_or {rest : List Expr} (ha : PE X a (tEv tx va)) (hb : PE X (.BoolOp .Or (b :: rest) pos) (tEv tx vb)) : PE X (.BoolOp .Or (a :: b :: rest) pos) (tEv tx fun env => bnd (va env) fun x => bopM .Or x (vb env)) := by
  refine PE.imp (pe_or ha hb) fun σ H Q h => ?_
  obtain ⟨P, O, env, b, d, b', p, e0, q⟩ := h
  obtain ⟨x, b1, e1, e2⟩ := bnd_some e0
  refine ⟨P, O, env, b, x, b1, p, e1, fun u H1 F1 h1 => ?_⟩
  cases x with
  | bl kk =>
    obtain ⟨rfl, rfl⟩ := h1.out1
    refine ⟨kk, rfl, ?_⟩
    cases kk with
    | false =>
      rw [if_neg (by decide)]
      exact ⟨P ++ [], O ++ [], env, b1, d, b', p.held h1.drop, e2, fun u H2 F h2 => q u H2 F (Held.next p h1.drop h2)⟩
    | true =>
      rw [if_pos rfl]
      have e3 := ret_some e2
      injection e3 with e4 e5
      subst e4; subst e5
      exact q _ _ _ h1
  | _ => cases e2
theorem s_andT {rest : List Expr} (ha : PT X a (tEt tx ta)) (hb : PW X (.BoolOp .And (b :: rest) pos) (tEt tx tb)) : PW X (.BoolOp .And (a :: b :: rest) pos) (tEt tx fun env => bnd (ta env) fun k => bopT .And k (tb env)) := by
  refine PW.imp (pw_and ha hb) fun σ H Q h => ?_
  obtain ⟨P, O, env, b, d, b', p, e0, q⟩ := h
  obtain ⟨x, b1, e1, e2⟩ := bnd_some e0
  refine ⟨P, O, env, b, x, b1, p, e1, fun H1 h1 => ?_⟩
  cases x with
  | true =>
    rw [if_pos rfl]
    exact ⟨P ++ [], O ++ [], env, b1, d, b', p.held h1, e2, fun H2 h2 => q H2 (Held.next p h1 h2)⟩
  | false =>
    rw [if_neg (by decide)]
    have e3 := ret_some e2
    injection e3 with e4 e5
    subst e4; subst e5
    exact q _ h1
theorem s_orT {rest : List Expr} (ha : PT X a (tEt tx ta)) (hb : PW X (.BoolOp .Or (b :: rest) pos) (tEt tx tb)) : PW X (.BoolOp .Or (a :: b :: rest) pos) (tEt tx fun env => bnd (ta env) fun k => bopT .Or k (tb env)) := by
  refine PW.imp (pw_or ha hb) fun σ H Q h => ?_
  obtain ⟨P, O, env, b, d, b', p, e0, q⟩ := h
  obtain ⟨x, b1, e1, e2⟩ := bnd_some e0
  refine ⟨P, O, env, b, x, b1, p, e1, fun H1 h1 => ?_⟩
  cases x with
  | false =>
    rw [if_neg (by decide)]
    exact ⟨P ++ [], O ++ [], env, b1, d, b', p.held h1, e2, fun H2 h2 => q H2 (Held.next p h1 h2)⟩
  | true =>
    rw [if_pos rfl]
    have e3 := ret_some e2
    injection e3 with e4 e5
    subst e4; subst e5
    exact q _ h1
/-- a if c else b -/
theorem s_ife (hc : PT X c (tEt tx tc)) (ha : PE X a (tEv tx va)) (hb : PE X b (tEv tx vb)) : PE X (.IfExp c a b pos) (tEv tx fun env => bnd (tc env) fun k => if k = true then va env else vb env) := by
  refine PE.imp (pe_ifExp hc ha hb) fun σ H Q h => ?_
  obtain ⟨P, O, env, b, d, b', p, e0, q⟩ := h
  obtain ⟨x, b1, e1, e2⟩ := bnd_some e0
  refine ⟨P, O, env, b, x, b1, p, e1, fun H1 h1 => ?_⟩
  cases x with
  | true =>
    rw [if_pos rfl] at e2 ⊢
    exact ⟨P ++ [], O ++ [], env, b1, d, b', p.held h1, e2, fun u H2 F h2 => q u H2 F (Held.next p h1 h2)⟩
  | false =>
    rw [if_neg (by decide)] at e2 ⊢
    exact ⟨P ++ [], O ++ [], env, b1, d, b', p.held h1, e2, fun u H2 F h2 => q u H2 F (Held.next p h1 h2)⟩
theorem s_ifeT (hc : PT X c (tEt tx tc)) (ha : PT X a (tEt tx ta)) (hb : PT X b (tEt tx tb)) : PT X (.IfExp c a b pos) (tEt tx fun env => bnd (tc env) fun k => if k = true then ta env else tb env) := by
  refine ⟨fun pins s σ H Q I h => ?_⟩
  obtain ⟨P, O, env, b, d, b', p, e0, q⟩ := h
  obtain ⟨x, b1, e1, e2⟩ := bnd_some e0
  have r := hc.run pins s σ H (fun k H1 => k = x ∧ Held tx P O H [] b1 [] H1 []) I ⟨P, O, env, b, x, b1, p, e1, fun H1 h1 => ⟨rfl, h1⟩⟩
  show wpAny _ _ (do if ← isTrue _ X.env (eval _ X.env) then isTrue _ X.env (eval _ X.env) else isTrue _ X.env (eval _ X.env)) _ _ _
  refine wpAny_bind (thn r fun k s1 ⟨H1, I1, ek, h1⟩ => ?_)
  subst ek
  cases k with
  | true =>
    rw [if_pos rfl] at e2
    rw [if_pos rfl]
    exact ha.run pins s1 σ H1 Q I1 ⟨P ++ [], O ++ [], env, b1, d, b', p.held h1, e2, fun H2 h2 => q H2 (Held.next p h1 h2)⟩
  | false =>
    rw [if_neg (by decide)] at e2
    rw [if_neg (by decide)]
    exact hb.run pins s1 σ H1 Q I1 ⟨P ++ [], O ++ [], env, b1, d, b', p.held h1, e2, fun H2 h2 => q H2 (Held.next p h1 h2)⟩
end
end TI

set_option Elab.async false
set_option linter.all false
set_option maxRecDepth 100000
set_option maxHeartbeats 4000000
/-! chains of comparisons, isinstance, bool() -/
namespace TI
open PySem PySem.Spec PyProof.Rows L2

section
variable {tx : Tx} {X : Cx} {k : Nat} {P0 : Pg} {cl : Str → List D → M D} {a b c e : Expr} {pos : Pos} {va vb vc : Env → M D}
theorem op_cmpI {op : CmpOp} : OpR X (compareOp op) (fun x y H Q => ∃ i j kk, x = .int i ∧ y = .int j ∧ cmpI op (.int i) (.int j) = some kk ∧ Q (.bl kk) H) := by
  intro pins s σ H x y v v' Q I rx ry h
  obtain ⟨i, j, kk, rfl, rfl, e, q⟩ := h
  cases op with
  | Lt => cases e; exact op_lt pins s σ H _ _ v v' Q I rx ry ⟨_, _, rfl, rfl, q⟩
  | LtE => cases e; exact op_le pins s σ H _ _ v v' Q I rx ry ⟨_, _, rfl, rfl, q⟩
  | Gt => cases e; exact op_gt pins s σ H _ _ v v' Q I rx ry ⟨_, _, rfl, rfl, q⟩
  | GtE => cases e; exact op_ge pins s σ H _ _ v v' Q I rx ry ⟨_, _, rfl, rfl, q⟩
  | _ => cases e
theorem cmpI_int {op : CmpOp} {x y : D} {kk : Bool} (h : cmpI op x y = some kk) : ∃ i j, x = .int i ∧ y = .int j := by
  cases x with
  | int i =>
    cases y with
    | int j => exact ⟨i, j, rfl, rfl⟩
    | _ => cases h
  | _ => cases h
/-- a op b op2 c -/
theorem rd_cmp2 {op op2 : CmpOp} {σ : L2.St} {H : Hp} {Q : VK} (h : tEv tx (fun env => bnd (va env) fun x => bnd (vb env) fun y => bnd (opt (cmpI op x y)) fun k =>
      if k = true then bnd (vc env) fun z => bnd (opt (cmpI op2 y z)) fun k2 => ret (.bl k2) else ret (.bl false)) σ H Q) :
    tChain (fun x y H Q => ∃ i j kk, x = .int i ∧ y = .int j ∧ cmpI op (.int i) (.int j) = some kk ∧ Q (.bl kk) H) (fun x y H Q => ∃ i j kk, x = .int i ∧ y = .int j ∧ cmpI op2 (.int i) (.int j) = some kk ∧ Q (.bl kk) H) (tEv tx va) (tEv tx vb) (tEv tx vc) σ H Q := by
  obtain ⟨P, O, env, b, d, b', p, e0, q⟩ := h
  obtain ⟨x, b1, e1, e⟩ := bnd_some e0
  obtain ⟨y, b2, e2, e⟩ := bnd_some e
  obtain ⟨kk, b3, e3, e4⟩ := bnd_some e
  obtain ⟨e5, eb⟩ := opt_some e3
  dsimp only at e5 eb
  subst eb
  obtain ⟨i, j, rfl, rfl⟩ := cmpI_int e5
  refine ⟨P, O, env, b, _, b1, p, e1, fun u H1 F1 h1 => ?_⟩
  obtain ⟨rfl, rfl⟩ := h1.out1
  refine ⟨P ++ [], O ++ [], env, b1, _, b3, p.held h1, e2, fun w H2 F2 h2 => ?_⟩
  obtain ⟨rfl, rfl⟩ := h2.out1
  refine ⟨i, j, kk, rfl, rfl, e5, kk, rfl, ?_⟩
  cases kk with
  | false =>
    rw [if_neg (by decide)] at e4 ⊢
    have e6 := ret_some e4
    injection e6 with e7 e8
    subst e7; subst e8
    exact q _ _ _ ((Held.next p h1.drop h2).flat (repBl _))
  | true =>
    rw [if_pos rfl] at e4 ⊢
    obtain ⟨z, b4, e6, e7⟩ := bnd_some e4
    obtain ⟨k2, b5, e8, e9⟩ := bnd_some e7
    obtain ⟨e10, eb⟩ := opt_some e8
    dsimp only at e10 eb
    subst eb
    have e11 := ret_some e9
    injection e11 with e12 e13
    subst e12; subst e13
    obtain ⟨j2, l, ej, rfl⟩ := cmpI_int e10
    cases ej
    have h12 := Held.next p h1.drop h2.drop
    refine ⟨P ++ [], O ++ [], env, b3, _, b', p.held h12, e6, fun w' H3 F3 h3 => ?_⟩
    obtain ⟨rfl, rfl⟩ := h3.out1
    exact ⟨j, l, k2, rfl, rfl, e10, q _ _ _ ((Held.next p h12 h3).flat (repBl _))⟩
theorem lastMarks2 {op op2 : CmpOp} {b c : Expr} (h1 : op2 ≠ .In) (h2 : op2 ≠ .NotIn) : lastMarks [op, op2] [b, c] = false := nomark c h1 h2
theorem s_cmp2 {op op2 : CmpOp} (h1 : op2 ≠ .In) (h2 : op2 ≠ .NotIn) (ha : PE X a (tEv tx va)) (hb : PE X b (tEv tx vb)) (hc : PE X c (tEv tx vc)) :
    PE X (.Compare a [op, op2] [b, c] pos) (tEv tx fun env => bnd (va env) fun x => bnd (vb env) fun y => bnd (opt (cmpI op x y)) fun k =>
      if k = true then bnd (vc env) fun z => bnd (opt (cmpI op2 y z)) fun k2 => ret (.bl k2) else ret (.bl false)) :=
  PE.imp (pe_chain op_cmpI op_cmpI ha hb hc (lastMarks2 h1 h2)) fun σ H Q h => rd_cmp2 h
theorem s_cmp2T {op op2 : CmpOp} (h1 : op2 ≠ .In) (h2 : op2 ≠ .NotIn) (ha : PE X a (tEv tx va)) (hb : PE X b (tEv tx vb)) (hc : PE X c (tEv tx vc)) :
    PT X (.Compare a [op, op2] [b, c] pos) (tEt tx fun env => bnd (bnd (va env) fun x => bnd (vb env) fun y => bnd (opt (cmpI op x y)) fun k =>
      if k = true then bnd (vc env) fun z => bnd (opt (cmpI op2 y z)) fun k2 => ret (.bl k2) else ret (.bl false)) (truM P0 cl)) := by
  refine PT.imp (pt_chain op_cmpI op_cmpI ha hb hc (lastMarks2 h1 h2)) fun σ H Q h => ?_
  refine rd_cmp2 (rdB (fun env b r z => ?_) h)
  obtain ⟨x, b1, e1, e⟩ := bnd_some z
  obtain ⟨y, b2, e2, e⟩ := bnd_some e
  obtain ⟨kk, b3, e3, e4⟩ := bnd_some e
  cases kk with
  | false =>
    rw [if_neg (by decide)] at e4
    rw [ret_some e4]
    exact ⟨_, rfl⟩
  | true =>
    rw [if_pos rfl] at e4
    obtain ⟨z, b4, e6, e7⟩ := bnd_some e4
    obtain ⟨k2, b5, e8, e9⟩ := bnd_some e7
    rw [ret_some e9]
    exact ⟨_, rfl⟩

/-! ### isinstance -/
/-- .. of an error, too -/
inductive TyZ (X : Cx) (H : Hp) : V → Value → Prop where
  | base {x : V} {t : Value} (h : TyX X.K H x t) : TyZ X H x t
  | err {tx : Tx} {P : Pg} {c : Str} {y : Exc} {a dx : Addr} {fs : List (Str × V)} (T : ExT tx X P c y) (ea : H a = some (exo a (tx.ca c) (some dx))) (ed : H dx = some (exd dx fs)) : TyZ X H (.ref a) (.ref (tx.ca c))
theorem kit_ofZ {pins : List (Addr × Obj)} {σ : L2.St} {H : Hp} {s : Shared} {x : V} {u t : Value} (I : Inv X pins σ H s) (rx : RelV x u) (ty : TyZ X H x t) : ∃ P : Heap → Prop, PySem.W.KitX X.K u t P ∧ P s.heap ∧ u ≠ .builtin "__main__.__loader__#opaque" := by
  cases ty with
  | base h => exact kit_of I rx h
  | err T ea ed =>
    cases rx
    obtain ⟨t1, ho⟩ := exo_at I.hok ea
    obtain ⟨mA, hns, rel⟩ := exd_at I.hok ed
    obtain ⟨od, hod, hlk⟩ := lookIn_ns hns
    refine ⟨_, PySem.W.kitx_exc (od := some od) ?_ T.ga T.gg T.sub T.ha T.hn T.ht T.hm, ⟨ho, rfl, rfl, hod⟩, fun z => nomatch z⟩
    obtain ⟨cd, hc, _⟩ := PySem.W.any_some T.hd
    rw [hc]
    rfl
def rIsiZ (X : Cx) : List V → Hp → VK → Prop := fun xs H Q => ∃ (x c : V) (t u : Value) (b : Bool), xs = [x, c] ∧ ClsV c u ∧ TyZ X H x t ∧ PySem.W.kitOne X.K t u = some b ∧ Q (.bl b) H
def rIsiTZ (X : Cx) : List V → Hp → VK → Prop := fun xs H Q => ∃ (x : V) (tp : Addr) (cs : List V) (t : Value) (us : List Value) (b : Bool), xs = [x, .ref tp] ∧ H tp = some (.tup cs) ∧ Paired ClsV cs us ∧ TyZ X H x t ∧ PySem.W.kitAny X.K t us = some b ∧ Q (.bl b) H
theorem call_isiZ : CallR X (.builtin "isinstance") (rIsiZ X) := by
  intro pins s σ H xs us Q I r h
  obtain ⟨x, c, t, u, b, rfl, k, ty, e, q⟩ := h
  obtain ⟨u1, u2, rfl, r1, r2⟩ := vals2 r
  have e2 := k.eq r2
  subst e2
  obtain ⟨P, Z, p, hx⟩ := kit_ofZ I r1 ty
  exact PySem.W.kia_one Z I.kIn p e hx fun tk => ⟨.bl b, H, I.tok tk, rfl, q⟩
theorem call_isiTZ : CallR X (.builtin "isinstance") (rIsiTZ X) := by
  intro pins s σ H xs us Q I r h
  obtain ⟨x, tp, cs, t, ws, b, rfl, hT, k, ty, e, q⟩ := h
  obtain ⟨u1, u2, rfl, r1, r2⟩ := vals2 r
  cases (show u2 = Value.ref tp from r2)
  obtain ⟨P, Z, p, hx⟩ := kit_ofZ I r1 ty
  obtain ⟨_, its, rv, o, h1, h2, n, h3⟩ := (show ObjOk X.prog X.w H s.heap tp (.tup cs) from I.hok tp _ hT)
  have e3 := ClsV.all k rv
  subst e3
  obtain ⟨oc, od, dt, sl⟩ := o
  simp only at h2 h3
  subst h2 h3
  exact PySem.W.kia_tup Z I.kIn p h1 e hx fun tk => ⟨.bl b, H, I.tok tk, rfl, q⟩
theorem ty_rep (Fc : Fac tx X P0 k cl) {H : Hp} {Bo Go : List Addr} {x : D} {u : V} {F : List Addr} (r : Rep tx H (off Bo H) (off Go H) x u F) :
    (∃ n, TyX X.K H u (.type n) ∧ (∀ t nn, tyS t = some nn → isiD P0 x t = some (isiB x nn) ∧ PySem.W.kitOne X.K (.type n) (.type nn) = some (isiB x nn)) ∧ (∀ t kk, tyS t = none → isiD P0 x t = some kk → kk = false) ∧ ∀ C : Addr, (PySem.W.clsIn X.K C).isSome = true → PySem.W.typeIn X.K (.ref C) = some (.type "type") → PySem.W.kitOne X.K (.type n) (.ref C) = some false) ∨
      (∃ f c ns xs, x = .ins f c ns xs ∧ ∀ l, P0.mro.lookup c = some l → TyX X.K H u (.ref (tx.ca c))) ∨ x = .bag ∨ ∃ f c ns xs, x = .exc f c ns xs ∧ ∀ y, P0.exs.lookup c = some y → TyZ X H u (.ref (tx.ca c)) := by
  have own : ∀ (n : String) (l : List Value), fastBuiltinMro n = some l → (∀ C : Addr, l.contains (Value.ref C) = false) → ∀ C : Addr, (PySem.W.clsIn X.K C).isSome = true → PySem.W.typeIn X.K (.ref C) = some (.type "type") → PySem.W.kitOne X.K (.type n) (.ref C) = some false := fun n l hl hc C h1 h2 => by
    unfold PySem.W.kitOne
    rw [if_neg (by simp)]
    unfold PySem.W.kitCls
    dsimp only
    rw [h1, h2]
    rw [if_pos (by decide)]
    show (fastBuiltinMro n).map (·.contains (.ref C)) = some false
    rw [hl]
    show some (l.contains (Value.ref C)) = some false
    rw [hc]
  have nat : ∀ (n : String), (∀ b ∈ ["ValueError", "LookupError", "IndexError", "int", "bool", "str", "list", "tuple"], kitB n b = some (n == b || (n == "bool" && b == "int"))) → ∀ t nn, tyS t = some nn → PySem.W.kitOne X.K (.type n) (.type nn) = some (n == nn || (n == "bool" && nn == "int")) := fun n hb t nn ht => by
    refine kit_ty (hb nn ?_)
    unfold tyS at ht
    repeat' split at ht
    all_goals (first | (cases ht; simp) | cases ht)
  have no : ∀ x : D, (∀ c, x ≠ .bag) → (∀ f c ns xs, x ≠ .ins f c ns xs) → (∀ f c ns xs, x ≠ .exc f c ns xs) → (∀ t nn, tyS t = some nn → isiD P0 x t = some (isiB x nn)) ∧ ∀ t kk, tyS t = none → isiD P0 x t = some kk → kk = false := fun x h1 h2 h3 => by
    constructor
    · intro t nn ht
      cases x with
      | bag => exact absurd rfl (h1 0)
      | ins f c ns xs => exact absurd rfl (h2 _ _ _ _)
      | exc f c ns xs => exact absurd rfl (h3 _ _ _ _)
      | _ => unfold isiD; simp only [ht]
    · intro t kk ht hk
      cases x with
      | bag => exact absurd rfl (h1 0)
      | ins f c ns xs => exact absurd rfl (h2 _ _ _ _)
      | exc f c ns xs => exact absurd rfl (h3 _ _ _ _)
      | _ =>
        unfold isiD at hk
        simp only [ht] at hk
        split at hk
        · cases hk; rfl
        · cases hk
  cases x with
  | non =>
    obtain ⟨rfl, _⟩ := r
    obtain ⟨n1, n2⟩ := no .non (fun _ z => nomatch z) (fun _ _ _ _ z => nomatch z) (fun _ _ _ _ z => nomatch z)
    refine .inl ⟨"NoneType", .base .non, fun t nn ht => ⟨n1 t nn ht, ?_⟩, n2, own _ _ (by decide +kernel : fastBuiltinMro "NoneType" = some [.type "NoneType", .type "object"]) (fun C => by simp)⟩
    have := nat "NoneType" (by decide +kernel) t nn ht
    rw [this]
    unfold tyS at ht
    repeat' split at ht
    all_goals (first | (cases ht; rfl) | cases ht)
  | bl q =>
    obtain ⟨rfl, _⟩ := r
    obtain ⟨n1, n2⟩ := no (.bl q) (fun _ z => nomatch z) (fun _ _ _ _ z => nomatch z) (fun _ _ _ _ z => nomatch z)
    refine .inl ⟨"bool", .base (.bl _), fun t nn ht => ⟨n1 t nn ht, ?_⟩, n2, own _ _ (by decide +kernel : fastBuiltinMro "bool" = some [.type "bool", .type "int", .type "object"]) (fun C => by simp)⟩
    have := nat "bool" (by decide +kernel) t nn ht
    rw [this]
    unfold tyS at ht
    repeat' split at ht
    all_goals (first | (cases ht; rfl) | cases ht)
  | int q =>
    obtain ⟨rfl, _⟩ := r
    obtain ⟨n1, n2⟩ := no (.int q) (fun _ z => nomatch z) (fun _ _ _ _ z => nomatch z) (fun _ _ _ _ z => nomatch z)
    refine .inl ⟨"int", .base (.int _), fun t nn ht => ⟨n1 t nn ht, ?_⟩, n2, own _ _ (by decide +kernel : fastBuiltinMro "int" = some [.type "int", .type "object"]) (fun C => by simp)⟩
    have := nat "int" (by decide +kernel) t nn ht
    rw [this]
    unfold tyS at ht
    repeat' split at ht
    all_goals (first | (cases ht; rfl) | cases ht)
  | str q =>
    obtain ⟨rfl, _⟩ := r
    obtain ⟨n1, n2⟩ := no (.str q) (fun _ z => nomatch z) (fun _ _ _ _ z => nomatch z) (fun _ _ _ _ z => nomatch z)
    refine .inl ⟨"str", .base (.str _), fun t nn ht => ⟨n1 t nn ht, ?_⟩, n2, own _ _ (by decide +kernel : fastBuiltinMro "str" = some [.type "str", .type "object"]) (fun C => by simp)⟩
    have := nat "str" (by decide +kernel) t nn ht
    rw [this]
    unfold tyS at ht
    repeat' split at ht
    all_goals (first | (cases ht; rfl) | cases ht)
  | lst f xs =>
    obtain ⟨p, vs, F', rfl, h1, h2, rfl⟩ := r
    obtain ⟨n1, n2⟩ := no (.lst f xs) (fun _ z => nomatch z) (fun _ _ _ _ z => nomatch z) (fun _ _ _ _ z => nomatch z)
    refine .inl ⟨"list", .base (.lst h1.at), fun t nn ht => ⟨n1 t nn ht, ?_⟩, n2, own _ _ (by decide +kernel : fastBuiltinMro "list" = some [.type "list", .type "object"]) (fun C => by simp)⟩
    have := nat "list" (by decide +kernel) t nn ht
    rw [this]
    unfold tyS at ht
    repeat' split at ht
    all_goals (first | (cases ht; rfl) | cases ht)
  | tup f xs =>
    obtain ⟨p, vs, F', rfl, h1, h2, rfl⟩ := r
    obtain ⟨n1, n2⟩ := no (.tup f xs) (fun _ z => nomatch z) (fun _ _ _ _ z => nomatch z) (fun _ _ _ _ z => nomatch z)
    refine .inl ⟨"tuple", ?_, fun t nn ht => ⟨n1 t nn ht, ?_⟩, n2, own _ _ (by decide +kernel : fastBuiltinMro "tuple" = some [.type "tuple", .type "object"]) (fun C => by simp)⟩
    · have := h1.at
      rw [← Fc.hK] at this
      rcases this with (h | ⟨o, h⟩) | h
      · exact .base (.tup h)
      · exact .fTuple h
      · obtain ⟨o, its, n0, h3, h4, _⟩ := h
        exact .kTuple h3 h4
    · have := nat "tuple" (by decide +kernel) t nn ht
      rw [this]
      unfold tyS at ht
      repeat' split at ht
      all_goals (first | (cases ht; rfl) | cases ht)
  | ins f c ns xs =>
    refine .inr (.inl ⟨f, c, ns, xs, rfl, fun l hl => ?_⟩)
    obtain ⟨p, dx, vs, F', rfl, ea, _⟩ := r.inst
    obtain ⟨i, _⟩ := Fc.mro _ _ hl
    exact .base (.ins ea i.cl i.ha i.hn i.ht i.hm)
  | bag => exact .inr (.inr (.inl rfl))
  | exc f c ns xs =>
    refine .inr (.inr (.inr ⟨f, c, ns, xs, rfl, fun y hy => ?_⟩))
    obtain ⟨a, dx, vs, F', rfl, ea, ed, _⟩ := r.err
    exact .err (Fc.exs c y hy) ea ed
end
end TI

set_option Elab.async false
set_option linter.all false
set_option maxRecDepth 100000
/-! what is walked -/
namespace TI
open PySem PySem.Spec PyProof.Rows L2

/-! ### enumerate of a tuple -/
set_option maxHeartbeats 1000000 in
theorem meets_enumerate_newB1 {v : Value} {o : Obj} {H : Heap → Prop} (B : Begins v o H) :
    Meets (Builtin.«enumerate.__new__» ⟨[.type "enumerate", v], []⟩) (fun _ R s => H s.heap ∧
      R (.ok (.ret (.ref (s.heap.push o).objs.size))) { s with heap := (s.heap.push o).push { cls := .type "enumerate", data := .fields #[.none, .bool false, .ref s.heap.objs.size, rawInt 0, .none, .none] } }) :=
  .of_wp fun prog w A R s h => by
    obtain ⟨hp, g, d, tk, os⟩ := s; obtain ⟨h1, h⟩ := h
    have hsub := sub_enumerate
    have q1 : ∀ {A' : Around} {E : Value → Shared → Prop} {Q : Value → Shared → Prop}, Q (.ref hp.objs.size) ⟨hp.push o, g, d, tk, os⟩ → wpAny (model prog w) A' (pyIter v) Q E ⟨hp, g, d, tk, os⟩ :=
      fun q => B.iter prog w _ _ ⟨hp, g, d, tk, os⟩ _ h1 q
    wp_walk using q1
    refine wpAny_stack_any fun st => wpAny_pure ?_
    split
    · rename_i c _ _ _ _ _
      cases (c == Value.type "enumerate")
      · wp_walk using q1
        exact ⟨_, rfl, h⟩
      · wp_walk using q1
        exact ⟨_, rfl, h⟩
    · wp_walk using q1
      exact ⟨_, rfl, h⟩
theorem enum_begins1 {prog : Program} {w : World} {A : Around} {E : Value → Shared → Prop} {s : Shared} {v : Value} {o : Obj} {H : Heap → Prop} {Q : Value → Shared → Prop} (B : Begins v o H) (h1 : H s.heap)
    (h : ∀ h', IsEnum h' (s.heap.objs.size + 1) s.heap.objs.size 0 .none → h'.get? s.heap.objs.size = some o → h'.objs.size = s.heap.objs.size + 2 →
      (∀ b o, s.heap.get? b = some o → h'.get? b = some o) → Q (.ref (s.heap.objs.size + 1)) { s with heap := h' }) :
    wpAny (model prog w) A (call (.type "enumerate") [v]) Q E s := by
  refine callType_new F.called_enumerate (by decide) (F.typeCall_enumerate_1 _) (F.newCall_enumerate_1 _) (fun obj => F.args_object_init_2 obj _) F.entry_enumerate_new
    (meets_enumerate_newB1 B) ⟨h1, ?_⟩
  have hz : (s.heap.push o).objs.size = s.heap.objs.size + 1 := Heap.size_push ..
  show _ ∧ _
  rw [hz]
  have he : IsEnum ((s.heap.push o).push { cls := .type "enumerate", data := .fields #[.none, .bool false, .ref s.heap.objs.size, rawInt 0, .none, .none] }) (s.heap.objs.size + 1) s.heap.objs.size 0 .none := by
    have := Heap.get?_push_size (s.heap.push o) (o := { cls := .type "enumerate", data := .fields #[.none, .bool false, .ref s.heap.objs.size, rawInt 0, .none, .none] }) rfl
    rw [hz] at this; exact this
  refine ⟨⟨_, he, rfl⟩, h _ he (Heap.get?_push_of_some _ (Heap.get?_push_size _ B.free)) (by rw [Heap.size_push, hz]) fun b o x => Heap.get?_push_of_some _ (Heap.get?_push_of_some _ x)⟩
theorem pyNext_enum_endT {prog : Program} {w : World} {A : Around} {E : Value → Shared → Prop} {s : Shared} {e it l : Addr} {i : Nat} {items : Array Value} {old : Value} {Q : Option Value → Shared → Prop} (hh : A.handled = none)
    (he : IsEnum s.heap e it i old) (hit : s.heap.IsTupleIter it l i) (hl : s.heap.IsTuple l items) (hx : items[i]? = none)
    (hQ : ∀ h', Heap.ExtBut it s.heap h' → Q none { s with heap := h' }) : wpAny (model prog w) A (pyNext (.ref e)) Q E s := by
  have hT : s.TypeIs (.ref e) "enumerate" := ⟨_, he, rfl⟩
  unfold pyNext
  refine wpAny_bind (wpAny_attempt (wpAny_callSpecial?_slot (name := Str.ofString "__next__") hT F.slot_enumerate_next
    (wpAny_call_entry F.slot_enumerate_next hT F.entry_enumerate_next ?_ (F.args_enumerate_next_1 _))))
  show wpAny _ _ (field (.ref e) 2 >>= _) _ _ _
  refine wpAny_bind (wpAny_field he rfl (x := .ref it) rfl ?_)
  refine wpAny_bind (wpAny_nextOf_tuple_end hh hit hl hx fun h' x he' hx' => ?_)
  obtain ⟨o, ho, hc⟩ := hx'
  refine wpAny_bind (wpAny_isInstance (T := "StopIteration") (b := true) ⟨o, ho, hc⟩ isSubtype_stop ?_)
  exact wpAny_pure (hQ _ he')
def IteT (K : PySem.W.Frag) (a : Addr) : It :=
  ⟨fun i H => ∃ (xs : List V) (x : V), SqT K H a xs ∧ xs[i]? = some x, fun i H v H' => ∃ T x, v = .ref T ∧ H T = none ∧ H' = upd H T (.tup [.int (i : Nat), x]) ∧ ∀ xs, SqT K H a xs → xs[i]? = some x, fun i H => ∃ xs : List V, SqT K H a xs ∧ xs.length ≤ i⟩
theorem turn_enumT {P : Program} {w : World} {K : PySem.W.Frag} {elts : List Expr} {kk : Nat} {tpos : Pos} (a e it : Addr) :
    L2.Turn P w K (.Tuple elts kk tpos) (IteT K a) [e, it] e (fun i h => (∃ old, IsEnum h e it ((i : Nat) : Int) old) ∧ h.IsTupleIter it a i ∧ e ≠ it ∧ a ≠ it ∧ e ≠ a) where
  mem := by simp
  obj := fun i h st b hb => by
    obtain ⟨⟨old, he⟩, ⟨o, ho, hc, hd⟩, _⟩ := st
    have e' : b = e ∨ b = it := by simpa using hb
    rcases e' with z | z
    · rw [z]; exact ⟨_, he, fun v q => nomatch q⟩
    · rw [z]; exact ⟨o, ho, fun v q => by rw [hd] at q; cases q⟩
  keep := fun i h h' st k => let ⟨⟨old, he⟩, hi, hne⟩ := st; ⟨⟨old, k e (by simp) _ he⟩, hi.at fun o q => k it (by simp) o q, hne⟩
  item := by
    intro X hP hw hK hc i pins s σ H E I hf st hg
    subst hP hw hK
    obtain ⟨⟨old, he⟩, hit, hne, hai, hea⟩ := st
    obtain ⟨xs, x, hq, hx⟩ := hg
    obtain ⟨its, rv, p, hz⟩ := I.tuple hq
    obtain ⟨u, hu, ru⟩ := rv.get hx
    have hel : e < s.heap.objs.size := Heap.lt_size he
    have hil : it < s.heap.objs.size := by obtain ⟨_, q, _⟩ := hit; exact Heap.lt_size q
    have hlt : i < its.toArray.size := by
      have := (List.getElem?_eq_some_iff.mp hu).1
      simpa using this
    refine wpAny_pyNext_enum_itemD (Draws.tuple (A := X.A.in1) (I.ok.hd hc) it a hai its.toArray) he ⟨hit, p⟩ hlt hne (by simp; exact ⟨hne, hea⟩) fun x' h' tk hPx ho hst' hT hsz hk => ?_
    have ex : x' = u := by
      have h2 : its.toArray[i]? = some u := by simpa using hu
      rw [h2] at hPx
      exact (Option.some.inj hPx).symm
    subst ex
    refine ⟨_, rfl, wpAny_letOwnedTupleGo_enum (s := { s with heap := h', toks := tk + 1 }) ho fun h'' he' sb => ?_⟩
    have hT2 : h''.get? s.heap.objs.size = some { cls := .type "tuple", data := .seq #[.int i tk, x'] } := (sb.2 _ (Nat.ne_of_gt hel)).trans hT
    have new : ObjOk X.prog X.w (upd H s.heap.objs.size (.tup [.int (i : Nat), x])) h'' s.heap.objs.size (.tup [.int (i : Nat), x]) :=
      ⟨by show 2 ≤ sizeLine; decide, [.int i tk, x'], .cons ⟨_, rfl⟩ (.cons ru .nil), ⟨_, hT2, rfl, _, rfl⟩⟩
    have I1 : Inv X pins σ (upd H s.heap.objs.size (.tup [.int (i : Nat), x])) { s with heap := h'', toks := tk + 1 } :=
      I.turnedNew (ch := [e, it]) (fun b ob hb q => (sb.2 b (fun z => hb (by simp [z]))).trans (hk b ob (fun z => hb (by simp [z])) (fun z => hb (by simp [z])) q)) hf (Nat.le_refl _) new
    refine ⟨.ref s.heap.objs.size, _, I1, rfl, ⟨_, x, rfl, I.hok.fresh (Nat.le_refl _), rfl, fun ys hy => by rw [I.tuple_inj hy hq]; exact hx⟩, ⟨⟨x', ?_⟩, hst'.1.at fun o q => (sb.2 it (Ne.symm hne)).trans q, hne, hai, hea⟩, fun b hb => ?_⟩
    · have e1 : ((i + 1 : Nat) : Int) = (i : Int) + 1 := by omega
      rw [e1]; exact he'
    · have hb' : b < s.heap.objs.size := by
        have e' : b = e ∨ b = it := by simpa using hb
        rcases e' with z | z
        · rw [z]; exact hel
        · rw [z]; exact hil
      rw [upd_ne (Nat.ne_of_lt hb')]
      exact (hf b hb).1
  done := by
    intro X hP hw hK hc i pins s σ H E I hf st hg
    subst hP hw hK
    obtain ⟨⟨old, he⟩, hit, hne, hai, hea⟩ := st
    obtain ⟨xs, hq, hx⟩ := hg
    obtain ⟨its, rv, p, hz⟩ := I.tuple hq
    obtain ⟨f0, f1, f2, f3, f4, f5⟩ := hf it (by simp)
    have hl := rv.length
    exact pyNext_enum_endT (I.ok.hd hc) he hit p (by simp; omega) fun h' eb => ⟨rfl, I.turned (t' := s.toks) (fun b o hb q => eb b o hb q) f0 f1 f3 f4 f5⟩
  self := fun A i s Q E st h => let ⟨⟨_, he⟩, _⟩ := st; wpAny_pyIter_enum he h
def iEnumA (K : PySem.W.Frag) (ta : TA) : L2.TI := fun σ H R => ta σ H fun vs H1 => ∃ a xs, vs = [.ref a] ∧ ((SqL K H1 a xs ∧ R (Ite K a) H1) ∨ (SqT K H1 a xs ∧ R (IteT K a) H1))
theorem pi_enumA {X : Cx} {e : Expr} {ta : TA} {p pos tpos : Pos} {elts : List Expr} {kk : Nat} (hg : Gl X "enumerate") (hm : X.mg "enumerate" = none) (ha : PA X [e] ta) (hs : starEach [e] X.env = [(false, eval e X.env)]) :
    PI X (.Tuple elts kk tpos) (.Call (.Name "enumerate" p) [e] [] pos) (iEnumA X.K ta) := by
  refine ⟨fun pins s σ H R I h => ?_⟩
  refine Call_ (ld_blt I hg hm boot_enumerate (PyProof.Rows.callWith_type1 (thn (ha.run pos pins s σ H _ I h) fun us s1 ⟨vs, H1, I1, r1, q1⟩ => ?_) hs rfl))
  obtain ⟨a, xs, ex, q⟩ := q1
  subst ex
  cases r1 with
  | cons r rr =>
    cases rr
    cases r
    have fresh2 : ∀ b ∈ [s1.heap.objs.size + 1, s1.heap.objs.size], FpOk X pins H1 b := fun b hb => by
      have e' : b = s1.heap.objs.size + 1 ∨ b = s1.heap.objs.size := by simpa using hb
      have hle : s1.heap.objs.size ≤ b := by
        rcases e' with z | z
        · rw [z]; exact Nat.le_add_right _ _
        · rw [z]; exact Nat.le_refl _
      exact I1.fpOk hle (I1.hok.fresh hle)
    rcases q with ⟨hq, q⟩ | ⟨hq, q⟩
    · obtain ⟨its, rv, p', hz⟩ := I1.list hq
      refine call_enumerate_list p'.isList fun h' he hit hsz hk => wpAny_pyIter_enum he ?_
      have I2 : Inv X pins σ H1 { s1 with heap := h' } := I1.kept (t' := s1.toks) hk
      exact ⟨s1.heap.objs.size + 1, [s1.heap.objs.size + 1, s1.heap.objs.size], _, _, H1, rfl, I2, turn_enum a (s1.heap.objs.size + 1) s1.heap.objs.size, ⟨⟨.none, he⟩, hit, Nat.succ_ne_self _⟩, fresh2, q⟩
    · obtain ⟨its, rv, p', hz⟩ := I1.tuple hq
      have p1 : s1.heap.IsTuple a its.toArray := p'
      have la : a < s1.heap.objs.size := by obtain ⟨o, ho, _⟩ := id p1; exact Heap.lt_size ho
      refine enum_begins1 (begins_tuple a its.toArray) p1 fun h' he hit hsz hk => wpAny_pyIter_enum he ?_
      have I2 : Inv X pins σ H1 { s1 with heap := h' } := I1.kept (t' := s1.toks) hk
      exact ⟨s1.heap.objs.size + 1, [s1.heap.objs.size + 1, s1.heap.objs.size], _, _, H1, rfl, I2, turn_enumT a (s1.heap.objs.size + 1) s1.heap.objs.size, ⟨⟨.none, he⟩, ⟨_, hit, rfl, rfl⟩, Nat.succ_ne_self _, Nat.ne_of_lt la, Nat.ne_of_gt (Nat.lt_succ_of_lt la)⟩, fresh2, q⟩

/-! ### a list or a tuple, walked -/
def iSeq (K : PySem.W.Frag) (tl : TE) : L2.TI := fun σ H R => tl σ H fun x H1 => ∃ a, x = .ref a ∧ (((∃ xs, SqL K H1 a xs) ∧ R (Itl K a) H1) ∨ ((∃ xs, SqT K H1 a xs) ∧ R (Itt K a) H1))
theorem pi_seq {X : Cx} {tg l : Expr} {tl : TE} (hl : PE X l tl) : PI X tg l (iSeq X.K tl) := by
  refine ⟨fun pins s σ H R I h => ?_⟩
  refine thn (hl.run pins s σ H _ I h) fun v s1 ⟨x, H1, I1, r1, q1⟩ => ?_
  obtain ⟨a, e, q⟩ := q1
  subst e
  cases r1
  have fr : ∀ b ∈ [s1.heap.objs.size], FpOk X pins H1 b := fun b hb => by
    have e : b = s1.heap.objs.size := by simpa using hb
    subst e
    exact I1.fpOk (Nat.le_refl _) (I1.hok.fresh (Nat.le_refl _))
  rcases q with ⟨⟨xs, hq⟩, q⟩ | ⟨⟨xs, hq⟩, q⟩
  · obtain ⟨its, rv, p, hz⟩ := I1.list hq
    refine wpAny_pyIter_list p.isList ?_
    exact ⟨s1.heap.objs.size, [s1.heap.objs.size], _, _, H1, rfl, I1.kept (t' := s1.toks) fun b o e => Heap.get?_push_of_some _ e, turn_list a _, ⟨_, Heap.get?_push_size _ rfl, rfl, rfl⟩, fr, q⟩
  · obtain ⟨its, rv, p, hz⟩ := I1.tuple hq
    refine wpAny_pyIter_tuple (show s1.heap.IsTuple a its.toArray from p) ?_
    exact ⟨s1.heap.objs.size, [s1.heap.objs.size], _, _, H1, rfl, I1.kept (t' := s1.toks) fun b o e => Heap.get?_push_of_some _ e, turn_tuple a _, ⟨_, Heap.get?_push_size _ rfl, rfl, rfl⟩, fr, q⟩
end TI

set_option Elab.async false
set_option linter.all false
set_option maxRecDepth 100000
/-! walks over trees -/
namespace TI
open PySem PySem.Spec PyProof.Rows L2

section
variable {tx : Tx} {X : Cx} {P O : List Addr} {σ : L2.St} {env : Env} {b b' : Bag} {H H1 : Hp}
theorem Held.so1 {d : D} {u : V} {F : List Addr} (p : Pre tx P O σ env b' H) (h : Held tx P O H [d] b [u] H1 F) : Rep tx H1 (off P H1) (off O H1) d.so u [] := by
  have q := (h.so p).rep
  rw [List.append_nil, List.append_nil] at q
  obtain ⟨v, vs', F1, F2, e, h1, ⟨h2, h3⟩, ef⟩ := q
  subst h2; subst h3
  injection e with e1 e2
  subst e1
  rw [List.append_nil] at ef
  subst ef
  exact h1
/-- a new object over nothing own -/
theorem laid0 {P O : List Addr} {H : Hp} {es : List D} {ws : List V} {q : Addr} {o : HO} {d : D} (hb : BagOk tx b H) (r : Reps tx H (off P H) (off O H) es ws []) (hq : H q = none)
    (mk : ∀ (H2 B G : Hp), H2 q = some o → Reps tx H2 B G es ws [] → Rep tx H2 B G d (.ref q) [q]) : Held tx P O H [d] b [.ref q] (upd H q o) [q] := by
  refine ⟨fun a ha => by rw [List.mem_singleton.mp ha]; exact hq, by simp, ExB.new hq, ?_, hb.new hq⟩
  refine Reps.one (mk _ _ _ upd_same (r.mono ?_ ?_ (fun a ha => by cases ha)))
  · refine off_ex (fun a ha hn => ?_) (fun a u hn z => by rw [upd_ne (ne_of_none z hq)]; exact z)
    rcases List.mem_append.mp ha with z | z
    · exact z
    · rw [List.mem_singleton.mp z] at hn; exact absurd hq hn
  · refine off_ex (fun a ha hn => ?_) (fun a u hn z => by rw [upd_ne (ne_of_none z hq)]; exact z)
    rcases List.mem_append.mp ha with z | z
    · exact z
    · rw [List.mem_singleton.mp z] at hn; exact absurd hq hn
/-- a value without own nodes, held -/
theorem held0 {P O : List Addr} {H : Hp} {d : D} {u : V} (hb : BagOk tx b H) (r : Rep tx H (off P H) (off O H) d u []) : Held tx P O H [d] b [u] H [] :=
  ⟨fun a z => (by cases z), List.nodup_nil, ExB.refl _, Reps.one (by rw [List.append_nil, List.append_nil]; exact r), hb⟩

/-! ### the walk -/
/-- J gives the trees xs, wherever what nobody may change of H1 stands -/
def Walks (tx : Tx) (P O : List Addr) (H1 : Hp) (J : It) (xs : List D) : Prop :=
  ∀ (P' O' : List Addr) (H : Hp) (b : Bag), Ex (off P H1) (off P' H) → Ex (off O H1) (off O' H) → BagOk tx b H →
    (∀ i, xs.length ≤ i → J.stop i H) ∧ ∀ i d, xs[i]? = some d → J.go i H ∧ ∀ u H', J.yld i H u H' → ∃ F, Held tx P' O' H [d] b [u] H' F
def tEi (tx : Tx) (v : Env → M (List D)) : L2.TI := fun σ H R => ∃ P O env b xs b', Pre tx P O σ env b H ∧ v env b = some (xs, b') ∧ ∀ J H1, Held tx P O H [] b' [] H1 [] → Walks tx P O H1 J xs → R J H1
theorem PI.imp {tg e : Expr} {t t' : L2.TI} (h : PI X tg e t) (i : ∀ σ H Q, t' σ H Q → t σ H Q) : PI X tg e t' := ⟨fun pins s σ H Q I q => h.run pins s σ H Q I (i σ H Q q)⟩
theorem AtL.far {H1 H : Hp} {P O P' O' : List Addr} {f : Fl} {a : Addr} {vs : List V} (h : AtL H1 (off P H1) (off O H1) f a vs) (hf : f ≠ .own) (e1 : Ex (off P H1) (off P' H)) (e2 : Ex (off O H1) (off O' H)) : H a = some (.lst vs) := by
  cases f with
  | own => exact absurd rfl hf
  | sh => exact live_of (e2 _ _ h)
  | brw => exact live_of (e1 _ _ h)
theorem AtT.far {H1 H : Hp} {P O P' O' : List Addr} {f : Fl} {a : Addr} {vs : List V} (h : AtT tx H1 (off P H1) (off O H1) f a vs) (hf : f ≠ .own) (e1 : Ex (off P H1) (off P' H)) (e2 : Ex (off O H1) (off O' H)) : SqT tx.K H a vs := by
  cases f with
  | own => exact absurd rfl hf
  | sh => exact off_sub.sqT (e2.sqT h)
  | brw => exact off_sub.sqT (e1.sqT h)
theorem so_own (f : Fl) : Fl.so f ≠ .own := by cases f <;> decide
theorem ft_nil {f : Fl} {a : Addr} {F : List Addr} (h : [] = ft f a ++ F) : F = [] := by
  have := List.append_eq_nil_iff.mp h.symm
  exact this.2
theorem reps_far {H1 H : Hp} {P' O' : List Addr} {xs : List D} {vs : List V} (h : Reps tx H1 (off P H1) (off O H1) xs vs []) (e1 : Ex (off P H1) (off P' H)) (e2 : Ex (off O H1) (off O' H)) : Reps tx H (off P' H) (off O' H) xs vs [] :=
  h.mono e1 e2 (fun a z => by cases z)
theorem reps_get0 {H B G : Hp} {xs : List D} {vs : List V} {i : Nat} {d : D} (h : Reps tx H B G xs vs []) (e : xs[i]? = some d) : ∃ v, vs[i]? = some v ∧ Rep tx H B G d v [] := by
  obtain ⟨v, F', h1, h2, h3⟩ := h.get e
  rw [List.sublist_nil.mp h3] at h2
  exact ⟨v, h1, h2⟩
theorem walks_lst {K : PySem.W.Frag} {a : Addr} {f : Fl} {xs : List D} {vs : List V} (hf : f ≠ .own) (h : AtL H1 (off P H1) (off O H1) f a vs) (r : Reps tx H1 (off P H1) (off O H1) xs vs []) : Walks tx P O H1 (Itl K a) xs := fun P' O' H b e1 e2 hb => by
  have ha := h.far hf e1 e2
  have hr := reps_far r e1 e2
  refine ⟨fun i hi => ⟨vs, SqL.of ha, by rw [← r.length]; exact hi⟩, fun i d hd => ?_⟩
  obtain ⟨v, hv, rv⟩ := reps_get0 hr hd
  refine ⟨⟨vs, v, SqL.of ha, hv⟩, fun u H' y => ?_⟩
  obtain ⟨rfl, y⟩ := y
  have := y vs (SqL.of ha)
  rw [hv] at this
  cases this
  exact ⟨[], held0 hb rv⟩
theorem walks_tup {a : Addr} {f : Fl} {xs : List D} {vs : List V} (hf : f ≠ .own) (h : AtT tx H1 (off P H1) (off O H1) f a vs) (r : Reps tx H1 (off P H1) (off O H1) xs vs []) : Walks tx P O H1 (Itt tx.K a) xs := fun P' O' H b e1 e2 hb => by
  have ha := h.far hf e1 e2
  have hr := reps_far r e1 e2
  refine ⟨fun i hi => ⟨vs, ha, by rw [← r.length]; exact hi⟩, fun i d hd => ?_⟩
  obtain ⟨v, hv, rv⟩ := reps_get0 hr hd
  refine ⟨⟨vs, v, ha, hv⟩, fun u H' y => ?_⟩
  obtain ⟨rfl, y⟩ := y
  have := y vs ha
  rw [hv] at this
  cases this
  exact ⟨[], held0 hb rv⟩
/-- a list | a tuple -/
theorem i_seq (hK : X.K = tx.K) {tg l : Expr} {va : Env → M D} (hl : PE X l (tEv tx va)) : PI X tg l (tEi tx fun env => bnd (va env) fun x => opt (itemsD x)) := by
  refine PI.imp (pi_seq hl) fun σ H R h => ?_
  obtain ⟨P, O, env, b, xs, b', p, e0, q⟩ := h
  obtain ⟨x, b1, e1, e2⟩ := bnd_some e0
  obtain ⟨e3, eb⟩ := opt_some e2
  dsimp only at e3 eb
  subst eb
  refine ⟨P, O, env, b, x, b', p, e1, fun u H1 F1 h1 => ?_⟩
  have r := h1.so1 p
  have q := fun J w => q J H1 h1.drop w
  unfold itemsD at e3
  cases x with
  | lst f ys =>
    obtain ⟨a, vs, F', rfl, k1, k2, k3⟩ := r
    have := ft_nil k3
    subst this
    cases e3
    exact ⟨a, rfl, .inl ⟨⟨vs, SqL.of k1.at⟩, q _ (walks_lst (so_own f) k1 k2)⟩⟩
  | tup f ys =>
    obtain ⟨a, vs, F', rfl, k1, k2, k3⟩ := r
    have := ft_nil k3
    subst this
    cases e3
    refine ⟨a, rfl, .inr ⟨⟨vs, by rw [hK]; exact k1.at⟩, ?_⟩⟩
    rw [hK]
    exact q _ (walks_tup (so_own f) k1 k2)
  | _ => cases e3
theorem walks_range {lo : Int} {n : Nat} : Walks tx P O H1 (Itr lo n) ((List.range n).map fun i => .int (lo + (i : Nat))) := fun P' O' H b e1 e2 hb => by
  refine ⟨fun i hi => by show n ≤ i; simpa using hi, fun i d hd => ?_⟩
  rw [List.getElem?_map] at hd
  obtain ⟨j, hj, rfl⟩ := Option.map_eq_some_iff.mp hd
  obtain ⟨hj1, hj2⟩ := List.getElem?_eq_some_iff.mp hj
  rw [List.getElem_range] at hj2
  subst hj2
  refine ⟨by show i < n; simpa using hj1, fun u H' y => ?_⟩
  obtain ⟨rfl, rfl⟩ := y
  exact ⟨[], held0 hb ⟨rfl, rfl⟩⟩
theorem i_range1 {tg a : Expr} {p pos : Pos} {va : Env → M D} (hg : Gl X "range") (hm : X.mg "range" = none) (ha : PA X [a] (tEa tx fun env => bnd (va env) fun d => bnd (ret []) fun ds => ret (d :: ds))) (hs : starEach [a] X.env = [(false, eval a X.env)]) :
    PI X tg (.Call (.Name "range" p) [a] [] pos) (tEi tx fun env => bnd (va env) fun x => opt (range1D x)) := by
  refine PI.imp (pi_range1 hg hm ha hs) fun σ H R h => ?_
  obtain ⟨P, O, env, b, xs, b', p, e0, q⟩ := h
  obtain ⟨x, b1, e1, e2⟩ := bnd_some e0
  obtain ⟨e3, eb⟩ := opt_some e2
  dsimp only at e3 eb
  subst eb
  refine ⟨P, O, env, b, [x], b', p, ?_, fun us H1 F1 h1 => ?_⟩
  · show bnd _ _ b = _
    unfold bnd
    rw [e1]
    rfl
  unfold range1D at e3
  split at e3
  · split at e3
    · rename_i n hz
      obtain ⟨u, rfl⟩ := h1.one_of
      obtain ⟨rfl, _⟩ := h1.out1
      cases e3
      refine ⟨n, rfl, hz.1, hz.2, q _ _ h1.drop ?_⟩
      have w := walks_range (tx := tx) (P := P) (O := O) (H1 := H1) (lo := 0) (n := n.toNat)
      have e : ((List.range n.toNat).map fun (i : Nat) => D.int (0 + (i : Nat))) = ((List.range n.toNat).map fun (i : Nat) => D.int (i : Nat)) := List.map_congr_left fun i _ => by rw [Int.zero_add]
      rw [e] at w
      exact w
    · cases e3
  · cases e3
theorem i_range2 {tg a c : Expr} {p pos : Pos} {va vc : Env → M D} (hg : Gl X "range") (hm : X.mg "range" = none) (ha : PA X [a, c] (tEa tx fun env => bnd (va env) fun d => bnd (bnd (vc env) fun d => bnd (ret []) fun ds => ret (d :: ds)) fun ds => ret (d :: ds)))
    (hs : starEach [a, c] X.env = [(false, eval a X.env), (false, eval c X.env)]) (hs2 : starEach [c] X.env = [(false, eval c X.env)]) :
    PI X tg (.Call (.Name "range" p) [a, c] [] pos) (tEi tx fun env => bnd (va env) fun x => bnd (vc env) fun y => opt (range2D x y)) := by
  refine PI.imp (pi_range2 hg hm ha hs hs2) fun σ H R h => ?_
  obtain ⟨P, O, env, b, xs, b', p, e0, q⟩ := h
  obtain ⟨x, b1, e1, e2⟩ := bnd_some e0
  obtain ⟨y, b2, e3, e4⟩ := bnd_some e2
  obtain ⟨e5, eb⟩ := opt_some e4
  dsimp only at e5 eb
  subst eb
  refine ⟨P, O, env, b, [x, y], b', p, ?_, fun us H1 F1 h1 => ?_⟩
  · show bnd _ _ b = _
    unfold bnd
    rw [e1]
    dsimp only
    rw [e3]
    rfl
  unfold range2D at e5
  split at e5
  · split at e5
    · rename_i l n hz
      have hl := h1.rep.length
      obtain ⟨u, w, rfl⟩ : ∃ u w, us = [u, w] := by
        cases us with
        | nil => simp at hl
        | cons u t =>
          cases t with
          | nil => simp at hl
          | cons w t2 =>
            cases t2 with
            | nil => exact ⟨u, w, rfl⟩
            | cons _ _ => simp at hl
      obtain ⟨F1, F2, _, r1, r2⟩ := h1.out2
      obtain ⟨rfl, _⟩ := r1
      obtain ⟨rfl, _⟩ := r2
      cases e5
      exact ⟨l, n, rfl, ⟨hz.1.1, hz.1.2, hz.2.1, hz.2.2⟩, q _ _ h1.drop walks_range⟩
    · cases e5
  · cases e5
/-- a pair of two values -/
theorem held_pair {P O : List Addr} {H : Hp} {x y : D} {u w : V} {T : Addr} (hb : BagOk tx b H) (r1 : Rep tx H (off P H) (off O H) x u []) (r2 : Rep tx H (off P H) (off O H) y w []) (hT : H T = none) :
    Held tx P O H [pairD x y] b [.ref T] (upd H T (.tup [u, w])) [T] :=
  laid0 (es := [x, y]) (ws := [u, w]) hb ⟨u, [w], [], [], rfl, r1, Reps.one r2, rfl⟩ hT fun H2 B G e r => ⟨T, [u, w], [], rfl, e, r, rfl⟩
theorem walks_enum {a : Addr} {f : Fl} {xs : List D} {vs : List V} {K : PySem.W.Frag} (hf : f ≠ .own) (h : AtL H1 (off P H1) (off O H1) f a vs) (r : Reps tx H1 (off P H1) (off O H1) xs vs []) :
    Walks tx P O H1 (Ite K a) (List.zipWith (fun (i : Nat) y => pairD (.int (i : Nat)) y) (List.range xs.length) xs) := fun P' O' H b e1 e2 hb => by
  have ha := h.far hf e1 e2
  have hr := reps_far r e1 e2
  refine ⟨fun i hi => ⟨vs, SqL.of ha, by rw [← r.length]; simpa using hi⟩, fun i d hd => ?_⟩
  rw [List.getElem?_zipWith] at hd
  cases hx : xs[i]? with
  | none => rw [hx] at hd; cases hj : (List.range xs.length)[i]? <;> rw [hj] at hd <;> cases hd
  | some x =>
    have hi : i < xs.length := (List.getElem?_eq_some_iff.mp hx).1
    rw [hx, List.getElem?_range hi] at hd
    cases hd
    obtain ⟨v, hv, rv⟩ := reps_get0 hr hx
    refine ⟨⟨vs, v, SqL.of ha, hv⟩, fun u H' y => ?_⟩
    obtain ⟨T, z, rfl, hT, rfl, y⟩ := y
    have := y vs (SqL.of ha)
    rw [hv] at this
    cases this
    exact ⟨[T], held_pair hb ⟨rfl, rfl⟩ rv hT⟩
theorem walks_enumT {a : Addr} {f : Fl} {xs : List D} {vs : List V} (hf : f ≠ .own) (h : AtT tx H1 (off P H1) (off O H1) f a vs) (r : Reps tx H1 (off P H1) (off O H1) xs vs []) :
    Walks tx P O H1 (IteT tx.K a) (List.zipWith (fun (i : Nat) y => pairD (.int (i : Nat)) y) (List.range xs.length) xs) := fun P' O' H b e1 e2 hb => by
  have ha := h.far hf e1 e2
  have hr := reps_far r e1 e2
  refine ⟨fun i hi => ⟨vs, ha, by rw [← r.length]; simpa using hi⟩, fun i d hd => ?_⟩
  rw [List.getElem?_zipWith] at hd
  cases hx : xs[i]? with
  | none => rw [hx] at hd; cases hj : (List.range xs.length)[i]? <;> rw [hj] at hd <;> cases hd
  | some x =>
    have hi : i < xs.length := (List.getElem?_eq_some_iff.mp hx).1
    rw [hx, List.getElem?_range hi] at hd
    cases hd
    obtain ⟨v, hv, rv⟩ := reps_get0 hr hx
    refine ⟨⟨vs, v, ha, hv⟩, fun u H' y => ?_⟩
    obtain ⟨T, z, rfl, hT, rfl, y⟩ := y
    have := y vs ha
    rw [hv] at this
    cases this
    exact ⟨[T], held_pair hb ⟨rfl, rfl⟩ rv hT⟩
theorem i_enum (hK : X.K = tx.K) {e : Expr} {p pos tpos : Pos} {elts : List Expr} {kk : Nat} {va : Env → M D} (hg : Gl X "enumerate") (hm : X.mg "enumerate" = none) (ha : PA X [e] (tEa tx fun env => bnd (va env) fun d => bnd (ret []) fun ds => ret (d :: ds)))
    (hs : starEach [e] X.env = [(false, eval e X.env)]) : PI X (.Tuple elts kk tpos) (.Call (.Name "enumerate" p) [e] [] pos) (tEi tx fun env => bnd (va env) fun x => opt (enumD x)) := by
  refine PI.imp (pi_enumA hg hm ha hs) fun σ H R h => ?_
  obtain ⟨P, O, env, b, xs, b', p, e0, q⟩ := h
  obtain ⟨x, b1, e1, e2⟩ := bnd_some e0
  obtain ⟨e3, eb⟩ := opt_some e2
  dsimp only at e3 eb
  subst eb
  refine ⟨P, O, env, b, [x], b', p, ?_, fun us H1 F1 h1 => ?_⟩
  · show bnd _ _ b = _
    unfold bnd
    rw [e1]
    rfl
  obtain ⟨u, rfl⟩ := h1.one_of
  have r := h1.so1 p
  have q := fun J w => q J H1 h1.drop w
  unfold enumD itemsD at e3
  cases x with
  | lst f ys =>
    obtain ⟨a, vs, F', rfl, k1, k2, k3⟩ := r
    have := ft_nil k3
    subst this
    cases e3
    exact ⟨a, vs, rfl, .inl ⟨SqL.of k1.at, q _ (walks_enum (so_own f) k1 k2)⟩⟩
  | tup f ys =>
    obtain ⟨a, vs, F', rfl, k1, k2, k3⟩ := r
    have := ft_nil k3
    subst this
    cases e3
    refine ⟨a, vs, rfl, .inr ⟨by rw [hK]; exact k1.at, ?_⟩⟩
    rw [hK]
    exact q _ (walks_enumT (so_own f) k1 k2)
  | _ => cases e3
def AtK (tx : Tx) : Bool → Hp → Hp → Hp → Fl → Addr → List V → Prop
  | true, H, B, G, f, a, vs => AtT tx H B G f a vs
  | false, H, B, G, f, a, vs => AtL H B G f a vs
theorem AtK.far {k : Bool} {H1 H : Hp} {P O P' O' : List Addr} {f : Fl} {a : Addr} {vs : List V} (h : AtK tx k H1 (off P H1) (off O H1) f a vs) (hf : f ≠ .own) (e1 : Ex (off P H1) (off P' H)) (e2 : Ex (off O H1) (off O' H)) : TIZ.KSq k tx.K H a vs := by
  cases k with
  | true => exact AtT.far h hf e1 e2
  | false => exact SqL.of (AtL.far h hf e1 e2)
theorem AtK.sq {k : Bool} {H1 : Hp} {P O : List Addr} {f : Fl} {a : Addr} {vs : List V} (h : AtK tx k H1 (off P H1) (off O H1) f a vs) : TIZ.KSq k tx.K H1 a vs := by
  cases k with
  | true => exact AtT.at h
  | false => exact SqL.of (AtL.at h)
theorem walks_zip {k k' : Bool} {a c : Addr} {f g : Fl} {xs ys : List D} {vs ws : List V} (hf : f ≠ .own) (hg : g ≠ .own) (h : AtK tx k H1 (off P H1) (off O H1) f a vs) (r : Reps tx H1 (off P H1) (off O H1) xs vs [])
    (h' : AtK tx k' H1 (off P H1) (off O H1) g c ws) (r' : Reps tx H1 (off P H1) (off O H1) ys ws []) : Walks tx P O H1 (TIZ.ItzK k k' tx.K a c) (List.zipWith pairD xs ys) := fun P' O' H b e1 e2 hb => by
  have ha := h.far hf e1 e2
  have hr := reps_far r e1 e2
  have ha' := h'.far hg e1 e2
  have hr' := reps_far r' e1 e2
  refine ⟨fun i hi => ⟨vs, ws, ha, ha', ?_⟩, fun i d hd => ?_⟩
  · rw [← r.length, ← r'.length]
    rw [List.length_zipWith] at hi
    omega
  rw [List.getElem?_zipWith] at hd
  cases hx : xs[i]? with
  | none => rw [hx] at hd; cases hd
  | some x =>
    cases hy : ys[i]? with
    | none => rw [hx, hy] at hd; cases hd
    | some y =>
      rw [hx, hy] at hd
      cases hd
      obtain ⟨v, hv, rv⟩ := reps_get0 hr hx
      obtain ⟨w, hw, rw_⟩ := reps_get0 hr' hy
      refine ⟨⟨vs, ws, v, w, ha, ha', hv, hw⟩, fun u H' yl => ?_⟩
      obtain ⟨T, z, z', rfl, hT, rfl, y1, y2⟩ := yl
      have q1 := y1 vs ha
      rw [hv] at q1
      cases q1
      have q2 := y2 ws ha'
      rw [hw] at q2
      cases q2
      exact ⟨[T], held_pair hb rv rw_ hT⟩
/-- a list | a tuple, without what is its own -/
theorem seq_rep {H : Hp} {P O : List Addr} {x : D} {xs : List D} {u : V} (h : itemsD x = some xs) (r : Rep tx H (off P H) (off O H) x.so u []) : ∃ k f a vs, f ≠ .own ∧ u = .ref a ∧ AtK tx k H (off P H) (off O H) f a vs ∧ Reps tx H (off P H) (off O H) xs vs [] := by
  unfold itemsD at h
  cases x with
  | lst f ys =>
    obtain ⟨a, vs, F', rfl, k1, k2, k3⟩ := r
    have := ft_nil k3
    subst this
    cases h
    exact ⟨false, _, a, vs, so_own f, rfl, k1, k2⟩
  | tup f ys =>
    obtain ⟨a, vs, F', rfl, k1, k2, k3⟩ := r
    have := ft_nil k3
    subst this
    cases h
    exact ⟨true, _, a, vs, so_own f, rfl, k1, k2⟩
  | _ => cases h
theorem i_zip (hK : X.K = tx.K) {e e2 : Expr} {p pos tpos : Pos} {elts : List Expr} {kk : Nat} {va vc : Env → M D} (hg : Gl X "zip") (hm : X.mg "zip" = none) (ha : PA X [e, e2] (tEa tx fun env => bnd (va env) fun d => bnd (bnd (vc env) fun d => bnd (ret []) fun ds => ret (d :: ds)) fun ds => ret (d :: ds)))
    (hs : starEach [e, e2] X.env = (false, eval e X.env) :: starEach [e2] X.env) (hpl : (backTo pos (starEach [e2] X.env)).any (·.1) = false) :
    PI X (.Tuple elts kk tpos) (.Call (.Name "zip" p) [e, e2] [] pos) (tEi tx fun env => bnd (va env) fun x => bnd (vc env) fun y => opt (zipD x y)) := by
  refine PI.imp (TIZ.pi_zipK hg hm ha hs hpl) fun σ H R h => ?_
  obtain ⟨P, O, env, b, xs, b', p, e0, q⟩ := h
  obtain ⟨x, b1, e1, e2⟩ := bnd_some e0
  obtain ⟨y, b2, e3, e4⟩ := bnd_some e2
  obtain ⟨e5, eb⟩ := opt_some e4
  dsimp only at e5 eb
  subst eb
  refine ⟨P, O, env, b, [x, y], b', p, ?_, fun us H1 F1 h1 => ?_⟩
  · show bnd _ _ b = _
    unfold bnd
    rw [e1]
    dsimp only
    rw [e3]
    rfl
  have r := (h1.so p).rep
  rw [List.append_nil, List.append_nil] at r
  obtain ⟨u, us', F2, F3, rfl, r1, ⟨w, us2, F4, F5, rfl, r2, ⟨rfl, z3⟩, z2⟩, z1⟩ := r
  subst z3
  have z4 := List.append_eq_nil_iff.mp z1.symm
  obtain ⟨rfl, rfl⟩ := z4
  have z5 := List.append_eq_nil_iff.mp z2.symm
  obtain ⟨rfl, _⟩ := z5
  have q := fun J w => q J H1 h1.drop w
  unfold zipD at e5
  cases ex : itemsD x with
  | none => rw [ex] at e5; cases itemsD y <;> cases e5
  | some xs' =>
    cases ey : itemsD y with
    | none => rw [ex, ey] at e5; cases e5
    | some ys' =>
      rw [ex, ey] at e5
      cases e5
      obtain ⟨k, f, a, vs, hf, rfl, k1, k2⟩ := seq_rep ex r1
      obtain ⟨k', g, c, ws, hg2, rfl, l1, l2⟩ := seq_rep ey r2
      exact ⟨a, c, vs, ws, k, k', rfl, by rw [hK]; exact k1.sq, by rw [hK]; exact l1.sq, by rw [hK]; exact q _ (walks_zip hf hg2 k1 k2 l1 l2)⟩
end
end TI

set_option Elab.async false
set_option linter.all false
set_option maxRecDepth 100000
/-! targets; list comprehensions -/
namespace TI
open PySem PySem.Spec PyProof.Rows L2

theorem wipe_get (σ : L2.St) (i : Nat) : ∀ vs : List Nat, (wipe σ vs)[i]? = if i ∈ vs then (σ[i]?).map (fun _ => none) else σ[i]?
  | [] => by simp [wipe]
  | v :: vs => by
    unfold wipe
    have ih := wipe_get σ i vs
    by_cases h : v = i
    · subst h
      rw [if_pos List.mem_cons_self]
      rw [List.getElem?_set_self']
      rw [ih]
      by_cases h2 : v ∈ vs
      · rw [if_pos h2]
        cases σ[v]? <;> rfl
      · rw [if_neg h2]
        cases σ[v]? <;> rfl
    · rw [List.getElem?_set_ne h, ih]
      have : (i ∈ v :: vs) ↔ i ∈ vs := by
        rw [List.mem_cons]
        exact ⟨fun z => z.elim (fun e => absurd e.symm h) id, .inr⟩
      simp only [this]
theorem wipe_set {σ : L2.St} {i : Nat} {x : Option V} {vs : List Nat} (h : i ∈ vs) : wipe (σ.set i x) vs = wipe σ vs := by
  apply List.ext_getElem?
  intro j
  rw [wipe_get, wipe_get]
  by_cases hj : j ∈ vs
  · rw [if_pos hj, if_pos hj]
    by_cases e : i = j
    · subst e
      rw [List.getElem?_set_self']
      cases σ[i]? <;> rfl
    · rw [List.getElem?_set_ne e]
  · rw [if_neg hj, if_neg hj]
    have e : i ≠ j := fun e => hj (e ▸ h)
    rw [List.getElem?_set_ne e]
theorem wipe_wipe {σ : L2.St} {vs : List Nat} : wipe (wipe σ vs) vs = wipe σ vs := by
  apply List.ext_getElem?
  intro j
  rw [wipe_get, wipe_get]
  by_cases hj : j ∈ vs
  · rw [if_pos hj, if_pos hj]
    cases σ[j]? <;> rfl
  · rw [if_neg hj]

section
variable {tx : Tx} {P O : List Addr} {σ : L2.St} {env : Env} {b b' : Bag} {H H1 : Hp}
theorem EnvR.set' {H B G : Hp} {d : D} {v : V} {F' : List Addr} (r : Rep tx H B G d v F') {env : Env} {σ : L2.St} {F : List Addr} (i : Nat) (h : EnvR tx H B G env σ F) :
    ∃ Fa Fb Fc, F = Fa ++ Fb ++ Fc ∧ (EnvR tx H B G (env.set i (some d)) (σ.set i (some v)) (Fa ++ F' ++ Fc) ∨ EnvR tx H B G (env.set i (some d)) (σ.set i (some v)) F) := by
  by_cases hi : i < env.length
  · obtain ⟨Fa, Fb, Fc, e, q⟩ := EnvR.set r i h hi
    exact ⟨Fa, Fb, Fc, e, .inl q⟩
  · refine ⟨F, [], [], by simp, .inr ?_⟩
    rw [List.set_eq_of_length_le (by omega), List.set_eq_of_length_le (by rw [← h.length]; omega)]
    exact h
theorem Pre.set {d : D} {u : V} (p : Pre tx P O σ env b H) (r : Rep tx H (off P H) (off O H) d u []) (i : Nat) : Pre tx P O (σ.set i (some u)) (env.set i (some d)) b H := by
  obtain ⟨F, he, hF⟩ := p.env
  obtain ⟨Fa, Fb, Fc, e, q⟩ := he.set' r i
  rcases q with q | q
  · refine ⟨p.sub, p.bag, p.live, ⟨_, q, fun a ha => hF a ?_⟩, p.ok⟩
    subst e
    rw [List.append_nil] at ha
    rcases List.mem_append.mp ha with z | z
    · exact List.mem_append_left _ (List.mem_append_left _ z)
    · exact List.mem_append_right _ z
  · exact ⟨p.sub, p.bag, p.live, ⟨_, q, hF⟩, p.ok⟩
theorem Pre.wiped (p : Pre tx P O σ env b H) (vs : List Nat) : Pre tx P O (wipe σ vs) (wipeE env vs) b H := by
  obtain ⟨F, he, hF⟩ := p.env
  obtain ⟨F', s, q⟩ := he.wipe vs
  exact ⟨p.sub, p.bag, p.live, ⟨F', q, fun a ha => hF a (s.subset ha)⟩, p.ok⟩
/-- the heap has grown apart -/
theorem Pre.grow {H2 : Hp} {b2 : Bag} (p : Pre tx P O σ env b H) (ex : ExB tx.β H H2) (ok : BagOk tx b2 H2) : Pre tx P O σ env b2 H2 := by
  have q := p.step (F := []) (fun a z => (by cases z)) ex (fun a z => (by cases z)) ok
  rw [List.append_nil, List.append_nil] at q
  exact q
def gsOf : List Nat → TGs
  | [] => gNil
  | i :: is => gCons (gName i) (gsOf is)
def gOf (K : PySem.W.Frag) : ITg → TG
  | .name i => gName i
  | .tup is => gTup K is.length (gsOf is)
theorem set_tgs {vs : List Nat} {Z : L2.St → Hp → Prop} : ∀ {is : List Nat} {ds : List D} {us : List V} {σ : L2.St} {env env2 : Env}, Pre tx P O σ env b H → Reps tx H (off P H) (off O H) ds us [] → setsE is ds env = some env2 → (∀ i ∈ is, i ∈ vs) →
    (∀ σ2, Pre tx P O σ2 env2 b H → wipe σ2 vs = wipe σ vs → Z σ2 H) → gsOf is us σ H Z
  | [], [], us, σ, env, env2, p, r, e, hv, hz => by
    obtain ⟨rfl, _⟩ := r
    cases e
    exact ⟨rfl, hz σ p rfl⟩
  | [], _ :: _, us, σ, env, env2, p, r, e, hv, hz => by cases e
  | _ :: _, [], us, σ, env, env2, p, r, e, hv, hz => by cases e
  | i :: is, d :: ds, us, σ, env, env2, p, r, e, hv, hz => by
    obtain ⟨u, us', F1, F2, rfl, h1, h2, h3⟩ := r
    obtain ⟨rfl, rfl⟩ := List.append_eq_nil_iff.mp h3.symm
    refine ⟨u, us', rfl, set_tgs (p.set h1 i) h2 e (fun j hj => hv j (List.mem_cons_of_mem _ hj)) fun σ2 p2 hw => hz σ2 p2 ?_⟩
    rw [hw, wipe_set (hv i List.mem_cons_self)]
theorem set_tg {vs : List Nat} {Z : L2.St → Hp → Prop} {tg : ITg} {d : D} {u : V} {env2 : Env} (p : Pre tx P O σ env b H) (r : Rep tx H (off P H) (off O H) d u []) (hd : ∀ f xs, d = .tup f xs → f ≠ .own) (e : tgE tg d env = some env2) (hv : ∀ i ∈ tg.ix, i ∈ vs)
    (hz : ∀ σ2, Pre tx P O σ2 env2 b H → wipe σ2 vs = wipe σ vs → Z σ2 H) : gOf tx.K tg u σ H Z := by
  cases tg with
  | name i =>
    cases e
    exact hz _ (p.set r i) (wipe_set (hv i (List.mem_singleton.mpr rfl)))
  | tup is =>
    cases d with
    | tup f ds =>
      obtain ⟨a, us, F', rfl, h1, h2, h3⟩ := r
      have := ft_nil h3
      subst this
      refine ⟨a, us, rfl, h1.at, ?_, set_tgs p h2 e hv hz⟩
      have key : ∀ (is : List Nat) (ds : List D) (env : Env), setsE is ds env = some env2 → ds.length = is.length := by
        intro is
        induction is with
        | nil =>
          intro ds env e
          cases ds with
          | nil => rfl
          | cons _ _ => cases e
        | cons i is ih =>
          intro ds env e
          cases ds with
          | nil => cases e
          | cons d ds => simp [ih ds _ e]
      rw [← h2.length]
      exact key is ds env e
    | _ => cases e

/-! ### the new list of a comprehension -/
theorem Held.grow {ds : List D} {us : List V} {F : List Addr} {b2 : Bag} {H2 : Hp} (p : Pre tx P O σ env b' H) (h : Held tx P O H ds b us H1 F) (ex : ExB tx.β H1 H2) (ok : BagOk tx b2 H2) : Held tx P O H ds b2 us H2 F := by
  refine ⟨h.fresh, h.nd, h.ex.trans ex, h.rep.mono ?_ ?_ (fun a ha o ho => ex a o (p.neβ (h.fresh a ha)) ho), ok⟩
  · exact off_ex (fun a ha _ => ha) (fun a o hn ho => ex a o (fun z => hn (z ▸ List.mem_append_left _ p.bag)) ho)
  · exact off_ex (fun a ha _ => ha) (fun a o hn ho => ex a o (fun z => hn (z ▸ List.mem_append_left _ p.bagO)) ho)
theorem acc_at {Dd : Addr} {ds : List D} {F : List Addr} (h : Held tx P O H [.lst .own ds] b [.ref Dd] H1 (Dd :: F)) : ∃ acc, H1 Dd = some (.lst acc) ∧ Reps tx H1 (off (P ++ Dd :: F) H1) (off (O ++ Dd :: F) H1) ds acc F := by
  obtain ⟨a, vs, F', e, h1, h2, h3⟩ := h.out1
  cases e
  have h3 : Dd :: F = Dd :: F' := h3
  injection h3 with _ h4
  subst h4
  exact ⟨vs, h1, h2⟩
theorem acc_push {Dd : Addr} {ds : List D} {F F4 : List Addr} {y : D} {u : V} {H4 : Hp} {b4 : Bag} (p : Pre tx P O σ env b' H) (hD : H Dd = none) (h : Held tx P O H [.lst .own ds] b [.ref Dd] H1 (Dd :: F)) (h4 : Held tx (P ++ Dd :: F) (O ++ Dd :: F) H1 [y] b4 [u] H4 F4) :
    ∃ acc, H4 Dd = some (.lst acc) ∧ acc.length = ds.length ∧ Held tx P O H [.lst .own (ds ++ [y])] b4 [.ref Dd] (upd H4 Dd (.lst (acc ++ [u]))) (Dd :: (F ++ F4)) := by
  obtain ⟨acc, ha, hr⟩ := acc_at h
  have nβ : Dd ≠ tx.β := p.neβ hD
  have nι : Dd ≠ tx.ι := fun z => p.ok.liveι (z ▸ hD)
  have h5 := Held.app p h h4
  have nd := h5.nd
  rw [List.cons_append] at nd
  have nF := (List.nodup_cons.mp nd).1
  refine ⟨acc, h4.ex _ _ nβ ha, hr.length.symm, fun a z => h5.fresh a (by rw [List.cons_append]; exact z), nd, ?_, ?_, h4.ok.upd nβ nι⟩
  · exact fun a o hn ho => by
      by_cases e : a = Dd
      · subst e; rw [hD] at ho; cases ho
      · rw [upd_ne e]; exact h5.ex a o hn ho
  · have r2 := (h4.out1)
    have r1 : Reps tx H4 (off (P ++ Dd :: F ++ F4) H4) (off (O ++ Dd :: F ++ F4) H4) ds acc F := hr.mono (off_step (List.mem_append_left _ p.bag) h4.ex h4.fresh) (off_step (List.mem_append_left _ p.bagO) h4.ex h4.fresh)
      (fun a ha o ho => h4.ex a o (p.neβ (h.fresh a (List.mem_cons_of_mem _ ha))) ho)
    have r3 := r1.append (Reps.one r2)
    refine Reps.one ⟨Dd, acc ++ [u], F ++ F4, rfl, upd_same, r3.mono ?_ ?_ ?_, rfl⟩
    · refine off_ex (fun a z hn => ?_) (fun a o hn ho => ?_)
      · simp only [List.append_assoc, List.cons_append] at z ⊢
        exact z
      · rw [upd_ne]
        · exact ho
        · rintro rfl
          exact hn (by simp)
    · refine off_ex (fun a z hn => ?_) (fun a o hn ho => ?_)
      · simp only [List.append_assoc, List.cons_append] at z ⊢
        exact z
      · rw [upd_ne]
        · exact ho
        · rintro rfl
          exact hn (by simp)
    · intro a hm o ho
      rw [upd_ne]
      · exact ho
      · rintro rfl
        exact nF hm
/-- the names behind a growth that changes nothing but what nobody may borrow -/
theorem Pre.step' {H2 : Hp} {b2 : Bag} {F : List Addr} (p : Pre tx P O σ env b H) (fresh : ∀ a ∈ F, H a = none) (ex : ∀ a o, a ∉ P → H a = some o → H2 a = some o) (lp : ∀ a ∈ P, H2 a ≠ none) (lf : ∀ a ∈ F, H2 a ≠ none) (ok : BagOk tx b2 H2) : Pre tx (P ++ F) (O ++ F) σ env b2 H2 := by
  obtain ⟨Fe, he, hF⟩ := p.env
  refine ⟨fun a ha => ?_, List.mem_append_left _ p.bag, fun a ha => ?_, ⟨Fe, he.mono ?_ ?_ (fun a ha o ho => ex a o (hF a ha).2 ho), fun a ha => ⟨List.mem_append_left _ (hF a ha).1, fun z => ?_⟩⟩, ok⟩
  · rcases List.mem_append.mp ha with h | h
    · exact List.mem_append_left _ (p.sub a h)
    · exact List.mem_append_right _ h
  · rcases List.mem_append.mp ha with h | h
    · by_cases hp : a ∈ P
      · exact lp a hp
      · cases e : H a with
        | none => exact absurd e (p.live a h)
        | some o => rw [ex a o hp e]; intro z; cases z
    · exact lf a h
  · refine off_ex (fun a ha hn => ?_) (fun a o hn ho => ex a o hn ho)
    rcases List.mem_append.mp ha with h | h
    · exact h
    · exact absurd (fresh a h) hn
  · refine off_ex (fun a ha hn => ?_) (fun a o hn ho => ex a o (fun z => hn (p.sub a z)) ho)
    rcases List.mem_append.mp ha with h | h
    · exact h
    · exact absurd (fresh a h) hn
  · rcases List.mem_append.mp z with h | h
    · exact (hF a ha).2 h
    · exact p.live a (hF a ha).1 (fresh a h)
theorem so_tup {d : D} {f : Fl} {xs : List D} (h : d.so = .tup f xs) : f ≠ .own := by
  cases d with
  | tup g ys => injection h with h1 h2; rw [← h1]; exact so_own g
  | _ => cases h
/-- the grounds from the heap H2 on: what stands there stands at H', and the names -/
structure Far (tx : Tx) (P O : List Addr) (Dd : Addr) (F : List Addr) (H2 : Hp) (F' : List Addr) (H' : Hp) (b' : Bag) : Prop where
  p : Ex (off (P ++ Dd :: F) H2) (off (P ++ Dd :: F') H')
  o : Ex (off (O ++ Dd :: F) H2) (off (O ++ Dd :: F') H')
  pre : ∀ σ env b, Pre tx (P ++ Dd :: F) (O ++ Dd :: F) σ env b H2 → Pre tx (P ++ Dd :: F') (O ++ Dd :: F') σ env b' H'
theorem Far.grow {Dd : Addr} {F : List Addr} {H2 H' : Hp} {b' : Bag} (hP : tx.β ∈ P) (hO : tx.β ∈ O) (ex : ExB tx.β H2 H') (ok : BagOk tx b' H') : Far tx P O Dd F H2 F H' b' :=
  ⟨off_ex (fun a ha _ => ha) (fun a o hn ho => ex a o (fun z => hn (z ▸ List.mem_append_left _ hP)) ho), off_ex (fun a ha _ => ha) (fun a o hn ho => ex a o (fun z => hn (z ▸ List.mem_append_left _ hO)) ho), fun σ env b p => p.grow ex ok⟩
theorem Far.trans {Dd : Addr} {F F1 F2 : List Addr} {H0 H1 H2 : Hp} {b1 b2 : Bag} (f : Far tx P O Dd F H0 F1 H1 b1) (g : Far tx P O Dd F1 H1 F2 H2 b2) : Far tx P O Dd F H0 F2 H2 b2 := ⟨f.p.trans g.p, f.o.trans g.o, fun σ env b p => g.pre _ _ _ (f.pre _ _ _ p)⟩
/-- one turn of a comprehension -/
theorem turn1 {Dd : Addr} {σ' : L2.St} {env' : Env} {ds : List D} {bi b3 : Bag} {H2 H3 : Hp} {F F1 : List Addr} {d : D} {x : V} {tg : ITg} {r : Option D} {c : Env → M Bool} {v : Env → M D} {Nx : Hp → Prop}
    (p1 : Pre tx P O σ env b H) (hD : H Dd = none) (held : Held tx P O H [.lst .own ds] bi [.ref Dd] H2 (Dd :: F)) (p2 : Pre tx (P ++ Dd :: F) (O ++ Dd :: F) σ' env' bi H2) (hy : Held tx (P ++ Dd :: F) (O ++ Dd :: F) H2 [d] bi [x] H3 F1)
    (e : turnM tg env' (fun env2 => bnd (c env2) fun kk => if kk = true then bnd (v env2) fun y => ret (some y) else ret none) d bi = some (r, b3)) (hl : r.isSome = true → ds.length < sizeLine)
    (hn : ∀ F' H', Held tx P O H [.lst .own (ds ++ r.toList)] b3 [.ref Dd] H' (Dd :: F') → Far tx P O Dd F H2 F' H' b3 → Nx H') :
    gOf tx.K tg x (wipe σ' tg.ix) H3 fun σ2 H4 => wipe σ2 tg.ix = wipe σ' tg.ix ∧ tEt tx c σ2 H4 fun k H5 => if k = true then tEv tx v σ2 H5 fun y H6 => ∃ acc, H6 Dd = some (.lst acc) ∧ acc.length < sizeLine ∧ Nx (upd H6 Dd (.lst (acc ++ [y]))) else Nx H5 := by
  obtain ⟨env2, b4, e1, e2⟩ := bnd_some e
  obtain ⟨e3, eb⟩ := opt_some e1
  dsimp only at e3 eb
  subst eb
  refine set_tg ((p2.grow hy.ex hy.ok).wiped tg.ix) (hy.so1 p2) (fun f xs z => so_tup z) e3 (fun i hi => hi) fun σ2 p4 hw => ⟨hw.trans wipe_wipe, ?_⟩
  obtain ⟨kk, b5, e5, e6⟩ := bnd_some e2
  refine ⟨_, _, env2, b4, kk, b5, p4, e5, fun H5 h5 => ?_⟩
  have ex25 := hy.ex.trans h5.ex
  cases kk with
  | false =>
    rw [if_neg (by decide)] at e6
    show Nx H5
    have e7 := ret_some e6
    injection e7 with e8 e9
    subst e8; subst e9
    refine hn F H5 ?_ (Far.grow p1.bag p1.bagO ex25 h5.ok)
    rw [Option.toList_none, List.append_nil]
    exact held.grow p1 ex25 h5.ok
  | true =>
    rw [if_pos rfl] at e6
    show tEv tx v σ2 H5 fun y H6 => ∃ acc, H6 Dd = some (.lst acc) ∧ acc.length < sizeLine ∧ Nx (upd H6 Dd (.lst (acc ++ [y])))
    obtain ⟨y, b6, e7, e8⟩ := bnd_some e6
    have e9 := ret_some e8
    injection e9 with e10 e11
    subst e10; subst e11
    refine ⟨_, _, env2, b5, y, b3, p4.grow h5.ex h5.ok, e7, fun u H6 F6 h6 => ?_⟩
    obtain ⟨acc, ha, hl', hp⟩ := acc_push p1 hD (held.grow p1 ex25 h5.ok) h6
    have nβ : Dd ≠ tx.β := p1.neβ hD
    have ex26 := ex25.trans h6.ex
    have fr : ∀ a ∈ F6, H2 a = none := fun a ha => by
      cases e : H2 a with
      | none => rfl
      | some o =>
        have q := h6.fresh a ha
        by_cases hb : a = tx.β
        · rw [hb] at q; exact absurd q h5.ok.live
        · rw [ex25 a o hb e] at q; cases q
    refine ⟨acc, ha, by rw [hl']; exact hl rfl, hn (F ++ F6) _ hp ⟨?_, ?_, fun σ env b p => ?_⟩⟩
    · refine off_ex (fun a ha hn => ?_) (fun a o hn ho => ?_)
      · simp only [List.mem_append, List.mem_cons] at ha ⊢
        rcases ha with h | h | h | h
        · exact .inl h
        · exact .inr (.inl h)
        · exact .inr (.inr h)
        · exact absurd (fr a h) hn
      · rw [upd_ne (fun z => hn (by rw [z]; simp))]
        exact ex26 a o (fun z => hn (z ▸ List.mem_append_left _ p1.bag)) ho
    · refine off_ex (fun a ha hn => ?_) (fun a o hn ho => ?_)
      · simp only [List.mem_append, List.mem_cons] at ha ⊢
        rcases ha with h | h | h | h
        · exact .inl h
        · exact .inr (.inl h)
        · exact .inr (.inr h)
        · exact absurd (fr a h) hn
      · rw [upd_ne (fun z => hn (by rw [z]; simp))]
        exact ex26 a o (fun z => hn (z ▸ List.mem_append_left _ p1.bagO)) ho
    · have up : ∀ a, H6 a ≠ none → upd H6 Dd (.lst (acc ++ [u])) a ≠ none := fun a h => by
        by_cases z : a = Dd
        · subst z; rw [upd_same]; intro q; cases q
        · rw [upd_ne z]; exact h
      have q := p.step' (H2 := upd H6 Dd (.lst (acc ++ [u]))) (F := F6) (b2 := b3) fr (fun a o hn ho => ?_) (fun a ha => up a ?_) (fun a ha => up a (Reps.live h6.rep a ha)) hp.ok
      · simp only [List.append_assoc, List.cons_append] at q
        exact q
      · rw [upd_ne (fun z => hn (by rw [z]; simp))]
        exact ex26 a o (fun z => hn (z ▸ p.bag)) ho
      · cases e : H2 a with
        | none => exact absurd e (p.live a (p.sub a ha))
        | some o =>
          by_cases hb : a = tx.β
          · rw [hb]; exact h6.ok.live
          · rw [ex26 a o hb e]; intro z; cases z
/-- [elt for tg in it if c] -/
theorem lc_read {tg : ITg} {vi : Env → M (List D)} {c : Env → M Bool} {v : Env → M D} {Q : VK}
    (h : tEv tx (fun env => bnd (vi env) fun xs => seqM .lst (mapO (turnM tg env fun env' => bnd (c env') fun kk => if kk = true then bnd (v env') fun y => ret (some y) else ret none) xs)) σ H Q) :
    tLc (tEi tx vi) (gOf tx.K tg) (tEt tx c) (tEv tx v) tg.ix σ H Q := by
  obtain ⟨P, O, env, b, d, b', p, e0, q⟩ := h
  obtain ⟨xs, b1, e1, e2⟩ := bnd_some e0
  obtain ⟨total, b2, e3, e4⟩ := bnd_some e2
  split at e4
  · rename_i hlen
    have e5 := ret_some e4
    injection e5 with e6 e7
    subst e6; subst e7
    refine ⟨P, O, env, b, xs, b1, p, e1, fun J H1 h1 w Dd hD => ?_⟩
    have p1 : Pre tx P O σ env b1 H1 := p.grow h1.ex h1.ok
    refine ⟨fun i m H2 => m = xs.length - i ∧ i ≤ xs.length ∧ ∃ ds rest bi F, Held tx P O H1 [.lst .own ds] bi [.ref Dd] H2 (Dd :: F) ∧
      mapO (turnM tg env fun env' => bnd (c env') fun kk => if kk = true then bnd (v env') fun y => ret (some y) else ret none) (xs.drop i) bi = some (rest, b') ∧ ds ++ rest = total, ⟨xs.length, by simp, Nat.zero_le _, [], total, b1, [], ?_, e3, rfl⟩, ?_⟩
    · exact laid0 (es := []) (ws := []) h1.ok ⟨rfl, rfl⟩ hD fun H2 B G e r => ⟨Dd, [], [], rfl, e, r, rfl⟩
    rintro i m H2 ⟨rfl, hi, ds, rest, bi, F, held, er, et⟩
    have g1 : Ex (off P H1) (off (P ++ Dd :: F) H2) := off_step p1.bag held.ex held.fresh
    have g2 : Ex (off O H1) (off (O ++ Dd :: F) H2) := off_step p1.bagO held.ex held.fresh
    obtain ⟨w1, w2⟩ := w _ _ H2 bi g1 g2 held.ok
    by_cases hlt : i < xs.length
    · have hx : xs[i]? = some xs[i] := List.getElem?_eq_getElem hlt
      obtain ⟨go, yl⟩ := w2 i _ hx
      rw [List.drop_eq_getElem_cons hlt] at er
      obtain ⟨r, b3, e8, e9⟩ := bnd_some er
      obtain ⟨rs, b4, e10, e11⟩ := bnd_some e9
      have e12 := ret_some e11
      injection e12 with e13 e14
      subst e14
      refine .inr ⟨go, fun H' => ∃ ds rest bi F, Held tx P O H1 [.lst .own ds] bi [.ref Dd] H' (Dd :: F) ∧
        mapO (turnM tg env fun env' => bnd (c env') fun kk => if kk = true then bnd (v env') fun y => ret (some y) else ret none) (xs.drop (i + 1)) bi = some (rest, b') ∧ ds ++ rest = total, fun H' z => ⟨xs.length - (i + 1), by omega, rfl, hlt, z⟩, fun x H3 y => ?_⟩
      obtain ⟨F1, hy⟩ := yl x H3 y
      have et2 : (ds ++ r.toList) ++ rs = total := by
        rw [← et, e13]
        cases r <;> simp
      refine turn1 p1 hD held (p1.held held) hy e8 (fun hr => ?_) fun F' H' hh _ => ⟨ds ++ r.toList, rs, b3, F', hh, e10, et2⟩
      cases r with
      | none => cases hr
      | some y =>
        rw [← et2] at hlen
        simp at hlen
        omega
    · have : i = xs.length := by omega
      subst this
      rw [List.drop_length] at er
      have e8 := ret_some er
      injection e8 with e9 e10
      subst e9; subst e10
      rw [List.append_nil] at et
      subst et
      exact .inl ⟨w1 _ (Nat.le_refl _), q _ _ _ (Held.app p h1 (by rw [List.append_nil, List.append_nil]; exact held))⟩
  · cases e4
/-- [elt for tg in it for tg2 in it2] -/
theorem lc2_read {tg tg2 : ITg} {vi vi2 : Env → M (List D)} {v : Env → M D} {Q : VK}
    (h : tEv tx (fun env => bnd (vi env) fun xs => seqM .lst (mapL (fun d => bnd (opt (tgE tg d.so (wipeE env (tg.ix ++ tg2.ix)))) fun env' => bnd (vi2 env') fun zs =>
      mapO (turnM tg2 env' fun env2 => bnd (v env2) fun y => ret (some y)) zs) xs)) σ H Q) :
    tLc2 (tEi tx vi) (gOf tx.K tg) (tEt tx fun _ => ret true) (tEi tx vi2) (gOf tx.K tg2) (tEt tx fun _ => ret true) (tEv tx v) (tg.ix ++ tg2.ix) tg2.ix σ H Q := by
  obtain ⟨P, O, env, b, d, b', p, e0, q⟩ := h
  obtain ⟨xs, b1, e1, e2⟩ := bnd_some e0
  obtain ⟨total, b2, e3, e4⟩ := bnd_some e2
  split at e4
  · rename_i hlen
    have e5 := ret_some e4
    injection e5 with e6 e7
    subst e6; subst e7
    refine ⟨P, O, env, b, xs, b1, p, e1, fun J H1 h1 w Dd hD => ?_⟩
    have p1 : Pre tx P O σ env b1 H1 := p.grow h1.ex h1.ok
    refine ⟨fun i m H2 => m = xs.length - i ∧ i ≤ xs.length ∧ ∃ ds rest bi F, Held tx P O H1 [.lst .own ds] bi [.ref Dd] H2 (Dd :: F) ∧
      mapL (fun d => bnd (opt (tgE tg d.so (wipeE env (tg.ix ++ tg2.ix)))) fun env' => bnd (vi2 env') fun zs => mapO (turnM tg2 env' fun env2 => bnd (v env2) fun y => ret (some y)) zs) (xs.drop i) bi = some (rest, b') ∧ ds ++ rest = total, ⟨xs.length, by simp, Nat.zero_le _, [], total, b1, [], ?_, e3, rfl⟩, ?_⟩
    · exact laid0 (es := []) (ws := []) h1.ok ⟨rfl, rfl⟩ hD fun H2 B G e r => ⟨Dd, [], [], rfl, e, r, rfl⟩
    rintro i m H2 ⟨rfl, hi, ds, rest, bi, F, held, er, et⟩
    have g1 : Ex (off P H1) (off (P ++ Dd :: F) H2) := off_step p1.bag held.ex held.fresh
    have g2 : Ex (off O H1) (off (O ++ Dd :: F) H2) := off_step p1.bagO held.ex held.fresh
    obtain ⟨w1, w2⟩ := w _ _ H2 bi g1 g2 held.ok
    by_cases hlt : i < xs.length
    · have hx : xs[i]? = some xs[i] := List.getElem?_eq_getElem hlt
      obtain ⟨go, yl⟩ := w2 i _ hx
      rw [List.drop_eq_getElem_cons hlt] at er
      obtain ⟨ys, b3, e8, e9⟩ := bnd_some er
      obtain ⟨rs, b4, e10, e11⟩ := bnd_some e9
      have e12 := ret_some e11
      injection e12 with e13 e14
      subst e14
      refine .inr ⟨go, fun H' => ∃ ds rest bi F, Held tx P O H1 [.lst .own ds] bi [.ref Dd] H' (Dd :: F) ∧
        mapL (fun d => bnd (opt (tgE tg d.so (wipeE env (tg.ix ++ tg2.ix)))) fun env' => bnd (vi2 env') fun zs => mapO (turnM tg2 env' fun env2 => bnd (v env2) fun y => ret (some y)) zs) (xs.drop (i + 1)) bi = some (rest, b') ∧ ds ++ rest = total, fun H' z => ⟨xs.length - (i + 1), by omega, rfl, hlt, z⟩, fun x H3 y => ?_⟩
      obtain ⟨F1, hy⟩ := yl x H3 y
      have et2 : (ds ++ ys) ++ rs = total := by
        rw [← et, e13, List.append_assoc]
      obtain ⟨env2, b5, e15, e16⟩ := bnd_some e8
      obtain ⟨e17, eb⟩ := opt_some e15
      dsimp only at e17 eb
      subst eb
      have p2 := p1.held held
      refine set_tg ((p2.grow hy.ex hy.ok).wiped (tg.ix ++ tg2.ix)) (hy.so1 p2) (fun f xs z => so_tup z) e17 (fun i hi => List.mem_append_left _ hi) fun σ2 p4 hw => ⟨hw.trans wipe_wipe, ?_⟩
      refine ⟨_, _, env2, b5, true, b5, p4, rfl, fun H5 h5 => ?_⟩
      dsimp only
      rw [if_pos rfl]
      obtain ⟨zs, b6, e18, e19⟩ := bnd_some e16
      refine ⟨_, _, env2, b5, zs, b6, p4.grow h5.ex h5.ok, e18, fun J1 H6 h6 v1 => ?_⟩
      have ex26 := (hy.ex.trans h5.ex).trans h6.ex
      have held6 := held.grow p1 ex26 h6.ok
      have p6 := (p4.grow h5.ex h5.ok).grow h6.ex h6.ok
      refine ⟨fun j n H7 => n = zs.length - j ∧ j ≤ zs.length ∧ ∃ ds' rest' bj F', Held tx P O H1 [.lst .own (ds ++ ds')] bj [.ref Dd] H7 (Dd :: F') ∧ Far tx P O Dd F H6 F' H7 bj ∧
        mapO (turnM tg2 env2 fun env2 => bnd (v env2) fun y => ret (some y)) (zs.drop j) bj = some (rest', b3) ∧ ds' ++ rest' = ys, ⟨zs.length, by simp, Nat.zero_le _, [], ys, b6, F, by rw [List.append_nil]; exact held6, Far.grow p1.bag p1.bagO (ExB.refl _) h6.ok, e19, rfl⟩, ?_⟩
      rintro j n H7 ⟨rfl, hj, ds', rest', bj, F', held7, far, er', et'⟩
      obtain ⟨v2, v3⟩ := v1 _ _ H7 bj far.p far.o held7.ok
      by_cases hlt2 : j < zs.length
      · have hz : zs[j]? = some zs[j] := List.getElem?_eq_getElem hlt2
        obtain ⟨go2, yl2⟩ := v3 j _ hz
        rw [List.drop_eq_getElem_cons hlt2] at er'
        obtain ⟨r, b7, f8, f9⟩ := bnd_some er'
        obtain ⟨rs2, b8, f10, f11⟩ := bnd_some f9
        have f12 := ret_some f11
        injection f12 with f13 f14
        subst f14
        refine .inr ⟨go2, fun H' => ∃ ds' rest' bj F', Held tx P O H1 [.lst .own (ds ++ ds')] bj [.ref Dd] H' (Dd :: F') ∧ Far tx P O Dd F H6 F' H' bj ∧
          mapO (turnM tg2 env2 fun env2 => bnd (v env2) fun y => ret (some y)) (zs.drop (j + 1)) bj = some (rest', b3) ∧ ds' ++ rest' = ys, fun H' z => ⟨zs.length - (j + 1), by omega, rfl, hlt2, z⟩, fun x2 H8 y2 => ?_⟩
        obtain ⟨F2, hy2⟩ := yl2 x2 H8 y2
        have et3 : (ds' ++ r.toList) ++ rs2 = ys := by
          rw [← et', f13]
          cases r <;> simp
        refine turn1 (c := fun _ => ret true) p1 hD held7 (far.pre _ _ _ p6) hy2 f8 (fun hr => ?_) fun F3 H9 hh fr => ⟨ds' ++ r.toList, rs2, b7, F3, by rw [← List.append_assoc]; exact hh, far.trans fr, f10, et3⟩
        cases r with
        | none => cases hr
        | some y =>
          rw [← et2, ← et3] at hlen
          simp at hlen ⊢
          omega
      · have : j = zs.length := by omega
        subst this
        rw [List.drop_length] at er'
        have f8 := ret_some er'
        injection f8 with f9 f10
        subst f9; subst f10
        rw [List.append_nil] at et'
        subst et'
        exact .inl ⟨v2 _ (Nat.le_refl _), ds ++ ds', rs, b3, F', held7, e10, et2⟩
    · have : i = xs.length := by omega
      subst this
      rw [List.drop_length] at er
      have e8 := ret_some er
      injection e8 with e9 e10
      subst e9; subst e10
      rw [List.append_nil] at et
      subst et
      exact .inl ⟨w1 _ (Nat.le_refl _), q _ _ _ (Held.app p h1 (by rw [List.append_nil, List.append_nil]; exact held))⟩
  · cases e4
end
end TI

set_option Elab.async false
set_option linter.all false
set_option maxRecDepth 100000
/-! the state between statements; values kept -/
namespace TI
open PySem PySem.Spec PyProof.Rows L2

section
variable {tx : Tx}
theorem EnvR.only2 {H B G : Hp} (S : List Nat) : ∀ {env : Env} {σ : L2.St} {F : List Addr} (i : Nat), EnvR tx H B G env σ F → ∃ F1 F2, (F1 ++ F2).Perm F ∧ EnvR tx H B G (TI.only S i env) σ F1 ∧
    ∀ {H' G' : Hp}, (∀ a ∈ F2, ∀ o, H a = some o → H' a = some o) → (∀ a ∈ F1, ∀ o, H a = some o → G' a = some o) → Ex G G' → Ex B G' → EnvR tx H' G' G' (giveE S i env) σ F2
  | [], σ, F, i, h => by
    obtain ⟨rfl, rfl⟩ := h
    exact ⟨[], [], List.Perm.refl _, ⟨rfl, rfl⟩, fun _ _ _ _ => ⟨rfl, rfl⟩⟩
  | none :: env, σ, F, i, h => by
    obtain ⟨s, σ', rfl, h⟩ := h
    obtain ⟨F1, F2, p, q, r⟩ := EnvR.only2 S (i + 1) h
    refine ⟨F1, F2, p, ?_, fun k1 k2 k3 k4 => ?_⟩
    · unfold TI.only
      split
      · exact ⟨s, σ', rfl, q⟩
      · exact ⟨s, σ', rfl, q⟩
    · unfold giveE
      split
      · exact ⟨s, σ', rfl, r k1 k2 k3 k4⟩
      · exact ⟨s, σ', rfl, r k1 k2 k3 k4⟩
  | some d :: env, σ, F, i, h => by
    obtain ⟨v, σ', Fd, Fr, rfl, h1, h2, rfl⟩ := h
    obtain ⟨F1, F2, p, q, r⟩ := EnvR.only2 S (i + 1) h2
    unfold TI.only giveE
    by_cases hi : i ∈ S
    · rw [if_pos hi, if_pos hi]
      refine ⟨Fd ++ F1, F2, by rw [List.append_assoc]; exact p.append_left Fd, ⟨v, σ', Fd, F1, rfl, h1, q, rfl⟩, fun k1 k2 k3 k4 => ⟨v, σ', [], F2, rfl, ?_, r k1 (fun a ha => k2 a (List.mem_append_right _ ha)) k3 k4, rfl⟩⟩
      rename_i H' G'
      have t := h1.turn (g := Fl.fz) (H' := H') (B' := G') (G' := G') ⟨fun a ha o ho => k2 a (List.mem_append_left _ ha) o ho, .inl ⟨rfl, k3⟩, .inl ⟨rfl, k4⟩⟩
      rw [ftg_none (g := Fl.fz) (by decide)] at t
      exact t
    · rw [if_neg hi, if_neg hi]
      refine ⟨F1, Fd ++ F2, ?_, ⟨some v, σ', rfl, q⟩, fun k1 k2 k3 k4 => ⟨v, σ', Fd, F2, rfl, h1.mono k4 k3 (fun a ha => k1 a (List.mem_append_left _ ha)), r (fun a ha => k1 a (List.mem_append_right _ ha)) k2 k3 k4, rfl⟩⟩
      refine List.Perm.trans ?_ (p.append_left Fd)
      rw [← List.append_assoc, ← List.append_assoc]
      exact List.Perm.append_right F2 List.perm_append_comm
/-- between statements: P: what is not shared and not ours; H0: the def's entry; F: what is ours; Z: what the first name keeps -/
structure Sta (tx : Tx) (P : List Addr) (H0 : Hp) (Z : Option V) (σ : L2.St) (env : Env) (b : Bag) (H : Hp) (F : List Addr) : Prop where
  nd : F.Nodup
  fresh : ∀ a ∈ F, H0 a = none
  bag : tx.β ∈ P
  live : ∀ a ∈ P, H0 a ≠ none
  lι : H0 tx.ι ≠ none
  ex : ExB tx.β H0 H
  env : EnvR tx H (off (P ++ F) H) (off (P ++ F) H) env σ F
  ok : BagOk tx b H
  zero : ∀ v, Z = some v → σ[0]? = some (some v)
variable {P O : List Addr} {H0 H H1 H2 : Hp} {Z : Option V} {σ : L2.St} {env : Env} {b b' : Bag} {F : List Addr}
theorem Sta.notP (s : Sta tx P H0 Z σ env b H F) {a : Addr} (ha : a ∈ F) : a ∉ P := fun z => s.live a z (s.fresh a ha)
theorem Sta.nβ (s : Sta tx P H0 Z σ env b H F) {a : Addr} (ha : a ∈ F) : a ≠ tx.β := fun z => s.notP ha (z ▸ s.bag)
theorem Sta.nι (s : Sta tx P H0 Z σ env b H F) {a : Addr} (ha : a ∈ F) : a ≠ tx.ι := fun z => s.lι (z ▸ s.fresh a ha)
theorem Sta.liveP (s : Sta tx P H0 Z σ env b H F) : ∀ a ∈ P ++ F, H a ≠ none := fun a ha => by
  rcases List.mem_append.mp ha with h | h
  · cases e : H0 a with
    | none => exact absurd e (s.live a h)
    | some o =>
      by_cases hb : a = tx.β
      · rw [hb]; exact s.ok.live
      · rw [s.ex a o hb e]; intro z; cases z
  · exact s.env.live a h
/-- all names may be borrowed -/
theorem Sta.pre0 (s : Sta tx P H0 Z σ env b H F) : Pre tx P (P ++ F) σ env b H :=
  ⟨fun a ha => List.mem_append_left _ ha, s.bag, s.liveP, ⟨F, s.env.mono (off_mono fun a ha => List.mem_append_left _ ha) (Ex.refl _) (fun _ _ _ z => z), fun a ha => ⟨List.mem_append_right _ ha, s.notP ha⟩⟩, s.ok⟩
/-- the heap has grown -/
theorem Sta.grow (s : Sta tx P H0 Z σ env b H F) (ex : ExB tx.β H H1) (ok : BagOk tx b' H1) : Sta tx P H0 Z σ env b' H1 F :=
  have g : Ex (off (P ++ F) H) (off (P ++ F) H1) := off_ex (fun a ha _ => ha) fun a o hn ho => ex a o (fun z => hn (z ▸ List.mem_append_left _ s.bag)) ho
  ⟨s.nd, s.fresh, s.bag, s.live, s.lι, s.ex.trans ex, s.env.mono g g (fun a ha o ho => ex a o (s.nβ ha) ho), ok, s.zero⟩
theorem off_grow {Q : List Addr} {β : Addr} (hβ : β ∈ Q) (ex : ExB β H H1) : Ex (off Q H) (off Q H1) := off_ex (fun a ha _ => ha) fun a o hn ho => ex a o (fun z => hn (z ▸ hβ)) ho
/-- the names of S alone: what they have, what the others have -/
theorem Sta.part (s : Sta tx P H0 Z σ env b H F) (S : List Nat) : ∃ F1 F2, (F1 ++ F2).Perm F ∧ Pre tx (P ++ F2) (P ++ F) σ (only S 0 env) b H ∧ (∀ a ∈ F2, a ∈ F) ∧ F2.Nodup ∧
    ∀ {H' : Hp} {Q : List Addr}, (∀ a ∈ F2, ∀ o, H a = some o → H' a = some o) → ExB tx.β H H' → tx.β ∈ Q → (∀ a ∈ F1, a ∉ Q) → Ex (off (P ++ F) H) (off Q H') → EnvR tx H' (off Q H') (off Q H') (giveE S 0 env) σ F2 := by
  obtain ⟨F1, F2, p, q, r⟩ := s.env.only2 S 0
  have m1 : ∀ a ∈ F1, a ∈ F := fun a ha => p.subset (List.mem_append_left _ ha)
  have m2 : ∀ a ∈ F2, a ∈ F := fun a ha => p.subset (List.mem_append_right _ ha)
  have nd := p.nodup_iff.mpr s.nd
  have sub : ∀ a ∈ P ++ F2, a ∈ P ++ F := fun a ha => by
    rcases List.mem_append.mp ha with h | h
    · exact List.mem_append_left _ h
    · exact List.mem_append_right _ (m2 a h)
  have dis : ∀ a ∈ F1, a ∉ P ++ F2 := fun a ha z => by
    rcases List.mem_append.mp z with h | h
    · exact s.notP (m1 a ha) h
    · exact (List.nodup_append.mp nd).2.2 a ha a h rfl
  refine ⟨F1, F2, p, ⟨sub, List.mem_append_left _ s.bag, s.liveP, ⟨F1, q.mono (off_mono sub) (Ex.refl _) (fun _ _ _ z => z), fun a ha => ⟨List.mem_append_right _ (m1 a ha), dis a ha⟩⟩, s.ok⟩, m2, (List.nodup_append.mp nd).2.1, fun {H' Q} k ex hβ hq g => ?_⟩
  exact r k (fun a ha o ho => off_some.mpr ⟨hq a ha, ex a o (s.nβ (m1 a ha)) ho⟩) g g
/-- values kept beside the names -/
structure Kept (tx : Tx) (P : List Addr) (H0 : Hp) (Z : Option V) (σ : L2.St) (env : Env) (b : Bag) (H : Hp) (F : List Addr) (ds : List D) (us : List V) (F' : List Addr) : Prop where
  nd : (F ++ F').Nodup
  fresh : ∀ a ∈ F ++ F', H0 a = none
  bag : tx.β ∈ P
  live : ∀ a ∈ P, H0 a ≠ none
  lι : H0 tx.ι ≠ none
  ex : ExB tx.β H0 H
  env : EnvR tx H (off (P ++ (F ++ F')) H) (off (P ++ (F ++ F')) H) env σ F
  rep : Reps tx H (off (P ++ (F ++ F')) H) (off (P ++ (F ++ F')) H) ds us F'
  ok : BagOk tx b H
  zero : ∀ v, Z = some v → σ[0]? = some (some v)
theorem Kept.sta {us : List V} {F' : List Addr} (k : Kept tx P H0 Z σ env b H F [] us F') : Sta tx P H0 Z σ env b H F := by
  obtain ⟨_, rfl⟩ := k.rep
  have h1 := k.nd
  have h2 := k.fresh
  have h3 := k.env
  rw [List.append_nil] at h1 h2 h3
  exact ⟨h1, h2, k.bag, k.live, k.lι, k.ex, h3, k.ok, k.zero⟩
theorem keep_vals {S : List Nat} {ds : List D} {us : List V} {F1 F2 F' : List Addr} (s : Sta tx P H0 Z σ env b H F) (pp : (F1 ++ F2).Perm F) (nd2 : F2.Nodup)
    (gv : ∀ {H' : Hp} {Q : List Addr}, (∀ a ∈ F2, ∀ o, H a = some o → H' a = some o) → ExB tx.β H H' → tx.β ∈ Q → (∀ a ∈ F1, a ∉ Q) → Ex (off (P ++ F) H) (off Q H') → EnvR tx H' (off Q H') (off Q H') (giveE S 0 env) σ F2)
    (h : Held tx (P ++ F2) (P ++ F) H ds b' us H1 F') : ∃ Fe, (∀ a ∈ Fe, a ∈ F) ∧ Kept tx P H0 Z σ (keepEs S ds env).2 b' H1 Fe (keepEs S ds env).1 us F' := by
  have fr : ∀ a ∈ F', H0 a = none := fun a ha => by
    cases e : H0 a with
    | none => rfl
    | some o =>
      have q := h.fresh a ha
      by_cases hb : a = tx.β
      · rw [hb] at q; exact absurd q s.ok.live
      · rw [s.ex a o hb e] at q; cases q
  have disF : ∀ a ∈ F, ∀ c ∈ F', a ≠ c := fun a ha c hc z => by
    subst z
    exact s.env.live a ha (h.fresh a hc)
  have m1 : ∀ a ∈ F1, a ∈ F := fun a ha => pp.subset (List.mem_append_left _ ha)
  have m2 : ∀ a ∈ F2, a ∈ F := fun a ha => pp.subset (List.mem_append_right _ ha)
  have n12 := (List.nodup_append.mp (pp.nodup_iff.mpr s.nd)).2.2
  have stand : ∀ {Q : List Addr}, (∀ a ∈ Q, a ∈ P ++ F ++ F') → tx.β ∈ Q → Ex (off (P ++ F) H) (off Q H1) := fun {Q} hQ hb => off_ex (fun a ha hn => by
    rcases List.mem_append.mp (hQ a ha) with z | z
    · exact z
    · exact absurd (h.fresh a z) hn) fun a o hn ho => h.ex a o (fun z => hn (z ▸ List.mem_append_left _ s.bag)) ho
  unfold keepEs
  cases hb : D.hass .brw ds with
  | false =>
    rw [if_neg (by decide)]
    have g := stand (Q := P ++ (F ++ F')) (fun a ha => by rw [List.append_assoc]; exact ha) (List.mem_append_left _ s.bag)
    refine ⟨F, fun a ha => ha, List.nodup_append.mpr ⟨s.nd, h.nd, disF⟩, fun a ha => ?_, s.bag, s.live, s.lι, s.ex.trans h.ex, s.env.mono g g (fun a ha o ho => h.ex a o (s.nβ ha) ho), ?_, h.ok, s.zero⟩
    · rcases List.mem_append.mp ha with z | z
      · exact s.fresh a z
      · exact fr a z
    · have q := h.rep.noB (B' := off (P ++ (F ++ F')) H1) hb
      rw [List.append_assoc P F F'] at q
      exact q
  | true =>
    rw [if_pos rfl]
    have hsub : ∀ a ∈ P ++ (F2 ++ F'), a ∈ P ++ F ++ F' := fun a ha => by
      simp only [List.mem_append] at ha ⊢
      rcases ha with z | z | z
      · exact .inl (.inl z)
      · exact .inl (.inr (m2 a z))
      · exact .inr z
    have e2 := gv (H' := H1) (Q := P ++ (F2 ++ F')) (fun a ha o ho => h.ex a o (s.nβ (m2 a ha)) ho) h.ex (List.mem_append_left _ s.bag) (fun a ha z => by
      simp only [List.mem_append] at z
      rcases z with z | z | z
      · exact s.notP (m1 a ha) z
      · exact n12 a ha a z rfl
      · exact disF a (m1 a ha) a z rfl) (stand hsub (List.mem_append_left _ s.bag))
    refine ⟨F2, m2, List.nodup_append.mpr ⟨nd2, h.nd, fun a ha c hc => disF a (m2 a ha) c hc⟩, fun a ha => ?_, s.bag, s.live, s.lι, s.ex.trans h.ex, e2, ?_, h.ok, s.zero⟩
    · rcases List.mem_append.mp ha with z | z
      · exact s.fresh a (m2 a z)
      · exact fr a z
    have t := h.rep.turn (g := Fl.ub) (H' := H1) (B' := off (P ++ (F2 ++ F')) H1) (G' := off (P ++ (F2 ++ F')) H1) ⟨fun a ha o ho => ho, .inl ⟨rfl, off_mono hsub⟩, .inl ⟨rfl, ?_⟩⟩
    · rw [ftg_all (g := Fl.ub) rfl] at t
      exact t
    · rw [List.append_assoc]; exact Ex.refl _
/-- a kept value goes to a name -/
theorem Kept.put {d : D} {ds : List D} {u : V} {us : List V} {F' : List Addr} (i : Nat) (hz : Z ≠ none → i ≠ 0) (k : Kept tx P H0 Z σ env b H F (d :: ds) (u :: us) F') :
    ∃ Fe F2, Kept tx P H0 Z (σ.set i (some u)) (env.set i (some d)) b H Fe ds us F2 ∧ ∀ a ∈ Fe ++ F2, a ∈ F ++ F' := by
  obtain ⟨v, vs', Fd, Fr, e, r1, r2, ef⟩ := k.rep
  injection e with e1 e2
  subst e1; subst e2; subst ef
  have nd := k.nd
  have zero : ∀ v, Z = some v → (σ.set i (some u))[0]? = some (some v) := fun v hv => by
    rw [List.getElem?_set_ne (hz (by rw [hv]; intro z; cases z))]
    exact k.zero v hv
  have go : ∀ {Fe F2 : List Addr}, (Fe ++ F2).Nodup → (∀ a ∈ Fe ++ F2, a ∈ F ++ (Fd ++ Fr)) → EnvR tx H (off (P ++ (F ++ (Fd ++ Fr))) H) (off (P ++ (F ++ (Fd ++ Fr))) H) (env.set i (some d)) (σ.set i (some u)) Fe →
      Reps tx H (off (P ++ (F ++ (Fd ++ Fr))) H) (off (P ++ (F ++ (Fd ++ Fr))) H) ds us F2 → Kept tx P H0 Z (σ.set i (some u)) (env.set i (some d)) b H Fe ds us F2 := fun {Fe F2} n sub he hr => by
    have g : Ex (off (P ++ (F ++ (Fd ++ Fr))) H) (off (P ++ (Fe ++ F2)) H) := off_mono fun a ha => by
      rcases List.mem_append.mp ha with z | z
      · exact List.mem_append_left _ z
      · exact List.mem_append_right _ (sub a z)
    exact ⟨n, fun a ha => k.fresh a (sub a ha), k.bag, k.live, k.lι, k.ex, he.mono g g (fun _ _ _ z => z), hr.mono g g (fun _ _ _ z => z), k.ok, zero⟩
  by_cases hi : i < env.length
  · obtain ⟨Fa, Fb, Fc, eF, q⟩ := EnvR.set r1 i k.env hi
    subst eF
    refine ⟨Fa ++ Fd ++ Fc, Fr, go ?_ (fun a ha => ?_) q r2, fun a ha => ?_⟩
    · have p1 : ((Fa ++ Fb ++ Fc) ++ (Fd ++ Fr)).Perm (Fb ++ ((Fa ++ Fd ++ Fc) ++ Fr)) := by
        simp only [List.append_assoc]
        refine List.Perm.trans ?_ (List.perm_append_comm_assoc Fa Fb _)
        refine List.Perm.append_left Fa (List.Perm.append_left Fb ?_)
        exact List.perm_append_comm_assoc Fc Fd Fr
      exact (List.nodup_append.mp (p1.nodup_iff.mp nd)).2.1
    all_goals
      simp only [List.mem_append] at ha ⊢
      rcases ha with ((z | z) | z) | z
      · exact .inl (.inl (.inl z))
      · exact .inr (.inl z)
      · exact .inl (.inr z)
      · exact .inr (.inr z)
  · have e1 : env.set i (some d) = env := List.set_eq_of_length_le (by omega)
    have e2 : σ.set i (some u) = σ := List.set_eq_of_length_le (by rw [← k.env.length]; omega)
    have nd2 : (F ++ Fr).Nodup := by
      have p1 : (F ++ (Fd ++ Fr)).Perm (Fd ++ (F ++ Fr)) := List.perm_append_comm_assoc F Fd Fr
      exact (List.nodup_append.mp (p1.nodup_iff.mp nd)).2.1
    have hs : ∀ a ∈ F ++ Fr, a ∈ F ++ (Fd ++ Fr) := fun a ha => by
      simp only [List.mem_append] at ha ⊢
      rcases ha with z | z
      · exact .inl z
      · exact .inr (.inr z)
    exact ⟨F, Fr, go nd2 hs (by rw [e1, e2]; exact k.env) r2, hs⟩
/-- .. several, each to its name -/
def setsV : List Nat → List V → L2.St → L2.St
  | i :: is, u :: us, σ => setsV is us (σ.set i (some u))
  | _, _, σ => σ
theorem Kept.puts : ∀ {is : List Nat} {ds : List D} {us : List V} {σ : L2.St} {env env2 : Env} {F F' : List Addr}, (Z ≠ none → ∀ i ∈ is, i ≠ 0) → Kept tx P H0 Z σ env b H F ds us F' → setsE is ds env = some env2 →
    ∃ Fe, Sta tx P H0 Z (setsV is us σ) env2 b H Fe ∧ (∀ a ∈ Fe, a ∈ F ++ F') ∧ us.length = is.length
  | [], [], us, σ, env, env2, F, F', hz, k, e => by
    cases e
    obtain ⟨rfl, rfl⟩ := k.rep
    exact ⟨F, k.sta, fun a ha => List.mem_append_left _ ha, rfl⟩
  | [], _ :: _, us, σ, env, env2, F, F', hz, k, e => by cases e
  | _ :: _, [], us, σ, env, env2, F, F', hz, k, e => by cases e
  | i :: is, d :: ds, us, σ, env, env2, F, F', hz, k, e => by
    obtain ⟨u, us', F1, F2, rfl, _⟩ := k.rep
    obtain ⟨Fe, F3, k2, sub⟩ := k.put i (fun z => hz z i List.mem_cons_self)
    obtain ⟨Fe2, s2, sub2, hl⟩ := Kept.puts (is := is) (fun z j hj => hz z j (List.mem_cons_of_mem _ hj)) k2 e
    exact ⟨Fe2, s2, fun a ha => sub a (sub2 a ha), by simp [hl]⟩
theorem gsOf_set {Q : L2.St → Hp → Prop} : ∀ {is : List Nat} {us : List V} {σ : L2.St}, us.length = is.length → Q (setsV is us σ) H → gsOf is us σ H Q
  | [], [], σ, _, h => ⟨rfl, h⟩
  | [], _ :: _, σ, e, h => by simp at e
  | _ :: _, [], σ, e, h => by simp at e
  | i :: is, u :: us, σ, e, h => ⟨u, us, rfl, gsOf_set (by simpa using e) h⟩
end
end TI

set_option Elab.async false
set_option linter.all false
set_option maxRecDepth 100000
/-! statements -/
namespace TI
open PySem PySem.Spec PyProof.Rows L2

section
variable (tx : Tx) (P : List Addr) (H0 : Hp) (Z : Option V) (F : List Addr) (H : Hp)
/-- what is wanted behind a statement that ends so -/
def PostS (D : Ends) (r : Fw) (b' : Bag) : Prop := match r with
  | .nx env' => ∀ σ' H' F', Sta tx P H0 Z σ' env' b' H' F' → Ex (off (P ++ F) H) (off (P ++ F') H') → D.nx σ' H'
  | .bk env' => ∀ σ' H' F', Sta tx P H0 Z σ' env' b' H' F' → Ex (off (P ++ F) H) (off (P ++ F') H') → D.bk σ' H'
  | .ct env' => ∀ σ' H' F', Sta tx P H0 Z σ' env' b' H' F' → Ex (off (P ++ F) H) (off (P ++ F') H') → D.ct σ' H'
  | .rt d _ => ∀ u H' F', Held tx P P H0 [d] b' [u] H' F' → D.rt u H'
end
def tSs (tx : Tx) (ini : Bool) (f : Env → M Fw) : TS := fun D σ H => ∃ P H0 Z F env b r b', Sta tx P H0 Z σ env b H F ∧ (Z ≠ none → ini = true) ∧ f env b = some (r, b') ∧ PostS tx P H0 Z F H D r b'
theorem PS.imp {X : Cx} {st : Stmt} {t t' : TS} (h : PS X st t) (i : ∀ D σ H, t' D σ H → t D σ H) : PS X st t' := ⟨fun pins s σ H D I q => h.run pins s σ H D I (i D σ H q)⟩
theorem PSs.imp {X : Cx} {st : List Stmt} {t t' : TS} (h : PSs X st t) (i : ∀ D σ H, t' D σ H → t D σ H) : PSs X st t' := ⟨fun pins s σ H D I q => h.run pins s σ H D I (i D σ H q)⟩
section
variable {tx : Tx} {ini : Bool} {P : List Addr} {H0 H H1 : Hp} {Z : Option V} {F : List Addr} {σ : L2.St} {env : Env} {b b' : Bag}
/-- an expression of the names S alone: its values kept -/
theorem eval_keep (s : Sta tx P H0 Z σ env b H F) (S : List Nat) : ∃ Pp Op, Pre tx Pp Op σ (only S 0 env) b H ∧ ∀ {ds us b' H1 F'}, Held tx Pp Op H ds b' us H1 F' →
    ∃ Fe, Kept tx P H0 Z σ (keepEs S ds env).2 b' H1 Fe (keepEs S ds env).1 us F' ∧ ∀ {Fn : List Addr}, (∀ a ∈ Fn, a ∈ Fe ++ F') → Ex (off (P ++ F) H) (off (P ++ Fn) H1) := by
  obtain ⟨F1, F2, pp, pr, m2, nd2, gv⟩ := s.part S
  refine ⟨_, _, pr, fun {ds us b' H1 F'} h => ?_⟩
  obtain ⟨Fe, me, k⟩ := keep_vals s pp nd2 gv h
  refine ⟨Fe, k, fun {Fn} hs => off_ex (fun a ha hn => ?_) fun a o hn ho => h.ex a o (fun z => hn (z ▸ List.mem_append_left _ s.bag)) ho⟩
  rcases List.mem_append.mp ha with z | z
  · exact List.mem_append_left _ z
  · rcases List.mem_append.mp (hs a z) with y | y
    · exact List.mem_append_right _ (me a y)
    · exact absurd (h.fresh a y) hn
theorem keepE_one (S : List Nat) (d : D) (env : Env) : keepEs S [d] env = ([(keepE S d env).1], (keepE S d env).2) := by
  unfold keepEs keepE
  have : D.hass .brw [d] = d.has .brw := by rw [D.hass, D.hass, Bool.or_false]
  rw [this]
  cases d.has .brw with
  | false => rw [if_neg (by decide), if_neg (by decide)]
  | true => rw [if_pos rfl, if_pos rfl]; rfl
theorem eval_keep1 (s : Sta tx P H0 Z σ env b H F) (S : List Nat) : ∃ Pp Op, Pre tx Pp Op σ (only S 0 env) b H ∧ ∀ {d u b' H1 F'}, Held tx Pp Op H [d] b' [u] H1 F' →
    ∃ Fe, Kept tx P H0 Z σ (keepE S d env).2 b' H1 Fe [(keepE S d env).1] [u] F' ∧ ∀ {Fn : List Addr}, (∀ a ∈ Fn, a ∈ Fe ++ F') → Ex (off (P ++ F) H) (off (P ++ Fn) H1) := by
  obtain ⟨Pp, Op, pr, k⟩ := eval_keep s S
  refine ⟨Pp, Op, pr, fun {d u b' H1 F'} h => ?_⟩
  have := k h
  rw [keepE_one] at this
  exact this
def evKs (S : List Nat) (v : Env → M D) (env : Env) : M (D × Env) := bnd (v (only S 0 env)) fun d => ret (keepE S d env)
theorem evKs_some {S : List Nat} {v : Env → M D} {env : Env} {b : Bag} {r : (D × Env) × Bag} (h : evKs S v env b = some r) : ∃ d, v (only S 0 env) b = some (d, r.2) ∧ r.1 = keepE S d env := by
  obtain ⟨d, b', e1, e2⟩ := bnd_some h
  rw [ret_some e2]
  exact ⟨d, e1, rfl⟩
/-- x = e -/
theorem asg_read {S : List Nat} {v : Env → M D} {i : Nat} (hi : ini = true → i ≠ 0) {D : Ends} (h : tSs tx ini (fun env => bnd (evKs S v env) fun r => ret (.nx (r.2.set i (some r.1)))) D σ H) : tAsg (tEv tx v) (gName i) D σ H := by
  obtain ⟨P, H0, Z, F, env, b, r, b', s, hz, e, q⟩ := h
  obtain ⟨⟨d', env'⟩, b1, e1, e2⟩ := bnd_some e
  have e3 := ret_some e2
  injection e3 with e4 e5
  subst e4; subst e5
  obtain ⟨d, e6, e7⟩ := evKs_some e1
  dsimp only at e6 e7
  obtain ⟨Pp, Op, pr, k⟩ := eval_keep1 s S
  refine ⟨Pp, Op, _, b, d, b', pr, e6, fun u H1 F' h1 => ?_⟩
  obtain ⟨Fe, kk, ex⟩ := k h1
  rw [← e7] at kk
  obtain ⟨Fe2, F2, k2, sub⟩ := kk.put i (fun z => hi (hz z))
  obtain ⟨_, rfl⟩ := k2.rep
  exact q _ _ _ k2.sta (ex fun a ha => sub a (List.mem_append_left _ ha))
theorem Kept.so {d : D} {u : V} {F' : List Addr} (k : Kept tx P H0 Z σ env b H F [d] [u] F') : Kept tx P H0 Z σ env b H F [d.so] [u] [] := by
  have g : Ex (off (P ++ (F ++ F')) H) (off (P ++ (F ++ [])) H) := off_mono fun a ha => by
    rw [List.append_nil] at ha
    rcases List.mem_append.mp ha with z | z
    · exact List.mem_append_left _ z
    · exact List.mem_append_right _ (List.mem_append_left _ z)
  have nd := k.nd
  refine ⟨by rw [List.append_nil]; exact (List.nodup_append.mp nd).1, fun a ha => k.fresh a ?_, k.bag, k.live, k.lι, k.ex, k.env.mono g g (fun _ _ _ z => z), ?_, k.ok, k.zero⟩
  · rw [List.append_nil] at ha
    exact List.mem_append_left _ ha
  · have q := k.rep.turn (g := Fl.so) (H' := H) (B' := off (P ++ (F ++ [])) H) (G' := off (P ++ (F ++ [])) H) ⟨fun a ha o ho => off_some.mpr ⟨fun z => ?_, ho⟩, .inl ⟨rfl, g⟩, .inr ⟨rfl, g⟩⟩
    · rw [ftg_none (g := Fl.so) (by decide)] at q
      exact q
    · rw [List.append_nil] at z
      rcases List.mem_append.mp z with y | y
      · exact k.live a y (k.fresh a (List.mem_append_right _ ha))
      · exact (List.nodup_append.mp nd).2.2 a y a ha rfl
/-- x, y = e, e a tuple -/
theorem unp_read {S : List Nat} {v : Env → M D} {is : List Nat} (hi : ini = true → ∀ i ∈ is, i ≠ 0) {D : Ends} (h : tSs tx ini (fun env => bnd (evKs S v env) fun r => bnd (opt (tgE (.tup is) r.1.so r.2)) fun env2 => ret (.nx env2)) D σ H) :
    tAsg (tEv tx v) (gTup tx.K is.length (gsOf is)) D σ H := by
  obtain ⟨P, H0, Z, F, env, b, r, b', s, hz, e, q⟩ := h
  obtain ⟨⟨d', env'⟩, b1, e1, e2⟩ := bnd_some e
  obtain ⟨env2, b2, e8, e9⟩ := bnd_some e2
  obtain ⟨e10, eb⟩ := opt_some e8
  dsimp only at e10 eb
  subst eb
  have e3 := ret_some e9
  injection e3 with e4 e5
  subst e4; subst e5
  obtain ⟨d, e6, e7⟩ := evKs_some e1
  dsimp only at e6 e7
  obtain ⟨Pp, Op, pr, k⟩ := eval_keep1 s S
  refine ⟨Pp, Op, _, b, d, b', pr, e6, fun u H1 F' h1 => ?_⟩
  obtain ⟨Fe, kk, ex⟩ := k h1
  rw [← e7] at kk
  have ks := kk.so
  dsimp only at ks
  cases hd : TI.D.so d' with
  | tup f ds =>
    rw [hd] at ks e10
    obtain ⟨u', us', Fd, Fr, eu, ⟨a, vs, F3, rfl, k1, k2, k3⟩, ⟨rfl, z3⟩, z2⟩ := ks.rep
    subst z3
    injection eu with eu1 eu2
    subst eu1
    obtain ⟨rfl, _⟩ := List.append_eq_nil_iff.mp z2.symm
    have := ft_nil k3
    subst this
    have ks2 : Kept tx P H0 Z σ env' b' H1 Fe ds vs [] := ⟨ks.nd, ks.fresh, ks.bag, ks.live, ks.lι, ks.ex, ks.env, k2, ks.ok, ks.zero⟩
    obtain ⟨Fe2, s2, sub, hl⟩ := ks2.puts (fun z i hi' => hi (hz z) i hi') e10
    refine ⟨a, vs, rfl, k1.at, hl, gsOf_set hl (q _ _ _ s2 (ex fun a ha => ?_))⟩
    have := sub a ha
    rw [List.append_nil] at this
    exact List.mem_append_left _ this
  | _ => rw [hd] at e10; cases e10
/-- x, y = e, e2: a display -/
theorem par_read {S : List Nat} {vs : Env → M (List D)} {i j : Nat} (hi : ini = true → i ≠ 0 ∧ j ≠ 0) {D : Ends} (h : tSs tx ini (fun env => bnd (vs (only S 0 env)) fun ds => bnd (opt (setsE [i, j] (keepEs S ds env).1 (keepEs S ds env).2)) fun env' => ret (.nx env')) D σ H) :
    tPar i j (tEa tx vs) D σ H := by
  obtain ⟨P, H0, Z, F, env, b, r, b', s, hz, e, q⟩ := h
  obtain ⟨ds, b1, e1, e2⟩ := bnd_some e
  obtain ⟨env2, b2, e8, e9⟩ := bnd_some e2
  obtain ⟨e10, eb⟩ := opt_some e8
  dsimp only at e10 eb
  subst eb
  have e3 := ret_some e9
  injection e3 with e4 e5
  subst e4; subst e5
  obtain ⟨Pp, Op, pr, k⟩ := eval_keep s S
  refine ⟨Pp, Op, _, b, ds, b', pr, e1, fun us H1 F' h1 => ?_⟩
  obtain ⟨Fe, kk, ex⟩ := k h1
  obtain ⟨Fe2, s2, sub, hl⟩ := kk.puts (fun z i' hi' => by
    have := hi (hz z)
    rcases List.mem_cons.mp hi' with e | hi'
    · rw [e]; exact this.1
    · rw [List.mem_singleton.mp hi']; exact this.2) e10
  cases us with
  | nil => simp at hl
  | cons u t =>
    cases t with
    | nil => simp at hl
    | cons w t2 =>
      cases t2 with
      | cons _ _ => simp at hl
      | nil => exact ⟨u, w, rfl, q _ _ _ s2 (ex sub)⟩
/-- a cell more is no harm -/
theorem tSs_grow {f : Env → M Fw} {D : Ends} (h : tSs tx ini f D σ H) : tSs tx ini f { D with nx := fun σ' H' => ∀ p o, H' p = none → D.nx σ' (upd H' p o) } σ H := by
  obtain ⟨P, H0, Z, F, env, b, r, b', s, hz, e, q⟩ := h
  refine ⟨P, H0, Z, F, env, b, r, b', s, hz, e, ?_⟩
  cases r with
  | nx env' =>
    intro σ' H' F' s' ex p o hp
    have g : ExB tx.β H' (upd H' p o) := ExB.new hp
    have nb : tx.β ≠ p := fun z => s'.ok.live (z ▸ hp)
    exact q σ' _ F' (s'.grow g (s'.ok.mono g (upd_ne nb))) (ex.trans (off_grow (List.mem_append_left _ s'.bag) g))
  | bk env' => exact q
  | ct env' => exact q
  | rt d env' => exact q
/-- x, y, z = e, e2, e3: a display -/
theorem par3_read {S : List Nat} {vs : Env → M (List D)} {i j l : Nat} (hi : ini = true → ∀ z ∈ [i, j, l], z ≠ 0) {D : Ends} (h : tSs tx ini (fun env => bnd (vs (only S 0 env)) fun ds => bnd (opt (setsE [i, j, l] (keepEs S ds env).1 (keepEs S ds env).2)) fun env' => ret (.nx env')) D σ H) :
    tPar3 i j l (tEa tx vs) D σ H := by
  obtain ⟨P, H0, Z, F, env, b, r, b', s, hz, e, q⟩ := h
  obtain ⟨ds, b1, e1, e2⟩ := bnd_some e
  obtain ⟨env2, b2, e8, e9⟩ := bnd_some e2
  obtain ⟨e10, eb⟩ := opt_some e8
  dsimp only at e10 eb
  subst eb
  have e3 := ret_some e9
  injection e3 with e4 e5
  subst e4; subst e5
  obtain ⟨Pp, Op, pr, k⟩ := eval_keep s S
  refine ⟨Pp, Op, _, b, ds, b', pr, e1, fun us H1 F' h1 => ?_⟩
  obtain ⟨Fe, kk, ex⟩ := k h1
  obtain ⟨Fe2, s2, sub, hl⟩ := kk.puts (fun z i' hi' => hi (hz z) i' hi') e10
  cases us with
  | nil => simp at hl
  | cons u t =>
    cases t with
    | nil => simp at hl
    | cons w t2 =>
      cases t2 with
      | nil => simp at hl
      | cons w2 t3 =>
        cases t3 with
        | cons _ _ => simp at hl
        | nil => exact ⟨u, w, w2, rfl, q _ _ _ s2 (ex sub)⟩
/-- x, y, .. = e, e2, .. by a tuple that is then forgotten -/
theorem parN_read {S : List Nat} {vs : Env → M (List D)} {is : List Nat} (hn : is.length < 900) (hi : ini = true → ∀ i ∈ is, i ≠ 0) {D : Ends} (h : tSs tx ini (fun env => bnd (vs (only S 0 env)) fun ds => bnd (opt (setsE is (keepEs S ds env).1 (keepEs S ds env).2)) fun env' => ret (.nx env')) D σ H) :
    tAsg (tTup (tEa tx vs)) (gTup tx.K is.length (gsOf is)) D σ H := by
  obtain ⟨P, H0, Z, F, env, b, r, b', s, hz, e, q⟩ := tSs_grow h
  obtain ⟨ds, b1, e1, e2⟩ := bnd_some e
  obtain ⟨env2, b2, e8, e9⟩ := bnd_some e2
  obtain ⟨e10, eb⟩ := opt_some e8
  dsimp only at e10 eb
  subst eb
  have e3 := ret_some e9
  injection e3 with e4 e5
  subst e4; subst e5
  obtain ⟨Pp, Op, pr, k⟩ := eval_keep s S
  refine ⟨Pp, Op, _, b, ds, b', pr, e1, fun us H1 F' h1 => ?_⟩
  obtain ⟨Fe, kk, ex⟩ := k h1
  obtain ⟨Fe2, s2, sub, hl⟩ := kk.puts (fun z i' hi' => hi (hz z) i' hi') e10
  have hs : us.length ≤ sizeLine := by
    have : sizeLine = 2 ^ 24 := rfl
    omega
  exact ⟨hs, fun p hp => ⟨p, us, rfl, Or.inl (Or.inl upd_same), hl, gsOf_set hl (q _ _ _ s2 (ex sub) p _ hp)⟩⟩
/-- e, its value dropped -/
theorem drop_read {S : List Nat} {v : Env → M D} {D : Ends} (h : tSs tx ini (fun env => bnd (v (only S 0 env)) fun _ => ret (.nx env)) D σ H) : tDrop (tEv tx v) D σ H := by
  obtain ⟨P, H0, Z, F, env, b, r, b', s, hz, e, q⟩ := h
  obtain ⟨d, b1, e1, e2⟩ := bnd_some e
  have e3 := ret_some e2
  injection e3 with e4 e5
  subst e4; subst e5
  obtain ⟨Pp, Op, pr, k⟩ := eval_keep s S
  exact ⟨Pp, Op, _, b, d, b', pr, e1, fun u H1 F' h1 => q _ _ _ (s.grow h1.ex h1.ok) (off_grow (List.mem_append_left _ s.bag) h1.ex)⟩
/-- return e -/
theorem ret_read {v : Env → M D} {D : Ends} (h : tSs tx ini (fun env => bnd (v env) fun d => ret (.rt d.ub env)) D σ H) : tRet (tEv tx v) D σ H := by
  obtain ⟨P, H0, Z, F, env, b, r, b', s, hz, e, q⟩ := h
  obtain ⟨d, b1, e1, e2⟩ := bnd_some e
  have e3 := ret_some e2
  injection e3 with e4 e5
  subst e4; subst e5
  refine ⟨P, P ++ F, env, b, d, b', s.pre0, e1, fun u H1 F' h1 => q u H1 F' ⟨fun a ha => ?_, h1.nd, s.ex.trans h1.ex, ?_, h1.ok⟩⟩
  · cases e : H0 a with
    | none => rfl
    | some o =>
      have q := h1.fresh a ha
      by_cases hb : a = tx.β
      · rw [hb] at q; exact absurd q s.ok.live
      · rw [s.ex a o hb e] at q; cases q
  · have t := h1.rep.turn (g := Fl.ub) (H' := H1) (B' := off (P ++ F') H1) (G' := off (P ++ F') H1) ⟨fun a ha o ho => ho, .inl ⟨rfl, off_mono fun a ha => ?_⟩, .inl ⟨rfl, Ex.refl _⟩⟩
    · rw [ftg_all (g := Fl.ub) rfl] at t
      exact t
    · rcases List.mem_append.mp ha with z | z
      · exact List.mem_append_left _ (List.mem_append_left _ z)
      · exact List.mem_append_right _ z
theorem retN_read {D : Ends} (h : tSs tx ini (fun env => ret (.rt .non env)) D σ H) : tRetN D σ H := by
  obtain ⟨P, H0, Z, F, env, b, r, b', s, hz, e, q⟩ := h
  have e3 := ret_some e
  injection e3 with e4 e5
  subst e4; subst e5
  exact q .non H [] ⟨fun a z => (by cases z), List.nodup_nil, s.ex, Reps.one ⟨rfl, rfl⟩, s.ok⟩
theorem next_read {D : Ends} (h : tSs tx ini (fun env => ret (.nx env)) D σ H) : tNext D σ H := by
  obtain ⟨P, H0, Z, F, env, b, r, b', s, hz, e, q⟩ := h
  have e3 := ret_some e
  injection e3 with e4 e5
  subst e4; subst e5
  exact q _ _ _ s (Ex.refl _)
theorem brk_read {D : Ends} (h : tSs tx ini (fun env => ret (.bk env)) D σ H) : tBreak D σ H := by
  obtain ⟨P, H0, Z, F, env, b, r, b', s, hz, e, q⟩ := h
  have e3 := ret_some e
  injection e3 with e4 e5
  subst e4; subst e5
  exact q _ _ _ s (Ex.refl _)
theorem cont_read {D : Ends} (h : tSs tx ini (fun env => ret (.ct env)) D σ H) : tCont D σ H := by
  obtain ⟨P, H0, Z, F, env, b, r, b', s, hz, e, q⟩ := h
  have e3 := ret_some e
  injection e3 with e4 e5
  subst e4; subst e5
  exact q _ _ _ s (Ex.refl _)
theorem dead_read {D : Ends} (h : tSs tx ini (fun _ => fail) D σ H) : tNever D σ H := by
  obtain ⟨P, H0, Z, F, env, b, r, b', s, hz, e, q⟩ := h
  cases e
/-- behind more growth -/
theorem PostS.far {D : Ends} {r : Fw} {H2 : Hp} {F2 : List Addr} (q : PostS tx P H0 Z F H D r b') (g : Ex (off (P ++ F) H) (off (P ++ F2) H2)) : PostS tx P H0 Z F2 H2 D r b' := by
  cases r with
  | nx env => exact fun σ' H' F' s e => q σ' H' F' s (g.trans e)
  | bk env => exact fun σ' H' F' s e => q σ' H' F' s (g.trans e)
  | ct env => exact fun σ' H' F' s e => q σ' H' F' s (g.trans e)
  | rt d env => exact q
/-- one after another -/
theorem seq_read {f : Env → M Fw} {g : Env → M Fw} {D : Ends} (h : tSs tx ini (fun env => bnd (f env) fun r => match r with
    | .nx env' => g env'
    | r => ret r) D σ H) : tSeq (tSs tx ini f) (tSs tx ini g) D σ H := by
  obtain ⟨P, H0, Z, F, env, b, r, b', s, hz, e, q⟩ := h
  obtain ⟨r1, b1, e1, e2⟩ := bnd_some e
  refine ⟨P, H0, Z, F, env, b, r1, b1, s, hz, e1, ?_⟩
  cases r1 with
  | nx env' => exact fun σ' H' F' s' ex => ⟨P, H0, Z, F', env', b1, r, b', s', hz, e2, q.far ex⟩
  | bk env' =>
    have e3 := ret_some e2
    injection e3 with e4 e5
    subst e4; subst e5
    exact q
  | ct env' =>
    have e3 := ret_some e2
    injection e3 with e4 e5
    subst e4; subst e5
    exact q
  | rt d env' =>
    have e3 := ret_some e2
    injection e3 with e4 e5
    subst e4; subst e5
    exact q
/-- if -/
theorem if_read {c : Env → M Bool} {f g : Env → M Fw} {D : Ends} (h : tSs tx ini (fun env => bnd (c env) fun k => if k = true then f env else g env) D σ H) : tIfS (tEt tx c) (tSs tx ini f) (tSs tx ini g) D σ H := by
  obtain ⟨P, H0, Z, F, env, b, r, b', s, hz, e, q⟩ := h
  obtain ⟨k, b1, e1, e2⟩ := bnd_some e
  refine ⟨P, P ++ F, env, b, k, b1, s.pre0, e1, fun H1 h1 => ?_⟩
  have s1 := s.grow h1.ex h1.ok
  have g1 : Ex (off (P ++ F) H) (off (P ++ F) H1) := off_grow (List.mem_append_left _ s.bag) h1.ex
  cases k with
  | true => exact ⟨P, H0, Z, F, env, b1, r, b', s1, hz, e2, q.far g1⟩
  | false => exact ⟨P, H0, Z, F, env, b1, r, b', s1, hz, e2, q.far g1⟩
theorem pass_read {D : Ends} (h : tSs tx ini (fun env => ret (.nx env)) D σ H) : tNext D σ H := next_read h
/-! ### what is ours is changed -/
theorem EnvR.at {H B G : Hp} {d : D} : ∀ {env : Env} {σ : L2.St} {F : List Addr} {i : Nat}, EnvR tx H B G env σ F → env[i]? = some (some d) → ∃ v Fa Fd Fc, σ[i]? = some (some v) ∧ F = Fa ++ Fd ++ Fc ∧ Rep tx H B G d v Fd ∧
    ∀ {H' B' G' : Hp} {d' : D} {Fd' : List Addr}, (∀ a ∈ Fa ++ Fc, ∀ o, H a = some o → H' a = some o) → Ex B B' → Ex G G' → Rep tx H' B' G' d' v Fd' → EnvR tx H' B' G' (env.set i (some d')) σ (Fa ++ Fd' ++ Fc)
  | [], _, _, i, _, e => by simp at e
  | none :: env, σ, F, 0, h, e => by simp at e
  | none :: env, σ, F, i + 1, h, e => by
    obtain ⟨s, σ', rfl, h⟩ := h
    obtain ⟨v, Fa, Fd, Fc, h1, h2, h3, h4⟩ := EnvR.at (i := i) h (by simpa using e)
    exact ⟨v, Fa, Fd, Fc, by simpa using h1, h2, h3, fun k1 k2 k3 k4 => ⟨s, σ', rfl, h4 k1 k2 k3 k4⟩⟩
  | some x :: env, σ, F, 0, h, e => by
    obtain ⟨v, σ', F1, F2, rfl, h1, h2, rfl⟩ := h
    simp at e; subst e
    refine ⟨v, [], F1, F2, rfl, rfl, h1, fun k1 k2 k3 k4 => ⟨v, σ', _, F2, rfl, k4, h2.mono k2 k3 (fun a ha => k1 a ha), rfl⟩⟩
  | some x :: env, σ, F, i + 1, h, e => by
    obtain ⟨v, σ', F1, F2, rfl, h1, h2, rfl⟩ := h
    obtain ⟨w, Fa, Fd, Fc, h3, h4, h5, h6⟩ := EnvR.at (i := i) h2 (by simpa using e)
    refine ⟨w, F1 ++ Fa, Fd, Fc, by simpa using h3, by rw [h4]; simp only [List.append_assoc], h5, fun k1 k2 k3 k4 => ⟨v, σ', F1, _, rfl, h1.mono k2 k3 (fun a ha => k1 a (by simp [ha])), h6 (fun a ha => k1 a ?_) k2 k3 k4, by simp only [List.append_assoc]⟩⟩
    simp only [List.mem_append] at ha ⊢
    rcases ha with z | z
    · exact .inl (.inr z)
    · exact .inr z
/-- a name's own object is rewritten: a at its top, over some of what it had and of what was kept -/
theorem Kept.rewrite {d d' : D} {ds : List D} {us : List V} {F' Fx : List Addr} {i : Nat} {a : Addr} {o : HO} {v : V} {Fa Fc : List Addr} (k : Kept tx P H0 Z σ env b H F ds us F') (hF : F = Fa ++ (a :: Fx) ++ Fc) {Fn Fo : List Addr} (hp : (Fn ++ Fo).Perm (Fx ++ F'))
    (he : ∀ {H' B' G' : Hp} {d' : D} {Fd' : List Addr}, (∀ a ∈ Fa ++ Fc, ∀ o, H a = some o → H' a = some o) → Ex (off (P ++ (F ++ F')) H) B' → Ex (off (P ++ (F ++ F')) H) G' → Rep tx H' B' G' d' v Fd' → EnvR tx H' B' G' (env.set i (some d')) σ (Fa ++ Fd' ++ Fc))
    (hr : ∀ {G' : Hp}, (∀ c ∈ Fx ++ F', ∀ u, H c = some u → upd H a o c = some u) → Ex (off (P ++ (F ++ F')) H) G' → Rep tx (upd H a o) G' G' d' v (a :: Fn)) :
    Sta tx P H0 Z σ (env.set i (some d')) b (upd H a o) (Fa ++ (a :: Fn) ++ Fc) ∧ ∀ c ∈ Fa ++ (a :: Fn) ++ Fc, c ∈ F ++ F' := by
  subst hF
  have nd := k.nd
  have p1 : ((Fa ++ (a :: Fx) ++ Fc) ++ F').Perm (a :: ((Fa ++ Fc) ++ (Fx ++ F'))) := by
    simp only [List.append_assoc, List.cons_append]
    refine List.Perm.trans List.perm_middle (List.Perm.cons a (List.Perm.append_left Fa ?_))
    refine List.Perm.trans (List.perm_append_comm_assoc Fx Fc F') ?_
    exact List.Perm.refl _
  have nd1 := p1.nodup_iff.mp nd
  have na := (List.nodup_cons.mp nd1).1
  have nd2 := (List.nodup_cons.mp nd1).2
  have nFx : ∀ c ∈ Fx ++ F', c ≠ a := fun c hc z => na (z ▸ List.mem_append_right _ hc)
  have nFa : ∀ c ∈ Fa ++ Fc, c ≠ a := fun c hc z => na (z ▸ List.mem_append_left _ hc)
  have ma : a ∈ (Fa ++ (a :: Fx) ++ Fc) ++ F' := p1.symm.subset List.mem_cons_self
  have sub : ∀ c ∈ Fa ++ (a :: Fn) ++ Fc, c ∈ (Fa ++ (a :: Fx) ++ Fc) ++ F' := fun c hc => by
    simp only [List.mem_append, List.mem_cons] at hc
    refine p1.symm.subset ?_
    rcases hc with (z | z | z) | z
    · exact List.mem_cons_of_mem _ (List.mem_append_left _ (List.mem_append_left _ z))
    · exact z ▸ List.mem_cons_self
    · exact List.mem_cons_of_mem _ (List.mem_append_right _ (hp.subset (List.mem_append_left _ z)))
    · exact List.mem_cons_of_mem _ (List.mem_append_left _ (List.mem_append_right _ z))
  have ndn : (Fa ++ (a :: Fn) ++ Fc).Nodup := by
    have p2 : ((Fa ++ (a :: Fn) ++ Fc) ++ Fo).Perm (a :: ((Fa ++ Fc) ++ (Fn ++ Fo))) := by
      simp only [List.append_assoc, List.cons_append]
      refine List.Perm.trans List.perm_middle (List.Perm.cons a (List.Perm.append_left Fa ?_))
      exact List.perm_append_comm_assoc Fn Fc Fo
    have p3 : (a :: ((Fa ++ Fc) ++ (Fn ++ Fo))).Perm (a :: ((Fa ++ Fc) ++ (Fx ++ F'))) := List.Perm.cons a (List.Perm.append_left _ hp)
    exact (List.nodup_append.mp ((p2.trans p3).nodup_iff.mpr nd1)).1
  have g : Ex (off (P ++ ((Fa ++ (a :: Fx) ++ Fc) ++ F')) H) (off (P ++ (Fa ++ (a :: Fn) ++ Fc)) (upd H a o)) := off_ex (fun c hc _ => by
    rcases List.mem_append.mp hc with z | z
    · exact List.mem_append_left _ z
    · exact List.mem_append_right _ (sub c z)) fun c u hn hu => by
      rw [upd_ne]
      · exact hu
      · rintro rfl
        exact hn (List.mem_append_right _ ma)
  have e := he (H' := upd H a o) (fun c hc u hu => by rw [upd_ne (nFa c hc)]; exact hu) g g (hr (fun c hc u hu => by rw [upd_ne (nFx c hc)]; exact hu) g)
  have aβ : a ≠ tx.β := fun z => k.live _ k.bag (z ▸ k.fresh a ma)
  have aι : a ≠ tx.ι := fun z => k.lι (z ▸ k.fresh a ma)
  refine ⟨⟨ndn, fun c hc => k.fresh c (sub c hc), k.bag, k.live, k.lι, fun c u hn hu => ?_, e, k.ok.upd aβ aι, k.zero⟩, sub⟩
  rw [upd_ne]
  · exact k.ex c u hn hu
  · rintro rfl
    rw [k.fresh c ma] at hu; cases hu
/-- x.append(e) -/
theorem app_read {K : PySem.W.Frag} {S : List Nat} {v : Env → M D} {i : Nat} {D : Ends} (h : tSs tx ini (fun env => bnd (evKs S v env) fun r => bnd (opt (appE i S r.1 r.2)) fun env' => ret (.nx env')) D σ H) :
    tDrop (tBM K "list" rAppend (tVar i) (tCons (tEv tx v) tNil)) D σ H := by
  obtain ⟨P, H0, Z, F, env, b, r, b', s, hz, e, q⟩ := h
  obtain ⟨⟨d', env'⟩, b1, e1, e2⟩ := bnd_some e
  obtain ⟨env2, b2, e8, e9⟩ := bnd_some e2
  obtain ⟨e10, eb⟩ := opt_some e8
  dsimp only at e10 eb
  subst eb
  have e3 := ret_some e9
  injection e3 with e4 e5
  subst e4; subst e5
  obtain ⟨d, e6, e7⟩ := evKs_some e1
  dsimp only at e6 e7
  unfold appE at e10
  split at e10
  · rename_i xs hx
    split at e10
    · rename_i hc
      cases e10
      -- the name has an own list ahead of e, too
      have hx0 : env[i]? = some (some (.lst .own xs)) := by
        unfold keepE at e7
        split at e7
        · injection e7 with _ e7
          rw [e7] at hx
          have key : ∀ (env : Env) (j : Nat) (i : Nat), (giveE S j env)[i]? = some (some (TI.D.lst .own xs)) → env[i]? = some (some (.lst .own xs)) := by
            intro env
            induction env with
            | nil => intro j i h; simp [giveE] at h
            | cons x r ih =>
              intro j i h
              cases i with
              | succ i => simpa using ih (j + 1) i (by simpa [giveE] using h)
              | zero =>
                unfold giveE at h
                rw [List.getElem?_cons_zero] at h
                split at h
                · cases x with
                  | none => cases h
                  | some d =>
                    cases d with
                    | lst g ys =>
                      have h : TI.D.lst (Fl.fz g) (TI.D.fls Fl.fz ys) = .lst .own xs := by
                        injection h with h; injection h
                      injection h with h1 h2
                      cases h1
                    | _ => injection h with h; injection h with h; cases h
                · exact h
          exact key env 0 i hx
        · injection e7 with _ e7
          rw [e7] at hx
          exact hx
      obtain ⟨w, Fa, Fd, Fc, h1, h2, h3, h4⟩ := s.env.at hx0
      obtain ⟨a, vs, Fx, rfl, k1, k2, rfl⟩ := h3
      have k1 : H a = some (.lst vs) := k1
      refine ⟨_, h1, .inl ⟨rfl, vs, SqL.of k1⟩, ?_⟩
      obtain ⟨Pp, Op, pr, k⟩ := eval_keep1 s S
      refine ⟨Pp, Op, _, b, d, b', pr, e6, fun u H1 F' hh => ?_⟩
      obtain ⟨Fe, kk, ex⟩ := k hh
      rw [← e7] at kk
      obtain ⟨w', Ga, Gd, Gc, g1, g2, g3, g4⟩ := kk.env.at hx
      rw [h1] at g1
      cases g1
      obtain ⟨a', vs', Gx, ea, l1, l2, rfl⟩ := g3
      cases ea
      have l1 : H1 a = some (.lst vs') := l1
      have sn := kk.rewrite (d' := .lst .own (xs ++ [d'])) (o := .lst (vs' ++ [u])) (v := .ref a) (Fn := Gx ++ F') (Fo := []) (d := .non) g2 (by rw [List.append_nil]; exact List.Perm.refl _) g4 (fun {G'} m g => ⟨a, vs' ++ [u], Gx ++ F', rfl, upd_same, (l2.append kk.rep).mono g g m, rfl⟩)
      exact ⟨a, vs', u, rfl, rfl, l1, by rw [← l2.length]; exact hc.2, q _ _ _ sn.1 (by
        refine (ex (Fn := Fe ++ F') fun _ z => z).trans ?_
        refine off_ex (fun c hc _ => ?_) fun c u hn hu => ?_
        · rcases List.mem_append.mp hc with z | z
          · exact List.mem_append_left _ z
          · exact List.mem_append_right _ (sn.2 c z)
        · rw [upd_ne]
          · exact hu
          · rintro rfl
            exact hn (List.mem_append_right _ (List.mem_append_left _ (by rw [g2]; exact List.mem_append_left _ (List.mem_append_right _ (List.mem_append_left _ (List.mem_singleton.mpr rfl)))))))⟩
    · cases e10
  · cases e10
theorem putFl_rep {H B G : Hp} {f : Str} {d : D} {u : V} {Fd : List Addr} : ∀ {ns : List Str} {xs : List D} {vs : List V} {F : List Addr}, Reps tx H B G xs vs F → ns.length = vs.length → Rep tx H B G d u Fd →
    ∃ vs' F' Fo, putF f u (ns.zip vs) = (putFl ns xs f d).1.zip vs' ∧ (putFl ns xs f d).1.length = vs'.length ∧ Reps tx H B G (putFl ns xs f d).2 vs' F' ∧ (F' ++ Fo).Perm (F ++ Fd)
  | [], [], vs, F, ⟨h1, h2⟩, hl, r => by
    subst h1; subst h2
    exact ⟨[u], Fd, [], rfl, rfl, Reps.one r, by simp⟩
  | [], x :: xs, vs, F, h, hl, r => by
    obtain ⟨v, vs', F1, F2, rfl, _⟩ := h
    simp at hl
  | n :: ns, [], vs, F, ⟨h1, h2⟩, hl, r => by subst h1; simp at hl
  | n :: ns, x :: xs, vs, F, h, hl, r => by
    obtain ⟨v, vs', F1, F2, rfl, h1, h2, rfl⟩ := h
    unfold putFl
    rw [List.zip_cons_cons]
    show ∃ vs'' F' Fo, (if n = f then (n, u) :: ns.zip vs' else (n, v) :: putF f u (ns.zip vs')) = _ ∧ _
    by_cases e : n = f
    · rw [if_pos e, if_pos e.symm]
      refine ⟨u :: vs', Fd ++ F2, F1, rfl, by simpa using hl, ⟨u, vs', Fd, F2, rfl, r, h2, rfl⟩, ?_⟩
      refine List.Perm.trans List.perm_append_comm ?_
      rw [List.append_assoc]
      exact List.Perm.append_left F1 List.perm_append_comm
    · rw [if_neg e, if_neg (Ne.symm e)]
      obtain ⟨ws, F', Fo, q1, q2, q3, q4⟩ := putFl_rep h2 (by simpa using hl) r
      refine ⟨v :: ws, F1 ++ F', Fo, by rw [q1]; rfl, by simpa using q2, ⟨v, ws, F1, F', rfl, h1, q3, rfl⟩, ?_⟩
      rw [List.append_assoc, List.append_assoc]
      exact List.Perm.append_left F1 q4
/-- x.f = e -/
theorem fld_read {X : Cx} {k : Nat} {P0 : Pg} {cl : Str → List D → M D} (Fc : Fac tx X P0 k cl) {S : List Nat} {v : Env → M D} {i : Nat} {f : Str} {D : Ends} (h : tSs tx ini (fun env => bnd (evKs S v env) fun r => bnd (opt (putE P0 i f S r.1 r.2)) fun env' => ret (.nx env')) D σ H) :
    sFld X.K (tVar i) (tEv tx v) f D σ H := by
  obtain ⟨P, H0, Z, F, env, b, r, b', s, hz, e, q⟩ := h
  obtain ⟨⟨d', env'⟩, b1, e1, e2⟩ := bnd_some e
  obtain ⟨env2, b2, e8, e9⟩ := bnd_some e2
  obtain ⟨e10, eb⟩ := opt_some e8
  dsimp only at e10 eb
  subst eb
  have e3 := ret_some e9
  injection e3 with e4 e5
  subst e4; subst e5
  obtain ⟨d, e6, e7⟩ := evKs_some e1
  dsimp only at e6 e7
  unfold putE at e10
  split at e10
  · rename_i c ns xs hx
    split at e10
    · rename_i hc
      cases e10
      obtain ⟨cx, na⟩ := Fc.cls _ _ _ hc.2
      obtain ⟨Pp, Op, pr, k⟩ := eval_keep1 s S
      refine ⟨Pp, Op, _, b, d, b', pr, e6, fun u H1 F' hh => ?_⟩
      obtain ⟨Fe, kk, ex⟩ := k hh
      rw [← e7] at kk
      obtain ⟨w', Ga, Gd, Gc, g1, g2, g3, g4⟩ := kk.env.at hx
      obtain ⟨a, dx, vs, Gx, rfl, l1, hl, l2, rfl⟩ := g3
      have l1 : H1 a = some (.ins (tx.ca c) dx (ns.zip vs)) := l1
      obtain ⟨u', us', Fd, Fr, eu, rd, ⟨rfl, z3⟩, z2⟩ := kk.rep
      injection eu with eu1 eu2
      subst eu1; subst z3
      rw [List.append_nil] at z2
      subst z2
      obtain ⟨ws, Fn, Fo, q1, q2, q3, q4⟩ := putFl_rep (f := f) l2 hl rd
      have sn := kk.rewrite (d' := .ins .own c (putFl ns xs f d').1 (putFl ns xs f d').2) (o := .ins (tx.ca c) dx (putF f u (ns.zip vs))) (v := .ref a) (Fn := Fn) (Fo := Fo) (d := .non) g2 q4 g4 (fun {G'} m g => ⟨a, dx, ws, Fn, rfl, by
        show upd H1 a _ a = _
        rw [upd_same, q1], q2, q3.mono g g (fun c hc => m c (q4.subset (List.mem_append_left _ hc))), rfl⟩)
      refine ⟨_, g1, a, _, dx, _, rfl, l1, cx.cl, na, ?_, q _ _ _ sn.1 ?_⟩
      · rw [List.length_zip]
        omega
      · refine (ex (Fn := Fe ++ F') fun _ z => z).trans ?_
        refine off_ex (fun c hc _ => ?_) fun c u hn hu => ?_
        · rcases List.mem_append.mp hc with z | z
          · exact List.mem_append_left _ z
          · exact List.mem_append_right _ (sn.2 c z)
        · rw [upd_ne]
          · exact hu
          · rintro rfl
            exact hn (List.mem_append_right _ (List.mem_append_left _ (by rw [g2]; exact List.mem_append_left _ (List.mem_append_right _ (List.mem_append_left _ (List.mem_singleton.mpr rfl))))))
    · cases e10
  · cases e10
/-- while -/
theorem while_read {c : Env → M Bool} {f : Env → M Fw} {n : Nat} {D : Ends} (h : tSs tx ini (fun env => whileM c f n env) D σ H) : tWhile (tEt tx c) (tSs tx ini f) D σ H := by
  obtain ⟨P, H0, Z, F, env, b, r, b', s, hz, e, q⟩ := h
  refine ⟨fun m σ2 H2 => ∃ F2 env2 b2, Sta tx P H0 Z σ2 env2 b2 H2 F2 ∧ Ex (off (P ++ F) H) (off (P ++ F2) H2) ∧ whileM c f m env2 b2 = some (r, b'), ⟨n, F, env, b, s, Ex.refl _, e⟩, ?_⟩
  rintro m σ2 H2 ⟨F2, env2, b2, s2, g2, e2⟩
  cases m with
  | zero => cases e2
  | succ m =>
    obtain ⟨k, b3, e3, e4⟩ := bnd_some e2
    refine ⟨P, P ++ F2, env2, b2, k, b3, s2.pre0, e3, fun H3 h3 => ?_⟩
    have s3 := s2.grow h3.ex h3.ok
    have g3 : Ex (off (P ++ F) H) (off (P ++ F2) H3) := g2.trans (off_grow (List.mem_append_left _ s.bag) h3.ex)
    cases k with
    | false =>
      have e5 := ret_some e4
      injection e5 with e6 e7
      subst e6; subst e7
      exact q _ _ _ s3 g3
    | true =>
      rw [if_pos rfl] at e4
      obtain ⟨r1, b4, e5, e6⟩ := bnd_some e4
      refine ⟨fun σ4 H4 => ∃ F4 env4 b4, Sta tx P H0 Z σ4 env4 b4 H4 F4 ∧ Ex (off (P ++ F) H) (off (P ++ F4) H4) ∧ whileM c f m env4 b4 = some (r, b'), fun σ4 H4 z => ⟨m, Nat.lt_succ_self _, z⟩, P, H0, Z, F2, env2, b3, r1, b4, s3, hz, e5, ?_⟩
      cases r1 with
      | nx env' => exact fun σ' H' F' s' ex => ⟨F', env', b4, s', g3.trans ex, e6⟩
      | ct env' => exact fun σ' H' F' s' ex => ⟨F', env', b4, s', g3.trans ex, e6⟩
      | bk env' =>
        have e7 := ret_some e6
        injection e7 with e8 e9
        subst e8; subst e9
        exact fun σ' H' F' s' ex => q _ _ _ s' (g3.trans ex)
      | rt d env' =>
        have e7 := ret_some e6
        injection e7 with e8 e9
        subst e8; subst e9
        exact q
end
end TI

set_option Elab.async false
set_option linter.all false
set_option maxRecDepth 100000
/-! for -/
namespace TI
open PySem PySem.Spec PyProof.Rows L2

section
variable {tx : Tx} {ini : Bool} {P : List Addr} {H0 H H1 : Hp} {Z : Option V} {F : List Addr} {σ : L2.St} {env : Env} {b b' : Bag}
theorem set_tgS {tg : ITg} {d : D} {u : V} {env2 : Env} {Q : L2.St → Hp → Prop} (hz : Z ≠ none → ∀ i ∈ tg.ix, i ≠ 0) (k : Kept tx P H0 Z σ env b H F [d] [u] []) (e : tgE tg d env = some env2)
    (q : ∀ σ2 Fe, Sta tx P H0 Z σ2 env2 b H Fe → (∀ a ∈ Fe, a ∈ F) → Q σ2 H) : gOf tx.K tg u σ H Q := by
  cases tg with
  | name i =>
    cases e
    obtain ⟨Fe, F2, k2, sub⟩ := k.put i (fun z => hz z i (List.mem_singleton.mpr rfl))
    obtain ⟨_, rfl⟩ := k2.rep
    exact q _ _ k2.sta fun a ha => by
      have := sub a (List.mem_append_left _ ha)
      rw [List.append_nil] at this
      exact this
  | tup is =>
    cases d with
    | tup f ds =>
      obtain ⟨u', us', Fd, Fr, eu, ⟨a, vs, F3, rfl, k1, k2, k3⟩, ⟨rfl, z3⟩, z2⟩ := k.rep
      subst z3
      injection eu with eu1 eu2
      subst eu1
      obtain ⟨rfl, _⟩ := List.append_eq_nil_iff.mp z2.symm
      have := ft_nil k3
      subst this
      have ks2 : Kept tx P H0 Z σ env b H F ds vs [] := ⟨k.nd, k.fresh, k.bag, k.live, k.lι, k.ex, k.env, k2, k.ok, k.zero⟩
      obtain ⟨Fe2, s2, sub, hl⟩ := ks2.puts (fun z i hi' => hz z i hi') e
      refine ⟨a, vs, rfl, k1.at, hl, gsOf_set hl (q _ _ s2 fun a ha => ?_)⟩
      have := sub a ha
      rw [List.append_nil] at this
      exact this
    | _ => cases e
theorem Sta.kept {d : D} {u : V} (s : Sta tx P H0 Z σ env b H F) (r : Rep tx H (off (P ++ F) H) (off (P ++ F) H) d u []) : Kept tx P H0 Z σ env b H F [d] [u] [] :=
  ⟨by rw [List.append_nil]; exact s.nd, by rw [List.append_nil]; exact s.fresh, s.bag, s.live, s.lι, s.ex, by rw [List.append_nil]; exact s.env, by rw [List.append_nil]; exact Reps.one r, s.ok, s.zero⟩
/-- for tg in it: body -/
theorem for_read {S : List Nat} {vi : Env → M (List D)} {tg : ITg} {f : Env → M Fw} (hi : ini = true → ∀ i ∈ tg.ix, i ≠ 0) {Dn : Ends}
    (h : tSs tx ini (fun env => bnd (vi (only S 0 env)) fun xs => loopM (fun d env' => bnd (opt (tgE tg d.ub.so env')) fun env2 => f env2) xs (giveE S 0 env)) Dn σ H) : tFor (tEi tx vi) (gOf tx.K tg) (tSs tx ini f) Dn σ H := by
  obtain ⟨P, H0, Z, F, env, b, r, b', s, hz, e, q⟩ := h
  obtain ⟨xs, b1, e1, e2⟩ := bnd_some e
  obtain ⟨F1, Fr, pp, pr, m2, nd2, gv⟩ := s.part S
  have m1 : ∀ a ∈ F1, a ∈ F := fun a ha => pp.subset (List.mem_append_left _ ha)
  have n12 := (List.nodup_append.mp (pp.nodup_iff.mpr s.nd)).2.2
  have sub : ∀ a ∈ P ++ Fr, a ∈ P ++ F := fun a ha => by
    rcases List.mem_append.mp ha with z | z
    · exact List.mem_append_left _ z
    · exact List.mem_append_right _ (m2 a z)
  refine ⟨_, _, _, b, xs, b1, pr, e1, fun J H1 h1 w => ?_⟩
  have g0 : Ex (off (P ++ F) H) (off (P ++ Fr) H1) := off_ex (fun a ha _ => sub a ha) fun a o hn ho => h1.ex a o (fun z => hn (z ▸ List.mem_append_left _ s.bag)) ho
  have s1 : Sta tx P H0 Z σ (giveE S 0 env) b1 H1 Fr := ⟨nd2, fun a ha => s.fresh a (m2 a ha), s.bag, s.live, s.lι, s.ex.trans h1.ex,
    gv (fun a ha o ho => h1.ex a o (s.nβ (m2 a ha)) ho) h1.ex (List.mem_append_left _ s.bag) (fun a ha z => by
      rcases List.mem_append.mp z with z | z
      · exact s.notP (m1 a ha) z
      · exact n12 a ha a z rfl) g0, h1.ok, s.zero⟩
  refine ⟨fun i m σ2 H2 => m = xs.length - i ∧ i ≤ xs.length ∧ ∃ F2 env2 b2, Sta tx P H0 Z σ2 env2 b2 H2 F2 ∧ Ex (off (P ++ Fr) H1) (off (P ++ F2) H2) ∧
    loopM (fun d env' => bnd (opt (tgE tg d.ub.so env')) fun env2 => f env2) (xs.drop i) env2 b2 = some (r, b'), ⟨xs.length, by simp, Nat.zero_le _, Fr, _, b1, s1, Ex.refl _, e2⟩, ?_⟩
  rintro i m σ2 H2 ⟨rfl, hi2, F2, env2, b2, s2, g2, er⟩
  have g3 : Ex (off (P ++ F) H1) (off (P ++ F2) H2) := (off_mono sub).trans g2
  obtain ⟨w1, w2⟩ := w _ _ H2 b2 g2 g3 s2.ok
  by_cases hlt : i < xs.length
  · have hx : xs[i]? = some xs[i] := List.getElem?_eq_getElem hlt
    obtain ⟨go, yl⟩ := w2 i _ hx
    rw [List.drop_eq_getElem_cons hlt] at er
    obtain ⟨r1, b3, e3, e4⟩ := bnd_some er
    obtain ⟨env3, b4, e5, e6⟩ := bnd_some e3
    obtain ⟨e7, eb⟩ := opt_some e5
    dsimp only at e7 eb
    subst eb
    refine .inr ⟨go, fun σ' H' => ∃ F2 env2 b2, Sta tx P H0 Z σ' env2 b2 H' F2 ∧ Ex (off (P ++ Fr) H1) (off (P ++ F2) H') ∧
      loopM (fun d env' => bnd (opt (tgE tg d.ub.so env')) fun env2 => f env2) (xs.drop (i + 1)) env2 b2 = some (r, b'), fun σ' H' z => ⟨xs.length - (i + 1), by omega, rfl, hlt, z⟩, fun x H3 y => ?_⟩
    obtain ⟨F4, hy⟩ := yl x H3 y
    have s3 := s2.grow hy.ex hy.ok
    have fr4 : ∀ a ∈ F4, a ∉ P ++ F2 := fun a ha z => s2.liveP a z (hy.fresh a ha)
    have g4 : Ex (off (P ++ F2 ++ F4) H3) (off (P ++ F2) H3) := off_mono fun a ha => List.mem_append_left _ ha
    have rd : Rep tx H3 (off (P ++ F2) H3) (off (P ++ F2) H3) (xs[i].ub.so) x [] := by
      have t1 := hy.out1.turn (g := Fl.ub) (H' := H3) (B' := off (P ++ F2 ++ F4) H3) (G' := off (P ++ F2 ++ F4) H3) ⟨fun a ha o ho => ho, .inl ⟨rfl, Ex.refl _⟩, .inl ⟨rfl, Ex.refl _⟩⟩
      rw [ftg_all (g := Fl.ub) rfl] at t1
      have t2 := t1.turn (g := Fl.so) (H' := H3) (B' := off (P ++ F2) H3) (G' := off (P ++ F2) H3) ⟨fun a ha o ho => off_some.mpr ⟨fr4 a ha, ho⟩, .inl ⟨rfl, g4⟩, .inr ⟨rfl, g4⟩⟩
      rw [ftg_none (g := Fl.so) (by decide)] at t2
      exact t2
    refine set_tgS (fun z i hi' => hi (hz z) i hi') (s3.kept rd) e7 fun σ5 Fe s5 sub5 => ?_
    have g5 : Ex (off (P ++ F2) H2) (off (P ++ Fe) H3) := (off_grow (List.mem_append_left _ s.bag) hy.ex).trans (off_mono fun a ha => by
      rcases List.mem_append.mp ha with z | z
      · exact List.mem_append_left _ z
      · exact List.mem_append_right _ (sub5 a z))
    refine ⟨P, H0, Z, Fe, env3, b4, r1, b3, s5, hz, e6, ?_⟩
    cases r1 with
    | nx env' => exact fun σ' H' F' s' ex => ⟨F', env', b3, s', (g2.trans g5).trans ex, e4⟩
    | ct env' => exact fun σ' H' F' s' ex => ⟨F', env', b3, s', (g2.trans g5).trans ex, e4⟩
    | bk env' =>
      have e8 := ret_some e4
      injection e8 with e9 e10
      subst e9; subst e10
      exact fun σ' H' F' s' ex => q _ _ _ s' (g0.trans ((g2.trans g5).trans ex))
    | rt d env' =>
      have e8 := ret_some e4
      injection e8 with e9 e10
      subst e9; subst e10
      exact q
  · have : i = xs.length := by omega
    subst this
    rw [List.drop_length] at er
    have e8 := ret_some er
    injection e8 with e9 e10
    subst e9; subst e10
    exact .inl ⟨w1 _ (Nat.le_refl _), q _ _ _ s2 (g0.trans g2)⟩
/-! ### the drawing bag -/
theorem join_at {env : Env} {i : Nat} {d : D} (h : (env[i]?).join = some d) : env[i]? = some (some d) := by
  cases z : env[i]? with
  | none => rw [z] at h; cases h
  | some o => rw [z] at h; exact congrArg some h
theorem Pre.bagAt {P O : List Addr} (p : Pre tx P O σ env b H) {i : Nat} (h : (env[i]?).join = some .bag) : σ[i]? = some (some (.ref tx.β)) := by
  obtain ⟨F, he, hF⟩ := p.env
  obtain ⟨v, F1, h1, h2, h3⟩ := he.get (join_at h)
  rw [h1, h2.1]
theorem held_int {P O : List Addr} (p : Pre tx P O σ env b H) (j : Int) : Held tx P O H [.int j] b [.int j] H [] := held0 p.ok ⟨rfl, rfl⟩
theorem bget_at {b : Bag} {i : Nat} {j : Int} (h : b.get i = some j) {z : V} : atI [z, .int b.place, .int b.rest, .int b.seed, .int b.cnt] ((i : Nat) : Int) = some (.int j) := by
  match i, h with
  | 1, h => cases h; rfl
  | 2, h => cases h; rfl
  | 3, h => cases h; rfl
  | 4, h => cases h; rfl
theorem rd_bget {K : PySem.W.Frag} {x i : Nat} {Q : VK} (h : tEv tx (fun env => bgetM env x i) σ H Q) : tOp (rIxL K) (tVar x) (tC (.int ((i : Nat) : Int))) σ H Q := by
  obtain ⟨P, O, env, b, d, b', p, e, q⟩ := h
  unfold bgetM at e
  dsimp only at e
  split at e
  · rename_i hx
    obtain ⟨j, hj, e2⟩ := Option.map_eq_some_iff.mp e
    cases e2
    exact ⟨_, p.bagAt hx, _, _, _, _, rfl, rfl, SqL.of p.ok.1, bget_at hj, q _ _ _ (held_int p j)⟩
  · cases e
theorem rd_blen {K : PySem.W.Frag} {x : Nat} {Q : VK} (h : tEv tx (fun env => blenM env x) σ H Q) : tCB (rLen K) (tCons (tOp (rIxL K) (tVar x) (tC (.int 0))) tNil) σ H Q := by
  obtain ⟨P, O, env, b, d, b', p, e, q⟩ := h
  unfold blenM at e
  dsimp only at e
  split at e
  · rename_i hx
    cases e
    refine ⟨_, p.bagAt hx, _, _, 0, _, rfl, rfl, SqL.of p.ok.1, rfl, ?_⟩
    refine ⟨.ref tx.ι, _, rfl, .inl ⟨_, SqL.of p.ok.2.2, rfl⟩, ?_⟩
    rw [List.length_map]
    exact q _ _ _ (held_int p _)
  · cases e
theorem atI_map {xs : List Int} {j z : Int} (h : atI xs j = some z) : atI (xs.map V.int) j = some (.int z) := by
  unfold atI at h ⊢
  obtain ⟨k, h1, h2⟩ := Option.bind_eq_some_iff.mp h
  rw [List.length_map, h1]
  show (xs.map V.int)[k]? = some (.int z)
  rw [List.getElem?_map, h2]
  rfl
theorem rd_bcell {K : PySem.W.Frag} {x : Nat} {v : Env → M D} {Q : VK} (h : tEv tx (fun env => bnd (v env) (bcellM env x)) σ H Q) : tOp (rIxL K) (tOp (rIxL K) (tVar x) (tC (.int 0))) (tEv tx v) σ H Q := by
  obtain ⟨P, O, env, b, d, b', p, e, q⟩ := h
  obtain ⟨d1, b1, e1, e2⟩ := bnd_some e
  unfold bcellM at e2
  split at e2
  · rename_i hx
    obtain ⟨z, hz, e3⟩ := Option.map_eq_some_iff.mp e2
    cases e3
    refine ⟨_, p.bagAt hx, _, _, 0, _, rfl, rfl, SqL.of p.ok.1, rfl, ?_⟩
    refine ⟨P, O, env, b, _, b', p, e1, fun u H1 F1 h1 => ?_⟩
    obtain ⟨rfl, rfl⟩ := h1.out1
    exact ⟨tx.ι, _, _, _, rfl, rfl, SqL.of h1.ok.2.2, atI_map hz, q _ _ _ (h1.flat (repInt _))⟩
  · cases e2
theorem Sta.setBag (s : Sta tx P H0 Z σ env b H F) {b' : Bag} {i : Nat} {j : Int} (h : b.set j i = some b') : ixN 5 ((i : Nat) : Int) = some i ∧
    Sta tx P H0 Z σ env b' (upd H tx.β (.lst ([.ref tx.ι, .int b.place, .int b.rest, .int b.seed, .int b.cnt].set i (.int j)))) F := by
  have key : ixN 5 ((i : Nat) : Int) = some i ∧ [V.ref tx.ι, .int b.place, .int b.rest, .int b.seed, .int b.cnt].set i (.int j) = [.ref tx.ι, .int b'.place, .int b'.rest, .int b'.seed, .int b'.cnt] ∧ b'.cells = b.cells := by
    match i, h with
    | 1, h => cases h; exact ⟨rfl, rfl, rfl⟩
    | 2, h => cases h; exact ⟨rfl, rfl, rfl⟩
    | 3, h => cases h; exact ⟨rfl, rfl, rfl⟩
    | 4, h => cases h; exact ⟨rfl, rfl, rfl⟩
  obtain ⟨k1, k2, k3⟩ := key
  refine ⟨k1, ?_⟩
  rw [k2]
  have g : Ex (off (P ++ F) H) (off (P ++ F) (upd H tx.β (.lst [.ref tx.ι, .int b'.place, .int b'.rest, .int b'.seed, .int b'.cnt]))) := off_ex (fun a ha _ => ha) fun a o hn ho => by
    have na : a ≠ tx.β := fun z => hn (by rw [z]; exact List.mem_append_left _ s.bag)
    rw [upd_ne na]
    exact ho
  obtain ⟨o1, o2, o3⟩ := s.ok
  refine ⟨s.nd, s.fresh, s.bag, s.live, s.lι, fun a o hn ho => by rw [upd_ne hn]; exact s.ex a o hn ho, s.env.mono g g (fun a ha o ho => by rw [upd_ne (s.nβ ha)]; exact ho), ⟨upd_same, o2, by rw [upd_ne o2, k3]; exact o3⟩, s.zero⟩
/-- bag[i] = e -/
theorem bset_read {S : List Nat} {v : Env → M D} {x i : Nat} {Dn : Ends} (h : tSs tx ini (fun env => bnd (v (only S 0 env)) (bsetM env x i)) Dn σ H) : tAsg (tEv tx v) (gSub (tVar x) (tC (.int ((i : Nat) : Int))) rSetL) Dn σ H := by
  obtain ⟨P, H0, Z, F, env, b, r, b', s, hz, e, q⟩ := h
  obtain ⟨d1, b1, e1, e2⟩ := bnd_some e
  unfold bsetM at e2
  split at e2
  · rename_i j hx
    obtain ⟨b2, hb, e3⟩ := Option.map_eq_some_iff.mp e2
    cases e3
    obtain ⟨Pp, Op, pr, k⟩ := eval_keep s S
    refine ⟨Pp, Op, _, b, _, b1, pr, e1, fun u H1 F1 h1 => ?_⟩
    obtain ⟨rfl, rfl⟩ := h1.out1
    have s1 := s.grow h1.ex h1.ok
    obtain ⟨i1, s2⟩ := s1.setBag hb
    obtain ⟨v0, F0, k1, k2, _⟩ := s.env.get (join_at hx)
    rw [k2.1] at k1
    refine ⟨_, k1, tx.β, _, _, i, rfl, rfl, h1.ok.1, i1, q _ _ _ s2 ?_⟩
    refine (off_grow (List.mem_append_left _ s.bag) h1.ex).trans (off_ex (fun a ha _ => ha) fun a o hn ho => ?_)
    have na : a ≠ tx.β := fun z => hn (by rw [z]; exact List.mem_append_left _ s.bag)
    rw [upd_ne na]
    exact ho
  · cases e2
end
end TI

set_option Elab.async false
set_option linter.all false
set_option maxRecDepth 100000
/-! bool(), isinstance, calls with a keyword, built-ins by name -/
namespace TI
open PySem PySem.Spec PyProof.Rows L2

theorem bool_meetsIn {prog : Program} {w : World} {l : Addr} : MeetsIn prog w (Builtin.«bool.__new__» ⟨[.type "bool", .ref l], []⟩)
    (fun A R s => wpAny (model prog w) A.in1 (truthy (.ref l)) (fun b s' => R (.ok (.ret (.bool b))) s') (fun e s' => R (.error e) s') s) :=
  MeetsIn.of_wp fun A R s hs => by
    have f1 := F.conv_sub_bool
    obtain ⟨hp, g, d, tk, os⟩ := s
    repeat (any_goals (first | assumption | (with_reducible refine wpAny_bind (m := truthy _) (wpAny_mono hs (fun _ _ z => ?_) fun _ _ z => z)) | wp_step))
    all_goals first | exact ⟨_, rfl, z⟩ | exact ⟨_, rfl, by assumption⟩ | skip
theorem call_bool_ref {prog : Program} {w : World} {A : Around} {E : Value → Shared → Prop} {s : Shared} {l : Addr} {Q : Value → Shared → Prop} (h : wpAny (model prog w) A.in1.in1 (truthy (.ref l)) (fun b s' => Q (.bool b) s') E s) :
    wpAny (model prog w) A (call (.type "bool") [.ref l]) Q E s :=
  callType_newIn F.called_bool F.newNe_bool (F.typeCall_bool_1 _) (F.newCall_bool_1 _) (fun obj => F.args_object_init_2 obj _) F.entry_bool_new bool_meetsIn (wpAny_mono h (fun b s' z => ⟨rfl, z⟩) fun _ _ z => z)
section
variable {tx : Tx} {X : Cx} {k : Nat} {P0 : Pg} {cl : Str → List D → M D}
theorem blt_bool (Fc : Fac tx X P0 k cl) : CallR X (.type "bool") (DnA tx fun ds => bltM P0 cl "bool" ds) := by
  intro pins s σ H2 xs us Q I rr hd
  obtain ⟨P, O, σ0, env, b, H, ds, b2, d, b', F, p, hh, e0, q⟩ := hd
  unfold bltM at e0
  dsimp only at e0
  rw [if_pos rfl] at e0
  cases ds with
  | nil => cases e0
  | cons x t =>
    cases t with
    | cons _ _ => cases e0
    | nil =>
      dsimp only at e0
      obtain ⟨u, rfl⟩ := hh.one_of
      unfold boolM at e0
      cases x with
      | int i =>
        obtain ⟨rfl, _⟩ := hh.out1
        have e1 := ret_some e0
        injection e1 with e2 e3
        subst e2; subst e3
        exact call_bool1 pins s σ H2 _ us Q I rr (.inl ⟨i, rfl, q _ _ _ (hh.flat (repBl _))⟩)
      | bl i =>
        obtain ⟨rfl, _⟩ := hh.out1
        have e1 := ret_some e0
        injection e1 with e2 e3
        subst e2; subst e3
        exact call_bool1 pins s σ H2 _ us Q I rr (.inr ⟨i, rfl, q _ _ _ (hh.flat (repBl _))⟩)
      | ins f c ns xs =>
        dsimp only at e0
        cases hk : methAt P0 c "__bool__" with
        | none => rw [hk] at e0; cases e0
        | some key =>
          rw [hk] at e0
          obtain ⟨kk, b3, e1, e2⟩ := bnd_some e0
          have e3 := ret_some e2
          injection e3 with e4 e5
          subst e4; subst e5
          have e6 := appB_some e1
          obtain ⟨cx, g, hm, Fn⟩ := Fc.cls _ _ _ (methAt_some hk)
          obtain ⟨a, dx, vs, F', rfl, ea, hl, hr, hs⟩ := hh.out1.inst
          obtain ⟨u1, rfl, r1⟩ := rr.one
          obtain rfl : u1 = Value.ref a := r1
          obtain ⟨mA, O1, _⟩ := ins_get I.hok ea
          obtain ⟨od, J, _⟩ := O1.look
          obtain ⟨m0, F0⟩ := I.fr
          refine call_bool_ref (PySem.W.truthy_K F0 I.mod.kin J hm.at_ hm.fn ?_)
          refine thn (run_app2 (Q := fun z H' => z = .bl kk ∧ Q (.bl kk) H') (us := [.ref a]) (vs := [.ref a]) Fc.room Fn I (.cons rfl .nil) (app_sp p hh e6 fun z H' F' hz => ?_)) fun z s' ⟨zv, H', I', rz, ez, qz⟩ => ?_
          · obtain ⟨rfl, rfl⟩ := hz.out1
            exact ⟨rfl, q _ _ _ hz⟩
          · subst ez
            cases rz
            exact ⟨.bl kk, H', I', rfl, qz⟩
      | _ => cases e0
/-- o.m(k = e) -/
theorem ht_kw {o : Expr} {m k : Str} {apos pos kpos : Pos} {e : Expr} {env : PySem.Env} (h1 : noSuper o = true) (h2 : (apos.endLine == pos.line) = true) :
    eval (.Call (.Attribute o m apos) [] [⟨some k, e, kpos⟩] pos) env = (do
      let ov ← eval o env
      standAt apos.atName
      let (f, first) ← holding [ov] (getMethod ov m (plainOf o env))
      callWith pos f first (backTo pos (starEach [] env)) (backToKw pos (keywordEach [⟨some k, e, kpos⟩] env))) := by
  rw [arm_eval_Call, attr_base h1]
  refine congrArg (fun k => eval o env >>= k) (funext fun ov => ?_)
  refine congrArg (fun k => standAt apos.atName >>= k) (funext fun _ => ?_)
  exact mcall_line rfl h2
theorem s_methk (Fc : Fac tx X P0 k cl) {o e : Expr} {m z : Str} {apos pos kpos : Pos} {va ve : Env → M D} (ho : PE X o (tEv tx va)) (he : PE X e (tEv tx ve)) (h1 : noSuper o = true) (h2 : (apos.endLine == pos.line) = true) :
    PE X (.Call (.Attribute o m apos) [] [⟨some z, e, kpos⟩] pos) (tEv tx fun env => bnd (va env) fun x => methK P0 cl x m z (ve env)) := by
  refine ⟨fun pins s σ H Q I h => ?_⟩
  obtain ⟨P, O, env, b, d, b', p, e0, q⟩ := h
  obtain ⟨x, b1, e1, e2⟩ := bnd_some e0
  refine PySem.W.methodCall_KW (pl := plainOf o X.env) (thn (ho.run pins s σ H (fun u H1 => ∃ F, Held tx P O H [x] b1 [u] H1 F) I ⟨P, O, env, b, x, b1, p, e1, fun u H1 F1 h1 => ⟨F1, h1⟩⟩) fun u s1 ⟨x0, H1, I1, rx, F1, hh⟩ => ?_) (ht_kw h1 h2)
  unfold methK at e2
  cases x with
  | ins fl c ns xs =>
    dsimp only at e2
    cases hk : methAt P0 c m with
    | none => rw [hk] at e2; cases e2
    | some key =>
      rw [hk] at e2
      dsimp only at e2
      split at e2
      · rename_i hc
        obtain ⟨hc1, hn⟩ := hc
        obtain ⟨d2, b2, e3, e4⟩ := bnd_some e2
        obtain ⟨a, dx, vs', F', rfl, ea, hl, hr, hs⟩ := hh.out1.inst
        obtain rfl : u = Value.ref a := rx
        obtain ⟨cx, g, hm, Fn⟩ := Fc.cls _ _ _ (methAt_some hk)
        obtain ⟨y, hy⟩ : ∃ y, P0.par key = [y, z] := by
          cases hp : P0.par key with
          | nil => rw [hp] at hc1; cases hc1
          | cons y t => rw [hp] at hc1; exact ⟨y, by rw [show t = [z] from hc1]⟩
        rw [hy] at Fn
        refine getmeth_ok I1 ea cx.cl hm (zip_none hn) ?_
        refine PySem.W.callWith_KW0 (first := [.ref a]) (h₀ := X.base) I1.ok.mod.kin hm.kp rfl (thn ((pk_cons (nm := some z) (kpos := kpos) he pk_nil).run pos pins s1 σ H1 (fun us H2 => ∃ F2 w, us = [w] ∧ Held tx (P ++ F1) (O ++ F1) H1 [d2] b2 [w] H2 F2) I1 ⟨_, _, env, b1, d2, b2, p.held hh, e3, fun w H2 F2 h2 => ⟨F2, w, rfl, h2⟩⟩) fun us s2 ⟨zs, H2, I2, r, F2, w, ew, hh2⟩ => ⟨I2.kIn, ?_⟩)
        subst ew
        obtain ⟨u2, rfl, r2⟩ := r.one
        exact run_kw (Fc.room.mono (by omega)) Fn I2 (v := .ref a) (y := w) rfl r2 (app_sp p (Held.app p hh hh2) e4 q)
      · cases e2
  | _ => cases e2

/-! ### isinstance -/
def clsU (tx : Tx) (t : Str) : Value := match tyS t with
  | some n => .type n
  | none => .ref (tx.ca t)
def clsW (tx : Tx) (t : Str) : V := match tyS t with
  | some n => .ty n
  | none => .ref (tx.ca t)
theorem clsV_of (t : Str) : ClsV (clsW tx t) (clsU tx t) := by
  unfold clsW clsU
  split
  · exact .ty _
  · exact .own _
theorem tyS_name {t : Str} {n : String} (h : tyS t = some n) : t ≠ "__name__" ∧ (t == ("__debug__" : Str)) = false ∧ t ∈ bltNames ∧ bootBuiltins t = some (.type n) := by
  unfold tyS at h
  split at h
  · rename_i e; cases h; subst e; exact ⟨by decide, by decide, by decide, PyProof.Rows.Boot.«ValueError»⟩
  split at h
  · rename_i e; cases h; subst e; exact ⟨by decide, by decide, by decide, PyProof.Rows.Boot.«LookupError»⟩
  split at h
  · rename_i e; cases h; subst e; exact ⟨by decide, by decide, by decide, PyProof.Rows.Boot.«IndexError»⟩
  split at h
  · rename_i e; cases h; subst e; exact ⟨by decide, by decide, by decide, boot_int⟩
  split at h
  · rename_i e; cases h; subst e; exact ⟨by decide, by decide, by decide, boot_bool⟩
  split at h
  · rename_i e; cases h; subst e; exact ⟨by decide, by decide, by decide, boot_str⟩
  split at h
  · rename_i e; cases h; subst e; exact ⟨by decide, by decide, by decide, boot_list⟩
  split at h
  · rename_i e; cases h; subst e; exact ⟨by decide, by decide, by decide, boot_tuple⟩
  cases h
/-- a class that isinstance may look for -/
def isiOk (P : Pg) (t : Str) : Bool := (tyS t).isSome || (decide (t ∈ P.isc) && !(t == ("__debug__" : Str)))
theorem pe_clsname (Fc : Fac tx X P0 k cl) {t : Str} {p : Pos} (hg : Gl X t) (h : isiOk P0 t = true) : PE X (.Name t p) (tC (clsW tx t)) := by
  unfold isiOk at h
  unfold clsW
  cases ht : tyS t with
  | some n =>
    obtain ⟨h1, h2, h3, h4⟩ := tyS_name ht
    exact pe_bltn hg (Fc.nb _ h3) h4 rfl h1 h2
  | none =>
    rw [ht] at h
    simp only [Option.isSome_none, Bool.false_or, Bool.and_eq_true, decide_eq_true_eq, Bool.not_eq_true'] at h
    obtain ⟨h1, _⟩ := Fc.isc _ h.1
    exact pe_glob hg h1 rfl h.2
theorem ty_all (Fc : Fac tx X P0 k cl) {H : Hp} {Bo Go : List Addr} {x : D} {u : V} {F : List Addr} (r : Rep tx H (off Bo H) (off Go H) x u F) {t0 : Str} {k0 : Bool} (h0 : isiD P0 x t0 = some k0) :
    ∃ ty, TyZ X H u ty ∧ ∀ t kk, isiD P0 x t = some kk → PySem.W.kitOne X.K ty (clsU tx t) = some kk := by
  rcases ty_rep Fc r with ⟨n, h1, h2, h3, h4⟩ | ⟨f, c, ns, xs, rfl, h⟩ | rfl | ⟨f, c, ns, xs, rfl, h⟩
  · refine ⟨.type n, .base h1, fun t kk e => ?_⟩
    unfold clsU
    cases ht : tyS t with
    | some nn =>
      obtain ⟨q1, q2⟩ := h2 t nn ht
      rw [q1] at e
      cases e
      exact q2
    | none =>
      have := h3 t kk ht e
      subst this
      have hm : t ∈ P0.isc := by
        unfold isiD at e
        cases x with
        | bag => cases e
        | ins f c ns xs =>
          obtain ⟨l, _, e⟩ := Option.bind_eq_some_iff.mp e
          simp only [ht] at e
          split at e
          · assumption
          · cases e
        | exc f c ns xs =>
          obtain ⟨y, _, e⟩ := Option.bind_eq_some_iff.mp e
          simp only [ht] at e
          split at e
          · rename_i hh
            exact hh.resolve_right (by simp)
          · cases e
        | _ =>
          simp only [ht] at e
          split at e
          · assumption
          · cases e
      obtain ⟨q1, q2, q3⟩ := Fc.isc _ hm
      exact h4 _ q2 q3
  · unfold isiD at h0
    obtain ⟨l, hl, _⟩ := Option.bind_eq_some_iff.mp h0
    refine ⟨.ref (tx.ca c), .base (h l hl), fun t kk e => ?_⟩
    unfold isiD at e
    obtain ⟨l', hl', e⟩ := Option.bind_eq_some_iff.mp e
    rw [hl] at hl'
    cases hl'
    obtain ⟨_, m1, m2⟩ := Fc.mro _ _ hl
    unfold clsU
    cases ht : tyS t with
    | some nn =>
      simp only [ht] at e
      cases e
      exact m2 t nn ht
    | none =>
      simp only [ht] at e
      split at e
      · cases e
        exact m1 t (by assumption)
      · cases e
  · cases h0
  · unfold isiD at h0
    obtain ⟨y, hy, _⟩ := Option.bind_eq_some_iff.mp h0
    refine ⟨.ref (tx.ca c), h y hy, fun t kk e => ?_⟩
    unfold isiD at e
    obtain ⟨y', hy', e⟩ := Option.bind_eq_some_iff.mp e
    rw [hy] at hy'
    cases hy'
    have T := Fc.exs _ _ hy
    try dsimp only at e
    split at e
    · rename_i ho
      cases e
      unfold clsU
      cases ht : tyS t with
      | some nn => exact T.kb t nn ht
      | none =>
        rw [ht] at ho
        exact T.ks t (ho.resolve_right (by simp))
    · cases e
theorem any_all {K : PySem.W.Frag} {x : D} {ty : Value} (h : ∀ t kk, isiD P0 x t = some kk → PySem.W.kitOne K ty (clsU tx t) = some kk) : ∀ {ts : List Str} {kk : Bool}, isiA P0 x ts = some kk → PySem.W.kitAny K ty (ts.map (clsU tx)) = some kk
  | [], kk, e => by cases e; rfl
  | t :: ts, kk, e => by
    unfold isiA at e
    split at e
    · rename_i e1
      cases e
      exact kitAny_cons (h t true e1) (fun z => nomatch z) fun _ => rfl
    · rename_i e1
      exact kitAny_cons (h t false e1) (fun _ => any_all h e) fun z => nomatch z
    · cases e
theorem isiA_first {x : D} {t : Str} {ts : List Str} {kk : Bool} (e : isiA P0 x (t :: ts) = some kk) : ∃ k0, isiD P0 x t = some k0 := by
  unfold isiA at e
  cases h : isiD P0 x t with
  | some k0 => exact ⟨k0, rfl⟩
  | none => rw [h] at e; cases e
/-- isinstance(e, T) -/
theorem s_isi1 (Fc : Fac tx X P0 k cl) {e : Expr} {t : Str} {p p2 pos : Pos} {va : Env → M D} (he : PE X e (tEv tx va)) (hs : noStar e = true) (hg : Gl X "isinstance") (hgt : Gl X t) (ht : isiOk P0 t = true) :
    PE X (.Call (.Name "isinstance" p) [e, .Name t p2] [] pos) (tEv tx fun env => bnd (va env) fun x => bnd (opt (isiA P0 x [t])) fun k => ret (.bl k)) := by
  refine PE.imp (pe_callB call_isiZ hg (Fc.nb _ (by decide)) boot_isinstance (pa_cons he (pa_cons (pe_clsname Fc hgt ht) pa_nil rfl) (star_of hs)) (by decide) (by decide) (star_of hs) rfl) fun σ H Q h => ?_
  refine (show tEv tx va σ H _ from (rd1 h).imp fun u H1 h1 => ?_)
  obtain ⟨P, O, σ0, env, b, H0, x, b2, d, b', F, p', hh, e0, q⟩ := h1
  obtain ⟨kk, b3, e1, e2⟩ := bnd_some e0
  obtain ⟨e3, eb⟩ := opt_some e1
  dsimp only at e3 eb
  subst eb
  have e4 := ret_some e2
  injection e4 with e5 e6
  subst e5; subst e6
  obtain ⟨k0, hk0⟩ := isiA_first e3
  obtain ⟨ty, h1, h2⟩ := ty_all Fc hh.out1 hk0
  have : kk = k0 := by
    unfold isiA at e3
    rw [hk0] at e3
    cases k0 with
    | true => cases e3; rfl
    | false => cases e3; rfl
  subst this
  exact ⟨u, _, ty, _, kk, rfl, clsV_of t, h1, h2 t kk hk0, q _ _ _ (hh.flat (repBl _))⟩
theorem pa_clsnames (Fc : Fac tx X P0 k cl) : ∀ {ts : List Str} {es : List Expr}, (ts.zip es).all (fun p => match p.2 with
    | .Name t _ => p.1 == t
    | _ => false) = true → ts.length = es.length → (∀ t ∈ ts, Gl X t) → ts.all (isiOk P0) = true → PA X es (fun _ H Q => Q (ts.map (clsW tx)) H)
  | [], [], _, _, _, _ => pa_nil
  | [], _ :: _, _, h, _, _ => by simp at h
  | _ :: _, [], _, h, _, _ => by simp at h
  | t :: ts, e :: es, h1, h2, h3, h4 => by
    rw [List.zip_cons_cons, List.all_cons, Bool.and_eq_true] at h1
    rw [List.all_cons, Bool.and_eq_true] at h4
    obtain ⟨h5, h6⟩ := h1
    cases e with
    | Name t' p =>
      have : t = t' := by simpa using h5
      subst this
      exact pa_cons (pe_clsname Fc (h3 t List.mem_cons_self) h4.1) (pa_clsnames Fc h6 (by simpa using h2) (fun t ht => h3 t (List.mem_cons_of_mem _ ht)) h4.2) rfl
    | _ => cases h5
theorem paired_cls : ∀ ts : List Str, Paired ClsV (ts.map (clsW tx)) (ts.map (clsU tx))
  | [] => .nil
  | t :: ts => .cons (clsV_of t) (paired_cls ts)
/-- isinstance(e, (T, ..)) -/
theorem s_isiT (Fc : Fac tx X P0 k cl) {e : Expr} {t : Str} {ts : List Str} {es : List Expr} {kt : Nat} {p p2 pos : Pos} {va : Env → M D} (he : PE X e (tEv tx va)) (hs : noStar e = true) (hg : Gl X "isinstance")
    (h1 : ((t :: ts).zip es).all (fun p => match p.2 with
    | .Name t _ => p.1 == t
    | _ => false) = true) (h2 : (t :: ts).length = es.length) (h3 : ∀ t' ∈ t :: ts, Gl X t') (h4 : (t :: ts).all (isiOk P0) = true) (h5 : (t :: ts).length ≤ 100) :
    PE X (.Call (.Name "isinstance" p) [e, .Tuple es kt p2] [] pos) (tEv tx fun env => bnd (va env) fun x => bnd (opt (isiA P0 x (t :: ts))) fun k => ret (.bl k)) := by
  refine PE.imp (pe_callB call_isiTZ hg (Fc.nb _ (by decide)) boot_isinstance (pa_cons he (pa_cons (pe_tup (pa_clsnames (tx := tx) Fc h1 h2 h3 h4)) pa_nil rfl) (star_of hs)) (by decide) (by decide) (star_of hs) rfl) fun σ H Q h => ?_
  refine (show tEv tx va σ H _ from (rd1 h).imp fun u H1 h1 => ?_)
  obtain ⟨P, O, σ0, env, b, H0, x, b2, d, b', F, p', hh, e0, q⟩ := h1
  obtain ⟨kk, b3, e1, e2⟩ := bnd_some e0
  obtain ⟨e3, eb⟩ := opt_some e1
  dsimp only at e3 eb
  subst eb
  have e4 := ret_some e2
  injection e4 with e5 e6
  subst e5; subst e6
  obtain ⟨k0, hk0⟩ := isiA_first e3
  refine ⟨by rw [List.length_map, sizeLine_eq]; omega, fun tp htp => ?_⟩
  have hg := hh.grow (H2 := upd H1 tp (.tup ((t :: ts).map (clsW tx)))) p' (ExB.new htp) (hh.ok.new htp)
  obtain ⟨ty, k1, k2⟩ := ty_all Fc hg.out1 hk0
  exact ⟨u, tp, _, ty, _, kk, rfl, upd_same, paired_cls _, k1, any_all k2 e3, q _ _ _ (hg.flat (repBl _))⟩
/-- a constant of the module -/
theorem s_con (Fc : Fac tx X P0 k cl) {x : Str} {p : Pos} (hg : Gl X x) (hd : (x == ("__debug__" : Str)) = false) : PE X (.Name x p) (tEv tx fun _ => opt (P0.con.lookup x)) := by
  cases h : P0.con.lookup x with
  | none => exact ⟨fun pins s σ H Q I z => by obtain ⟨P, O, env, b, d, b', p, e, q⟩ := z; cases e⟩
  | some d =>
    obtain ⟨v, u, h1, h2, h3⟩ := Fc.con x d h
    exact PE.imp (s_const (pe_glob hg h1 h2 hd) h3) fun σ H Q z => z
end
end TI

set_option Elab.async false
set_option linter.all false
set_option maxRecDepth 100000
/-! the compact form checked against the syntax; every checked expression does what its form says -/
namespace TI
open PySem PySem.Spec PyProof.Rows L2

/-- as an expression | as what is walked to a target | as a part of a slice -/
inductive Md where
  | e (x : Expr) | i (tg x : Expr) | p (o : Option Expr)
/-- where a text stands -/
structure Sc where
  N : List Str
  sc : Scope
  wr : Str → Bool
def Sc.blk (S : Sc) (scope : Scope) : Sc := ⟨S.N, relS scope S.sc, fun x => (scope.names.lookup x == some .local) || (scope.names.lookup x == some .cell)⟩
def glB (S : Sc) (x : Str) : Bool := decide (S.sc.names.lookup x = some .globalImplicit) && !(x == ("__debug__" : Str))
def visB (S : Sc) (i : Nat) (x : Str) : Bool := decide (S.N[i]? = some x) && (match S.sc.names.lookup x with
  | some .local => true
  | some .cell => true
  | some .free => true
  | _ => false) && !(x == ("__debug__" : Str)) && !(x == ("__classdict__" : Str))
def noFold : Expr → Bool
  | .Set _ _ _ => false
  | _ => true
def tgNames : Expr → List Str
  | .Name x _ => [x]
  | .Tuple es _ _ => es.filterMap fun
    | .Name x _ => some x
    | _ => none
  | _ => []
def mTs (S : Sc) : List Nat → List Expr → Bool
  | [], [] => true
  | i :: is, .Name x _ :: es => decide (S.N[i]? = some x) && S.wr x && mTs S is es
  | _, _ => false
def mT (S : Sc) : ITg → Expr → Bool
  | .name i, .Name x _ => decide (S.N[i]? = some x) && S.wr x
  | .tup is, .Tuple es _ _ => mTs S is es
  | _, _ => false
def bltCalls : List Str := ["len", "int", "abs", "list", "tuple", "sum", "all", "any", "bool"]
def statB (P : Pg) (c m : Str) : Bool := match P.at c m with
  | some (.stat _) => true
  | _ => false
def isTup : Expr → Bool
  | .Tuple _ _ _ => true
  | _ => false
mutual
def mX (P : Pg) (S : Sc) : IE → Md → Bool
  | .var i, md => (match md with
    | .e (.Name x _) => visB S i x
    | _ => false)
  | .int i, md => (match md with
    | .e (.Constant (.int j) _ _) => decide (i = j)
    | _ => false)
  | .str s, md => (match md with
    | .e (.Constant (.str t) _ _) => decide (s = t)
    | _ => false)
  | .bl b, md => (match md with
    | .e (.Constant (.bool c) _ _) => decide (b = c)
    | _ => false)
  | .non, md => (match md with
    | .e (.Constant .none _ _) => true
    | _ => false)
  | .glo x, md => (match md with
    | .e (.Name y _) => decide (x = y) && glB S x
    | _ => false)
  | .bin op a b, md => (match md with
    | .e (.BinOp x op' y _) => decide (op = op') && mX P S a (.e x) && mX P S b (.e y)
    | _ => false)
  | .neg a, md => (match md with
    | .e (.UnaryOp .USub x _) => mX P S a (.e x)
    | _ => false)
  | .not a, md => (match md with
    | .e (.UnaryOp .Not x _) => mX P S a (.e x)
    | _ => false)
  | .bop op a b, md => (match md with
    | .e (.BoolOp op' (x :: y :: r) pos) => decide (op = op') && mX P S a (.e x) && mX P S b (.e (if r.isEmpty then y else .BoolOp op' (y :: r) pos))
    | _ => false)
  | .ife c a b, md => (match md with
    | .e (.IfExp z x y _) => mX P S c (.e z) && mX P S a (.e x) && mX P S b (.e y)
    | _ => false)
  | .cmp op a b, md => (match md with
    | .e (.Compare x [op'] [y] _) => decide (op = op') && decide (op ≠ .In) && decide (op ≠ .NotIn) && mX P S a (.e x) && mX P S b (.e y)
    | _ => false)
  | .cmp2 op op2 a b c, md => (match md with
    | .e (.Compare x [op', op2'] [y, z] _) => decide (op = op') && decide (op2 = op2') && decide (op2 ≠ .In) && decide (op2 ≠ .NotIn) && mX P S a (.e x) && mX P S b (.e y) && mX P S c (.e z)
    | _ => false)
  | .call f as, md => (match md with
    | .e (.Call (.Name g _) es [] _) => decide (f = g) && glB S f && (decide (f ∈ P.fns) || decide (f ∈ P.cls)) && es.all noStar && mXs P S as es
    | _ => false)
  | .exc c as, md => (match md with
    | .e (.Call (.Name g _) es [] _) => decide (c = g) && glB S c && (P.exs.lookup c).isSome && es.all noStar && mXs P S as es
    | _ => false)
  | .exck c k a, md => (match md with
    | .e (.Call (.Name g _) [] [⟨some z, e, _⟩] _) => decide (c = g) && decide (k = z) && glB S c && (P.exs.lookup c).isSome && mX P S a (.e e)
    | _ => false)
  | .scall c m as, md => (match md with
    | .e (.Call (.Attribute (.Name d _) m' apos) (e :: es) [] pos) => decide (c = d) && decide (m = m') && glB S c && statB P c m && (apos.endLine == pos.line) && (e :: es).all noStar && decide ((e :: es).length < 29) && mXs P S as (e :: es)
    | _ => false)
  | .meth o m as, md => (match md with
    | .e (.Call (.Attribute x m' apos) es [] pos) => decide (m = m') && noSuper x && (apos.endLine == pos.line) && es.all noStar && decide (es.length < 29) && mX P S o (.e x) && mXs P S as es
    | _ => false)
  | .methk o m k a, md => (match md with
    | .e (.Call (.Attribute x m' apos) [] [⟨some z, e, _⟩] pos) => decide (m = m') && decide (k = z) && noSuper x && (apos.endLine == pos.line) && mX P S o (.e x) && mX P S a (.e e)
    | _ => false)
  | .attr o f, md => (match md with
    | .e (.Attribute x f' _) => decide (f = f') && noSuper x && mX P S o (.e x)
    | _ => false)
  | .blt f as, md => (match md with
    | .e (.Call (.Name g _) (e :: es) [] _) => decide (f = g) && decide (f ∈ bltCalls) && glB S f && (e :: es).all noStar && mXs P S as (e :: es)
    | _ => false)
  | .isi e ts, md => (match md with
    | .e (.Call (.Name g _) [x, .Name t' _] [] _) => decide (g = "isinstance") && decide (ts = [t']) && glB S g && glB S t' && isiOk P t' && noStar x && mX P S e (.e x)
    | .e (.Call (.Name g _) [x, .Tuple es _ _] [] _) => decide (g = "isinstance") && glB S g && noStar x && !ts.isEmpty && (ts.zip es).all (fun p => match p.2 with
      | .Name t _ => p.1 == t
      | _ => false) && decide (ts.length = es.length) && ts.all (glB S) && ts.all (isiOk P) && decide (ts.length ≤ 100) && mX P S e (.e x)
    | _ => false)
  | .lst as, md => (match md with
    | .e (.List es _) => mXs P S as es
    | _ => false)
  | .tup as, md => (match md with
    | .e (.Tuple es _ _) => mXs P S as es
    | _ => false)
  | .idx a i, md => (match md with
    | .e (.Subscript x y _) => noSlice y && mX P S a (.e x) && mX P S i (.e y)
    | _ => false)
  | .sl a lo hi, md => (match md with
    | .e (.Subscript x (.Slice l u none _) _) => mX P S a (.e x) && mX P S lo (.p l) && mX P S hi (.p u)
    | _ => false)
  | .bget x i, md => (match md with
    | .e (.Subscript (.Name n _) (.Constant (.int j) _ _) _) => visB S x n && decide (j = ((i : Nat) : Int))
    | _ => false)
  | .bcell x e, md => (match md with
    | .e (.Subscript (.Subscript (.Name n _) (.Constant (.int j) _ _) _) y _) => visB S x n && decide (j = 0) && noSlice y && mX P S e (.e y)
    | _ => false)
  | .blen x, md => (match md with
    | .e (.Call (.Name g _) [.Subscript (.Name n _) (.Constant (.int j) _ _) _] [] _) => decide (g = "len") && glB S g && visB S x n && decide (j = 0)
    | _ => false)
  | .nopart, md => (match md with
    | .p none => true
    | _ => false)
  | .part a, md => (match md with
    | .p (some x) => mX P S a (.e x)
    | _ => false)
  | .lc tg it elt, md => (match md with
    | .e (.ListComp x [⟨t, y, [], z⟩] scope _) => decide (z = 0) && mX P S it (.i t y) && mT (S.blk scope) tg t && decide ((tgNames t).length = tg.ix.length) && blkC S.N S.sc scope ((tgNames t).zip tg.ix) && noFold y && mX P (S.blk scope) elt (.e x)
    | _ => false)
  | .lcif tg it c elt, md => (match md with
    | .e (.ListComp x [⟨t, y, [q], z⟩] scope _) => decide (z = 0) && mX P S it (.i t y) && mT (S.blk scope) tg t && decide ((tgNames t).length = tg.ix.length) && blkC S.N S.sc scope ((tgNames t).zip tg.ix) && noFold y && mX P (S.blk scope) c (.e q) && mX P (S.blk scope) elt (.e x)
    | _ => false)
  | .lc2 tg it tg2 it2 elt, md => (match md with
    | .e (.ListComp x [⟨t, y, [], z⟩, ⟨t2, y2, [], z2⟩] scope _) => decide (z = 0) && decide (z2 = 0) && mX P S it (.i t y) && mT (S.blk scope) tg t && mT (S.blk scope) tg2 t2 && decide ((tgNames t).length = tg.ix.length) && decide ((tgNames t2).length = tg2.ix.length) &&
        blkC S.N S.sc scope ((tgNames t ++ tgNames t2).zip (tg.ix ++ tg2.ix)) && noFold y && noFold y2 && mX P (S.blk scope) it2 (.i t2 y2) && mX P (S.blk scope) elt (.e x)
    | _ => false)
  | .seq a, md => (match md with
    | .i _ x => mX P S a (.e x)
    | _ => false)
  | .range1 a, md => (match md with
    | .i _ (.Call (.Name g _) [x] [] _) => decide (g = "range") && glB S g && noStar x && mX P S a (.e x)
    | _ => false)
  | .range2 a b, md => (match md with
    | .i _ (.Call (.Name g _) [x, y] [] _) => decide (g = "range") && glB S g && noStar x && noStar y && mX P S a (.e x) && mX P S b (.e y)
    | _ => false)
  | .zip a b, md => (match md with
    | .i (.Tuple _ _ _) (.Call (.Name g _) [x, y] [] _) => decide (g = "zip") && glB S g && noStar x && noStar y && mX P S a (.e x) && mX P S b (.e y)
    | _ => false)
  | .enum a, md => (match md with
    | .i (.Tuple _ _ _) (.Call (.Name g _) [x] [] _) => decide (g = "enumerate") && glB S g && noStar x && mX P S a (.e x)
    | _ => false)
def mXs (P : Pg) (S : Sc) : IEs → List Expr → Bool
  | .nil, es => es.isEmpty
  | .cons i is, es => (match es with
    | e :: r => noStar e && mX P S i (.e e) && mXs P S is r
    | [] => false)
end

/-! ### contexts -/
structure InCx (S : Sc) (X : Cx) : Prop where
  N : X.N = S.N
  sc : X.env.scope = S.sc
  calm : X.calm = true
  nd : S.N.Nodup
  wr : ∀ x, S.wr x = true → Loc X.env.scope x ∧ (X.fn x = true ∨ X.env.scope.names.lookup x = some .local)
section
variable {tx : Tx} {X : Cx} {k : Nat} {P : Pg} {cl : Str → List D → M D} {S : Sc}
theorem FnA.blk {sp : Sp} {a : Addr} {par : List Str} (F : FnA tx X k sp a par) {s : Shared} {H : Hp} {scope : Scope} {ce : PySem.Env} {fp : List Addr} : FnA tx (X.blk s H scope ce fp) k sp a par := ⟨F.ok⟩
theorem Fac.blk (F : Fac tx X P k cl) {s : Shared} {H : Hp} {scope : Scope} {ce : PySem.Env} {fp : List Addr} : Fac tx (X.blk s H scope ce fp) P k cl where
  nb := F.nb
  con := F.con
  exs := fun c x h => { (F.exs c x h) with }
  hK := F.hK
  room := F.room
  fn := fun f hf => let ⟨a, h1, h2, h3⟩ := F.fn f hf; ⟨a, h1, h2, h3.blk⟩
  new := fun c hc => let ⟨h1, f, h2, h3⟩ := F.new c hc; ⟨h1, f, h2, h3.blk⟩
  cls := fun c m q h => by
    obtain ⟨h1, h2⟩ := F.cls c m q h
    refine ⟨h1, ?_⟩
    cases q with
    | meth key => obtain ⟨a, h3, h4⟩ := h2; exact ⟨a, h3, h4.blk⟩
    | prop key => obtain ⟨p, g, h3, h4⟩ := h2; exact ⟨p, g, h3, h4.blk⟩
    | stat key => obtain ⟨mc, p, a, rest, h3, h4, h5, h6, h7, h8, h9, h10⟩ := h2; exact ⟨mc, p, a, rest, h3, h4, h5, h6, h7, h8, h9, h10.blk⟩
    | fld => exact h2
  isc := F.isc
  mro := F.mro
  ne := F.ne
theorem InCx.blk (C : InCx S X) {s : Shared} {H : Hp} {scope : Scope} {cl' : List (Str × Addr)} {Ca : Addr} {fp : List Addr} : InCx (S.blk scope) (X.blk s H scope (compEnvC scope cl' Ca X.env) fp) := by
  have hsc : (compEnvC scope cl' Ca X.env).scope = relS scope X.env.scope := rfl
  refine ⟨C.N, by show (compEnvC scope cl' Ca X.env).scope = _; rw [hsc, C.sc]; rfl, C.calm, C.nd, fun x hx => ?_⟩
  have hx : ((scope.names.lookup x == some .local) || (scope.names.lookup x == some .cell)) = true := hx
  rcases Bool.or_eq_true_iff.mp hx with h | h
  · have h : scope.names.lookup x = some .local := by simpa using h
    have q : (relS scope X.env.scope).names.lookup x = some .local := lookup_relS_keep (by decide) h
    exact ⟨.inl q, .inr q⟩
  · have h1 : scope.names.lookup x = some .cell := by simpa using h
    have q : (relS scope X.env.scope).names.lookup x = some .cell := lookup_relS_keep (by decide) h1
    exact ⟨.inr q, .inl h⟩
theorem InCx.gl (C : InCx S X) {x : Str} (h : glB S x = true) : Gl X x ∧ (x == ("__debug__" : Str)) = false := by
  unfold glB at h
  rw [Bool.and_eq_true, Bool.not_eq_true'] at h
  refine ⟨?_, h.2⟩
  show X.env.scope.names.lookup x = _
  rw [C.sc]
  exact of_decide_eq_true h.1
theorem s_varC (C : InCx S X) {i : Nat} {x : Str} {pos : Pos} (h : visB S i x = true) : PE X (.Name x pos) (tEv tx fun env => opt ((env[i]?).join.map D.bw)) := by
  unfold visB at h
  simp only [Bool.and_eq_true, Bool.not_eq_true', decide_eq_true_eq] at h
  obtain ⟨⟨⟨h1, h2⟩, h3⟩, h4⟩ := h
  refine s_var (by rw [C.N]; exact h1) ?_ h3 h4
  unfold Vis
  rw [C.sc]
  split at h2
  · exact .inl (by assumption)
  · exact .inr (.inl (by assumption))
  · exact .inr (.inr (by assumption))
  · cases h2
theorem vis_tVar (C : InCx S X) {i : Nat} {x : Str} {pos : Pos} (h : visB S i x = true) : PE X (.Name x pos) (tVar i) := by
  unfold visB at h
  simp only [Bool.and_eq_true, Bool.not_eq_true', decide_eq_true_eq] at h
  obtain ⟨⟨⟨h1, h2⟩, h3⟩, h4⟩ := h
  refine pe_var (by rw [C.N]; exact h1) ?_ h3 h4
  unfold Vis
  rw [C.sc]
  split at h2
  · exact .inl (by assumption)
  · exact .inr (.inl (by assumption))
  · exact .inr (.inr (by assumption))
  · cases h2
theorem noFold_ok {e : Expr} {env : PySem.Env} {x : Value} (h : noFold e = true) : foldedSetIterable e env x = pure x := by
  cases e <;> first | rfl | cases h
theorem mTs_ok (C : InCx S X) : ∀ {is : List Nat} {es : List Expr}, mTs S is es = true → PGs X es (gsOf is) ∧ (assignEach es X.env).length = is.length ∧ (assignEach es X.env).findIdx? (·.1) = none
  | [], [], _ => ⟨pgs_nil, rfl, rfl⟩
  | [], _ :: _, h => by cases h
  | _ :: _, [], h => by cases h
  | i :: is, e :: es, h => by
    cases e with
    | Name x p =>
      unfold mTs at h
      simp only [Bool.and_eq_true, decide_eq_true_eq] at h
      obtain ⟨⟨h1, h2⟩, h3⟩ := h
      obtain ⟨w1, w2⟩ := C.wr x h2
      obtain ⟨q1, q2, q3⟩ := mTs_ok C h3
      refine ⟨pgs_cons (pg_name (by rw [C.N]; exact C.nd) (by rw [C.N]; exact h1) w1 w2) q1 rfl, ?_, ?_⟩
      · show (assignEach es X.env).length + 1 = is.length + 1
        rw [q2]
      · show ((false, _) :: assignEach es X.env).findIdx? (·.1) = none
        rw [List.findIdx?_cons, q3]
        rfl
    | _ => cases h
theorem mT_ok (C : InCx S X) {tg : ITg} {e : Expr} (h : mT S tg e = true) : PG X e (gOf X.K tg) := by
  cases tg with
  | name i =>
    cases e with
    | Name x p =>
      unfold mT at h
      simp only [Bool.and_eq_true, decide_eq_true_eq] at h
      obtain ⟨w1, w2⟩ := C.wr x h.2
      exact pg_name (by rw [C.N]; exact C.nd) (by rw [C.N]; exact h.1) w1 w2
    | _ => cases h
  | tup is =>
    cases e with
    | Tuple es kk p =>
      obtain ⟨q1, q2, q3⟩ := mTs_ok C h
      exact pg_tup C.calm q1 q2 q3
    | _ => cases h
theorem map_snd_zip {α β : Type} {l : List α} {m : List β} (h : l.length = m.length) : (l.zip m).map (·.2) = m := by
  induction l generalizing m with
  | nil => cases m with
    | nil => rfl
    | cons _ _ => simp at h
  | cons a l ih => cases m with
    | nil => simp at h
    | cons b m => rw [List.zip_cons_cons, List.map_cons, ih (by simpa using h)]
def isBop : Expr → Bool
  | .BoolOp _ _ _ => true
  | _ => false
def plainT : Expr → Bool
  | .BoolOp _ _ _ => false
  | .UnaryOp .Not _ _ => false
  | .IfExp _ _ _ _ => false
  | .Compare _ _ _ _ => false
  | _ => true
theorem plainT_ok {e : Expr} (h : plainT e = true) : ∀ {env : PySem.Env} (whole : Sem Value), isTrue e env whole = (do let v ← whole; standAt e.pos; holding [v] (truthy v)) := by
  intro env whole
  cases e with
  | UnaryOp op x p => cases op <;> first | rfl | cases h
  | _ => first | rfl | cases h
/-- what is claimed -/
def Clm (tx : Tx) (X : Cx) (m : Sm) : Md → Prop
  | .e x => PE X x (tEv tx m.v) ∧ PT X x (tEt tx m.t) ∧ (isBop x = true → PW X x (tEt tx m.t))
  | .i tg x => PI X tg x (tEi tx m.i)
  | .p o => PO X o (tEp tx m.p)
theorem clm_of (Fc : Fac tx X P k cl) {x : Expr} {v : Env → M D} (h : PE X x (tEv tx v)) (hp : plainT x = true) : Clm tx X (.of P cl v) (.e x) :=
  ⟨h, s_test Fc h (plainT_ok hp), fun z => by cases x <;> first | (cases hp; done) | (cases z; done)⟩
theorem star1 {e : Expr} (h : noStar e = true) {env : PySem.Env} : starEach [e] env = [(false, eval e env)] := star_of h
theorem star2 {e f : Expr} (h : noStar e = true) (h2 : noStar f = true) {env : PySem.Env} : starEach [e, f] env = [(false, eval e env), (false, eval f env)] := by rw [star_of h, star_of h2]; rfl
end
end TI

set_option Elab.async false
set_option linter.all false
set_option maxRecDepth 100000
/-! every checked expression does what its form says -/
namespace TI
open PySem PySem.Spec PyProof.Rows L2

section
variable {tx : Tx} {k : Nat} {P : Pg} {cl : Str → List D → M D}
theorem and2 {a b : Bool} (h : (a && b) = true) : a = true ∧ b = true := Bool.and_eq_true_iff.mp h
theorem dec {p : Prop} [Decidable p] (h : decide p = true) : p := of_decide_eq_true h
/-- a BoolOp of one more -/
theorem bop_tail {X : Cx} {op : BoolOp} {y : Expr} {r : List Expr} {pos : Pos} {m : Sm} (h : Clm tx X m (.e (if r.isEmpty then y else .BoolOp op (y :: r) pos))) :
    PE X (.BoolOp op (y :: r) pos) (tEv tx m.v) ∧ PW X (.BoolOp op (y :: r) pos) (tEt tx m.t) := by
  cases r with
  | nil =>
    obtain ⟨h1, h2, h3⟩ := h
    refine ⟨pe_one h1, ?_⟩
    cases op with
    | And => exact pw_and1 h2
    | Or => exact pw_or1 h2
  | cons z r =>
    obtain ⟨h1, h2, h3⟩ := h
    exact ⟨h1, h3 rfl⟩
theorem clm_blt {X : Cx} (Fc : Fac tx X P k cl) {S : Sc} (C : InCx S X) {f : Str} {as : IEs} {e : Expr} {es : List Expr} {p pos : Pos} (hf : f ∈ bltCalls) (hg : Gl X f) (hs : (e :: es).all noStar = true) (ha : PA X (e :: es) (tEa tx (evs P cl as))) :
    PE X (.Call (.Name f p) (e :: es) [] pos) (tEv tx fun env => bnd (evs P cl as env) fun ds => bltM P cl f ds) := by
  rw [List.all_cons, Bool.and_eq_true] at hs
  have hs1 := star_of (es := es) (env := X.env) hs.1
  have hs2 := stars_any (env := X.env) (pos := pos) hs.2
  have opt_eq : ∀ {g : Str}, g ≠ "bool" → (fun env => bnd (evs P cl as env) fun ds => bltM P cl g ds) = fun env => bnd (evs P cl as env) fun ds => opt (bltD g ds) := fun {g} hn => by
    funext env
    congr 1
    funext ds
    unfold bltM
    rw [if_neg hn]
  simp only [bltCalls, List.mem_cons, List.not_mem_nil, or_false] at hf
  rcases hf with rfl | rfl | rfl | rfl | rfl | rfl | rfl | rfl | rfl
  · rw [opt_eq (by decide)]
    exact s_bltB (blt_len Fc.hK) hg (Fc.nb _ (by decide)) boot_len ha (by decide) (by decide) hs1 hs2
  · rw [opt_eq (by decide)]
    exact s_bltT blt_int hg (Fc.nb _ (by decide)) boot_int ha (by decide) (by decide) hs1 hs2
  · rw [opt_eq (by decide)]
    exact s_bltB blt_abs hg (Fc.nb _ (by decide)) boot_abs ha (by decide) (by decide) hs1 hs2
  · rw [opt_eq (by decide)]
    exact s_bltT (blt_list Fc.hK) hg (Fc.nb _ (by decide)) boot_list ha (by decide) (by decide) hs1 hs2
  · rw [opt_eq (by decide)]
    exact s_bltT (blt_tuple Fc.hK) hg (Fc.nb _ (by decide)) boot_tuple ha (by decide) (by decide) hs1 hs2
  · rw [opt_eq (by decide)]
    exact s_bltB (blt_sum C.calm) hg (Fc.nb _ (by decide)) boot_sum ha (by decide) (by decide) hs1 hs2
  · rw [opt_eq (by decide)]
    exact s_bltB (blt_all C.calm) hg (Fc.nb _ (by decide)) boot_all ha (by decide) (by decide) hs1 hs2
  · rw [opt_eq (by decide)]
    exact s_bltB (blt_any C.calm) hg (Fc.nb _ (by decide)) boot_any ha (by decide) (by decide) hs1 hs2
  · exact PE.imp (pe_callTy (blt_bool Fc) hg (Fc.nb _ (by decide)) boot_bool ha (by decide) (by decide) hs1 hs2) fun σ H Q h => rdA h
theorem pts_yes {X : Cx} : PTs X [] (tEt tx fun _ => ret true) := ⟨fun pins s σ H Q I h => pts_nil.run pins s σ H Q I (by
  obtain ⟨P, O, env, b, d, b', p, e, q⟩ := h
  have e1 := ret_some e
  injection e1 with e2 e3
  subst e2; subst e3
  exact q H (Held.nil p))⟩
end
end TI

set_option Elab.async false
set_option linter.all false
set_option maxRecDepth 100000
set_option maxHeartbeats 4000000
/-! every checked expression does what its form says -/
namespace TI
open PySem PySem.Spec PyProof.Rows L2

section
variable {tx : Tx} {k : Nat} {P : Pg} {cl : Str → List D → M D}
mutual
theorem sX (hn : ∀ c, P.at c "" = none) : ∀ (ie : IE) (S : Sc) (md : Md), mX P S ie md = true → ∀ X, InCx S X → Fac tx X P k cl → Clm tx X (evA P cl ie) md
  | .var i, S, md, h, X, C, Fc => by
    unfold mX at h
    split at h
    · exact clm_of Fc (s_varC C h) rfl
    · cases h
  | .int i, S, md, h, X, C, Fc => by
    unfold mX at h
    split at h
    · cases dec h
      exact clm_of Fc (s_const pe_int (repInt _)) rfl
    · cases h
  | .str s, S, md, h, X, C, Fc => by
    unfold mX at h
    split at h
    · cases dec h
      exact clm_of Fc (s_const pe_str (repStr _)) rfl
    · cases h
  | .bl b, S, md, h, X, C, Fc => by
    unfold mX at h
    split at h
    · cases dec h
      exact clm_of Fc (s_const pe_bl (repBl _)) rfl
    · cases h
  | .non, S, md, h, X, C, Fc => by
    unfold mX at h
    split at h
    · exact clm_of Fc (s_const pe_non repNon) rfl
    · cases h
  | .glo x, S, md, h, X, C, Fc => by
    unfold mX at h
    split at h
    · obtain ⟨h1, h2⟩ := and2 h
      cases dec h1
      obtain ⟨g1, g2⟩ := C.gl h2
      exact clm_of Fc (s_con Fc g1 g2) rfl
    · cases h
  | .bin op a b, S, md, h, X, C, Fc => by
    unfold mX at h
    split at h
    · obtain ⟨h1, h3⟩ := and2 h
      obtain ⟨h1, h2⟩ := and2 h1
      cases dec h1
      exact clm_of Fc (s_bin Fc hn (sX hn a S _ h2 X C Fc).1 (sX hn b S _ h3 X C Fc).1) rfl
    · cases h
  | .neg a, S, md, h, X, C, Fc => by
    unfold mX at h
    split at h
    · exact clm_of Fc (s_neg (sX hn a S _ h X C Fc).1) rfl
    · cases h
  | .not a, S, md, h, X, C, Fc => by
    unfold mX at h
    split at h
    · have q := sX hn a S _ h X C Fc
      exact ⟨s_not Fc q.1, s_notT q.2.1, fun z => by cases z⟩
    · cases h
  | .bop op a b, S, md, h, X, C, Fc => by
    unfold mX at h
    split at h
    · obtain ⟨h1, h3⟩ := and2 h
      obtain ⟨h1, h2⟩ := and2 h1
      cases dec h1
      have q1 := sX hn a S _ h2 X C Fc
      have q2 := bop_tail (sX hn b S _ h3 X C Fc)
      cases op with
      | And =>
        have q := s_andT q1.2.1 q2.2
        exact ⟨s_and q1.1 q2.1, q.pt, fun _ => q⟩
      | Or =>
        have q := s_orT q1.2.1 q2.2
        exact ⟨s_or q1.1 q2.1, q.pt, fun _ => q⟩
    · cases h
  | .ife c a b, S, md, h, X, C, Fc => by
    unfold mX at h
    split at h
    · obtain ⟨h1, h3⟩ := and2 h
      obtain ⟨h1, h2⟩ := and2 h1
      have q1 := sX hn c S _ h1 X C Fc
      have q2 := sX hn a S _ h2 X C Fc
      have q3 := sX hn b S _ h3 X C Fc
      exact ⟨s_ife q1.2.1 q2.1 q3.1, s_ifeT q1.2.1 q2.2.1 q3.2.1, fun z => by cases z⟩
    · cases h
  | .cmp op a b, S, md, h, X, C, Fc => by
    unfold mX at h
    split at h
    · obtain ⟨h1, h5⟩ := and2 h
      obtain ⟨h1, h4⟩ := and2 h1
      obtain ⟨h1, h3⟩ := and2 h1
      obtain ⟨h1, h2⟩ := and2 h1
      cases dec h1
      have q1 := sX hn a S _ h4 X C Fc
      have q2 := sX hn b S _ h5 X C Fc
      exact ⟨s_cmp Fc (dec h2) (dec h3) q1.1 q2.1, s_cmpT Fc (dec h2) (dec h3) q1.1 q2.1, fun z => by cases z⟩
    · cases h
  | .cmp2 op op2 a b c, S, md, h, X, C, Fc => by
    unfold mX at h
    split at h
    · obtain ⟨h1, h7⟩ := and2 h
      obtain ⟨h1, h6⟩ := and2 h1
      obtain ⟨h1, h5⟩ := and2 h1
      obtain ⟨h1, h4⟩ := and2 h1
      obtain ⟨h1, h3⟩ := and2 h1
      obtain ⟨h1, h2⟩ := and2 h1
      cases dec h1
      cases dec h2
      have q1 := sX hn a S _ h5 X C Fc
      have q2 := sX hn b S _ h6 X C Fc
      have q3 := sX hn c S _ h7 X C Fc
      exact ⟨s_cmp2 (dec h3) (dec h4) q1.1 q2.1 q3.1, s_cmp2T (dec h3) (dec h4) q1.1 q2.1 q3.1, fun z => by cases z⟩
    · cases h
  | .exc c as, S, md, h, X, C, Fc => by
    unfold mX at h
    split at h
    · rename_i g _ es pos
      obtain ⟨h1, h5⟩ := and2 h
      obtain ⟨h1, h4⟩ := and2 h1
      obtain ⟨h1, h3⟩ := and2 h1
      obtain ⟨h1, h2⟩ := and2 h1
      cases dec h1
      obtain ⟨g1, g2⟩ := C.gl h2
      have q := sXs hn as S es h5 X C Fc
      obtain ⟨y, hy⟩ := Option.isSome_iff_exists.mp h3
      refine clm_of Fc ?_ rfl
      cases es with
      | nil =>
        cases as with
        | cons _ _ => unfold mXs at h5; cases h5
        | nil => exact s_err0 Fc hy g1 g2
      | cons e es => exact s_err Fc hy g1 h4 g2 q
    · cases h
  | .exck c z a, S, md, h, X, C, Fc => by
    unfold mX at h
    split at h
    · rename_i g _ z' e _ pos
      obtain ⟨h1, h5⟩ := and2 h
      obtain ⟨h1, h4⟩ := and2 h1
      obtain ⟨h1, h3⟩ := and2 h1
      obtain ⟨h1, h2⟩ := and2 h1
      cases dec h1
      cases dec h2
      obtain ⟨g1, g2⟩ := C.gl h3
      have q := sX hn a S _ h5 X C Fc
      obtain ⟨y, hy⟩ := Option.isSome_iff_exists.mp h4
      exact clm_of Fc (s_errK Fc hy g1 g2 q.1) rfl
    · cases h
  | .call f as, S, md, h, X, C, Fc => by
    unfold mX at h
    split at h
    · rename_i g _ es pos
      obtain ⟨h1, h5⟩ := and2 h
      obtain ⟨h1, h4⟩ := and2 h1
      obtain ⟨h1, h3⟩ := and2 h1
      obtain ⟨h1, h2⟩ := and2 h1
      cases dec h1
      obtain ⟨g1, g2⟩ := C.gl h2
      have q := sXs hn as S es h5 X C Fc
      refine clm_of Fc ?_ rfl
      cases es with
      | nil =>
        cases as with
        | cons _ _ => unfold mXs at h5; cases h5
        | nil =>
          rcases Bool.or_eq_true_iff.mp h3 with h3 | h3
          · obtain ⟨a, m1, m2, m3⟩ := Fc.fn _ (dec h3)
            exact s_call0 (Fc.room.mono (by omega)) m3 g1 m1 m2 g2
          · obtain ⟨m1, f, m2, m3⟩ := Fc.new _ (dec h3)
            exact s_make0 (Fc.room.mono (by omega)) m2 m3 g1 m1 g2
      | cons e es =>
        rcases Bool.or_eq_true_iff.mp h3 with h3 | h3
        · obtain ⟨a, m1, m2, m3⟩ := Fc.fn _ (dec h3)
          exact s_call (Fc.room.mono (by omega)) m3 g1 m1 m2 h4 g2 q
        · obtain ⟨m1, f, m2, m3⟩ := Fc.new _ (dec h3)
          exact s_make (Fc.room.mono (by omega)) m2 m3 g1 m1 h4 g2 q
    · cases h
  | .scall c m as, S, md, h, X, C, Fc => by
    unfold mX at h
    split at h
    · rename_i d _ m' apos e es pos
      obtain ⟨h1, h8⟩ := and2 h
      obtain ⟨h1, h7⟩ := and2 h1
      obtain ⟨h1, h6⟩ := and2 h1
      obtain ⟨h1, h5⟩ := and2 h1
      obtain ⟨h1, h4⟩ := and2 h1
      obtain ⟨h1, h3⟩ := and2 h1
      obtain ⟨h1, h2⟩ := and2 h1
      cases dec h1
      cases dec h2
      obtain ⟨g1, g2⟩ := C.gl h3
      have q := sXs hn as S _ h8 X C Fc
      refine clm_of Fc ?_ rfl
      unfold statB at h4
      split at h4
      · rename_i key hat
        try rw [hat]
        exact s_scall Fc q g1 g2 rfl h5 h6 (dec h7) hat
      · cases h4
    · cases h
  | .meth o m as, S, md, h, X, C, Fc => by
    unfold mX at h
    split at h
    · rename_i x m' apos es pos
      obtain ⟨h1, h7⟩ := and2 h
      obtain ⟨h1, h6⟩ := and2 h1
      obtain ⟨h1, h5⟩ := and2 h1
      obtain ⟨h1, h4⟩ := and2 h1
      obtain ⟨h1, h3⟩ := and2 h1
      obtain ⟨h1, h2⟩ := and2 h1
      cases dec h1
      have q1 := sX hn o S _ h6 X C Fc
      have q := sXs hn as S _ h7 X C Fc
      refine clm_of Fc ?_ rfl
      cases es with
      | nil =>
        cases as with
        | cons _ _ => unfold mXs at h7; cases h7
        | nil => exact s_meth0 Fc q1.1 h2 h3
      | cons e es => exact s_meth Fc q1.1 q h2 h3 h4 (dec h5)
    · cases h
  | .methk o m z a, S, md, h, X, C, Fc => by
    unfold mX at h
    split at h
    · obtain ⟨h1, h6⟩ := and2 h
      obtain ⟨h1, h5⟩ := and2 h1
      obtain ⟨h1, h4⟩ := and2 h1
      obtain ⟨h1, h3⟩ := and2 h1
      obtain ⟨h1, h2⟩ := and2 h1
      cases dec h1
      cases dec h2
      exact clm_of Fc (s_methk Fc (sX hn o S _ h5 X C Fc).1 (sX hn a S _ h6 X C Fc).1 h3 h4) rfl
    · cases h
  | .attr o f, S, md, h, X, C, Fc => by
    unfold mX at h
    split at h
    · obtain ⟨h1, h3⟩ := and2 h
      obtain ⟨h1, h2⟩ := and2 h1
      cases dec h1
      exact clm_of Fc (s_attr Fc (sX hn o S _ h3 X C Fc).1 h2) rfl
    · cases h
  | .blt f as, S, md, h, X, C, Fc => by
    unfold mX at h
    split at h
    · obtain ⟨h1, h5⟩ := and2 h
      obtain ⟨h1, h4⟩ := and2 h1
      obtain ⟨h1, h3⟩ := and2 h1
      obtain ⟨h1, h2⟩ := and2 h1
      cases dec h1
      exact clm_of Fc (clm_blt Fc C (dec h2) (C.gl h3).1 h4 (sXs hn as S _ h5 X C Fc)) rfl
    · cases h
  | .isi e ts, S, md, h, X, C, Fc => by
    unfold mX at h
    split at h
    · obtain ⟨h1, h7⟩ := and2 h
      obtain ⟨h1, h6⟩ := and2 h1
      obtain ⟨h1, h5⟩ := and2 h1
      obtain ⟨h1, h4⟩ := and2 h1
      obtain ⟨h1, h3⟩ := and2 h1
      obtain ⟨h1, h2⟩ := and2 h1
      cases dec h1
      cases dec h2
      exact clm_of Fc (s_isi1 Fc (sX hn e S _ h7 X C Fc).1 h6 (C.gl h3).1 (C.gl h4).1 h5) rfl
    · obtain ⟨h1, h10⟩ := and2 h
      obtain ⟨h1, h9⟩ := and2 h1
      obtain ⟨h1, h8⟩ := and2 h1
      obtain ⟨h1, h7⟩ := and2 h1
      obtain ⟨h1, h6⟩ := and2 h1
      obtain ⟨h1, h5⟩ := and2 h1
      obtain ⟨h1, h4⟩ := and2 h1
      obtain ⟨h1, h3⟩ := and2 h1
      obtain ⟨h1, h2⟩ := and2 h1
      cases dec h1
      cases ts with
      | nil => cases h4
      | cons t ts =>
        exact clm_of Fc (s_isiT Fc (sX hn e S _ h10 X C Fc).1 h3 (C.gl h2).1 h5 (dec h6) (fun t' ht => (C.gl (List.all_eq_true.mp h7 t' ht)).1) h8 (dec h9)) rfl
    · cases h
  | .lst as, S, md, h, X, C, Fc => by
    unfold mX at h
    split at h
    · exact clm_of Fc (s_lst (sXs hn as S _ h X C Fc)) rfl
    · cases h
  | .tup as, S, md, h, X, C, Fc => by
    unfold mX at h
    split at h
    · exact clm_of Fc (s_tup (sXs hn as S _ h X C Fc)) rfl
    · cases h
  | .idx a i, S, md, h, X, C, Fc => by
    unfold mX at h
    split at h
    · obtain ⟨h1, h3⟩ := and2 h
      obtain ⟨h1, h2⟩ := and2 h1
      exact clm_of Fc (s_idx Fc.hK (sX hn a S _ h2 X C Fc).1 (sX hn i S _ h3 X C Fc).1 (plain_of h1)) rfl
    · cases h
  | .sl a lo hi, S, md, h, X, C, Fc => by
    unfold mX at h
    split at h
    · obtain ⟨h1, h3⟩ := and2 h
      obtain ⟨h1, h2⟩ := and2 h1
      exact clm_of Fc (s_sl Fc.hK (sX hn a S _ h1 X C Fc).1 (sX hn lo S _ h2 X C Fc) (sX hn hi S _ h3 X C Fc)) rfl
    · cases h
  | .bget x i, S, md, h, X, C, Fc => by
    unfold mX at h
    split at h
    · obtain ⟨h1, h2⟩ := and2 h
      cases dec h2
      exact clm_of Fc (PE.imp (pe_ix ix_list (vis_tVar C h1) pe_int (fun _ _ => rfl)) fun σ H Q z => rd_bget z) rfl
    · cases h
  | .bcell x e, S, md, h, X, C, Fc => by
    unfold mX at h
    split at h
    · obtain ⟨k1, h4⟩ := and2 h
      obtain ⟨k2, h3⟩ := and2 k1
      obtain ⟨k3, h2⟩ := and2 k2
      cases dec h2
      exact clm_of Fc (PE.imp (pe_ix ix_list (pe_ix ix_list (vis_tVar C k3) pe_int (fun _ _ => rfl)) (sX hn e S _ h4 X C Fc).1 (plain_of h3)) fun σ H Q z => rd_bcell z) rfl
    · cases h
  | .blen x, S, md, h, X, C, Fc => by
    unfold mX at h
    split at h
    · obtain ⟨k1, h4⟩ := and2 h
      obtain ⟨k2, h3⟩ := and2 k1
      obtain ⟨h1, h2⟩ := and2 k2
      cases dec h1
      cases dec h4
      exact clm_of Fc (PE.imp (pe_callB call_len (C.gl h2).1 (Fc.nb _ (by decide)) boot_len (pa_cons (pe_ix ix_list (vis_tVar C h3) pe_int (fun _ _ => rfl)) pa_nil rfl) (by decide) (by decide) rfl rfl) fun σ H Q z => rd_blen z) rfl
    · cases h
  | .nopart, S, md, h, X, C, Fc => by
    unfold mX at h
    split at h
    · exact s_nopart
    · cases h
  | .part a, S, md, h, X, C, Fc => by
    unfold mX at h
    split at h
    · exact s_part (sX hn a S _ h X C Fc).1
    · cases h
  | .lc tg it elt, S, md, h, X, C, Fc => by
    unfold mX at h
    split at h
    · rename_i x t y z scope pos
      obtain ⟨h1, h7⟩ := and2 h
      obtain ⟨h1, h6⟩ := and2 h1
      obtain ⟨h1, h5⟩ := and2 h1
      obtain ⟨h1, h4⟩ := and2 h1
      obtain ⟨h1, h3⟩ := and2 h1
      obtain ⟨h1, h2⟩ := and2 h1
      cases dec h1
      refine clm_of Fc ?_ rfl
      have hl := map_snd_zip (dec h4)
      have q := pe_lc (pos := pos) (g := gOf X.K tg) (tt := tEt tx fun _ => ret true) (ifs := []) C.calm (by rw [C.N]; exact C.nd) (sX hn it S _ h2 X C Fc) (by rw [C.N, C.sc]; exact blkOk_by h5)
        (fun s H Ca cl' fp => mT_ok (C.blk (cl' := cl') (Ca := Ca)) h3) (fun s H Ca cl' fp => pts_yes) (fun s H Ca cl' fp => (sX hn elt (S.blk scope) _ h7 _ C.blk Fc.blk).1) (fun x => noFold_ok h6)
      rw [hl] at q
      refine PE.imp q fun σ H Q z => ?_
      have hk := Fc.hK
      have r := lc_read (c := fun _ => ret true) z
      rw [← hk] at r
      exact r
    · cases h
  | .lcif tg it c elt, S, md, h, X, C, Fc => by
    unfold mX at h
    split at h
    · rename_i x t y q z scope pos
      obtain ⟨h1, h8⟩ := and2 h
      obtain ⟨h1, h7⟩ := and2 h1
      obtain ⟨h1, h6⟩ := and2 h1
      obtain ⟨h1, h5⟩ := and2 h1
      obtain ⟨h1, h4⟩ := and2 h1
      obtain ⟨h1, h3⟩ := and2 h1
      obtain ⟨h1, h2⟩ := and2 h1
      cases dec h1
      refine clm_of Fc ?_ rfl
      have hl := map_snd_zip (dec h4)
      have q := pe_lc (pos := pos) (g := gOf X.K tg) C.calm (by rw [C.N]; exact C.nd) (sX hn it S _ h2 X C Fc) (by rw [C.N, C.sc]; exact blkOk_by h5)
        (fun s H Ca cl' fp => mT_ok (C.blk (cl' := cl') (Ca := Ca)) h3) (fun s H Ca cl' fp => pts_one (sX hn c (S.blk scope) _ h7 _ C.blk Fc.blk).2.1) (fun s H Ca cl' fp => (sX hn elt (S.blk scope) _ h8 _ C.blk Fc.blk).1) (fun x => noFold_ok h6)
      rw [hl] at q
      refine PE.imp q fun σ H Q z => ?_
      have hk := Fc.hK
      have r := lc_read z
      rw [← hk] at r
      exact r
    · cases h
  | .lc2 tg it tg2 it2 elt, S, md, h, X, C, Fc => by
    unfold mX at h
    split at h
    · rename_i x t y z t2 y2 z2 scope pos
      obtain ⟨h1, h12⟩ := and2 h
      obtain ⟨h1, h11⟩ := and2 h1
      obtain ⟨h1, h10⟩ := and2 h1
      obtain ⟨h1, h9⟩ := and2 h1
      obtain ⟨h1, h8⟩ := and2 h1
      obtain ⟨h1, h7⟩ := and2 h1
      obtain ⟨h1, h6⟩ := and2 h1
      obtain ⟨h1, h5⟩ := and2 h1
      obtain ⟨h1, h4⟩ := and2 h1
      obtain ⟨h1, h3⟩ := and2 h1
      obtain ⟨h1, h2⟩ := and2 h1
      cases dec h1
      cases dec h2
      refine clm_of Fc ?_ rfl
      have hl := map_snd_zip (l := tgNames t ++ tgNames t2) (m := tg.ix ++ tg2.ix) (by rw [List.length_append, List.length_append, dec h6, dec h7])
      have q := pe_lc2 (pos := pos) (g := gOf X.K tg) (g1 := gOf X.K tg2) (vs1 := tg2.ix) (tt := tEt tx fun _ => ret true) (tt1 := tEt tx fun _ => ret true) (ifs := []) (ifs1 := []) C.calm (by rw [C.N]; exact C.nd) (sX hn it S _ h3 X C Fc) (by rw [C.N, C.sc]; exact blkOk_by h8) (fun i hi => by rw [hl]; exact List.mem_append_right _ hi)
        (fun s H Ca cl' fp => mT_ok (C.blk (cl' := cl') (Ca := Ca)) h4) (fun s H Ca cl' fp => pts_yes) (fun s H Ca cl' fp => sX hn it2 (S.blk scope) _ h11 _ C.blk Fc.blk) (fun s H Ca cl' fp => mT_ok (C.blk (cl' := cl') (Ca := Ca)) h5) (fun s H Ca cl' fp => pts_yes)
        (fun s H Ca cl' fp => (sX hn elt (S.blk scope) _ h12 _ C.blk Fc.blk).1) (fun x => noFold_ok h9) (fun env x => noFold_ok h10)
      rw [hl] at q
      refine PE.imp q fun σ H Q z => ?_
      have hk := Fc.hK
      have r := lc2_read z
      rw [← hk] at r
      exact r
    · cases h
  | .seq a, S, md, h, X, C, Fc => by
    unfold mX at h
    split at h
    · exact i_seq Fc.hK (sX hn a S _ h X C Fc).1
    · cases h
  | .range1 a, S, md, h, X, C, Fc => by
    unfold mX at h
    split at h
    · obtain ⟨h1, h4⟩ := and2 h
      obtain ⟨h1, h3⟩ := and2 h1
      obtain ⟨h1, h2⟩ := and2 h1
      cases dec h1
      exact i_range1 (C.gl h2).1 (Fc.nb _ (by decide)) (s_acons (sX hn a S _ h4 X C Fc).1 s_anil (star_of h3)) (star1 h3)
    · cases h
  | .range2 a b, S, md, h, X, C, Fc => by
    unfold mX at h
    split at h
    · obtain ⟨h1, h6⟩ := and2 h
      obtain ⟨h1, h5⟩ := and2 h1
      obtain ⟨h1, h4⟩ := and2 h1
      obtain ⟨h1, h3⟩ := and2 h1
      obtain ⟨h1, h2⟩ := and2 h1
      cases dec h1
      exact i_range2 (C.gl h2).1 (Fc.nb _ (by decide)) (s_acons (sX hn a S _ h5 X C Fc).1 (s_acons (sX hn b S _ h6 X C Fc).1 s_anil (star_of h4)) (star_of h3)) (star2 h3 h4) (star1 h4)
    · cases h
  | .zip a b, S, md, h, X, C, Fc => by
    unfold mX at h
    split at h
    · obtain ⟨h1, h6⟩ := and2 h
      obtain ⟨h1, h5⟩ := and2 h1
      obtain ⟨h1, h4⟩ := and2 h1
      obtain ⟨h1, h3⟩ := and2 h1
      obtain ⟨h1, h2⟩ := and2 h1
      cases dec h1
      exact i_zip Fc.hK (C.gl h2).1 (Fc.nb _ (by decide)) (s_acons (sX hn a S _ h5 X C Fc).1 (s_acons (sX hn b S _ h6 X C Fc).1 s_anil (star_of h4)) (star_of h3)) (star_of h3) (stars_any (es := [_]) (by rw [List.all_cons, h4]; rfl))
    · cases h
  | .enum a, S, md, h, X, C, Fc => by
    unfold mX at h
    split at h
    · obtain ⟨h1, h4⟩ := and2 h
      obtain ⟨h1, h3⟩ := and2 h1
      obtain ⟨h1, h2⟩ := and2 h1
      cases dec h1
      exact i_enum Fc.hK (C.gl h2).1 (Fc.nb _ (by decide)) (s_acons (sX hn a S _ h4 X C Fc).1 s_anil (star_of h3)) (star1 h3)
    · cases h
theorem sXs (hn : ∀ c, P.at c "" = none) : ∀ (as : IEs) (S : Sc) (es : List Expr), mXs P S as es = true → ∀ X, InCx S X → Fac tx X P k cl → PA X es (tEa tx (evs P cl as))
  | .nil, S, es, h, X, C, Fc => by
    unfold mXs at h
    cases es with
    | nil => exact s_anil
    | cons _ _ => cases h
  | .cons i is, S, es, h, X, C, Fc => by
    unfold mXs at h
    split at h
    · obtain ⟨h1, h3⟩ := and2 h
      obtain ⟨h1, h2⟩ := and2 h1
      exact s_acons (sX hn i S _ h2 X C Fc).1 (sXs hn is S _ h3 X C Fc) (star_of h1)
    · cases h
end
end
end TI

set_option Elab.async false
set_option linter.all false
set_option maxRecDepth 100000
set_option maxHeartbeats 4000000
/-! checked statements -/
namespace TI
open PySem PySem.Spec PyProof.Rows L2

def notComp : Expr → Bool
  | .ListComp _ _ _ _ => false
  | .SetComp _ _ _ _ => false
  | .DictComp _ _ _ _ _ => false
  | _ => true
/-- the store of a comprehension is done by the block -/
def swB (S : Sc) (x : Str) (px : Pos) : Expr → Bool
  | .ListComp _ _ scope vpos => decide (S.sc.kind = .function) && decide (S.sc.names.lookup x = some .local) && (px.line == vpos.line) && !(scope.names.any fun p => p.1 == x && (p.2 == .local || p.2 == .cell))
  | _ => false
/-- some target is kept in a cell: the stores are not swapped -/
def cellB (S : Sc) : Expr → Bool
  | .Name y _ => S.sc.names.lookup y == some .cell
  | _ => false
def cellT (S : Sc) (es : List Expr) : Bool := es.any (cellB S)
def nz (ini : Bool) (i : Nat) : Bool := !ini || decide (i ≠ 0)
def parB (S : Sc) (x y : Str) (px py : Pos) (a b : Expr) : Bool :=
  decide (S.sc.kind = .function) && decide (S.sc.names.lookup x = some .local) && decide (S.sc.names.lookup y = some .local) && (px.line == py.line) && decide (x ≠ y) && noStar a && noStar b &&
    !([a, b].all (foldedForSure 8)) && !([a, b].all (constantsAlone 8))
def par3B (S : Sc) (x y z : Str) (px py pz : Pos) (a b c : Expr) : Bool :=
  decide (S.sc.kind = .function) && decide (S.sc.names.lookup x = some .local) && decide (S.sc.names.lookup y = some .local) && decide (S.sc.names.lookup z = some .local) && (px.line == py.line) && (px.line == pz.line) && decide (x ≠ y) && decide (x ≠ z) && decide (y ≠ z) && noStar a && noStar b && noStar c &&
    !([a, b, c].all (foldedForSure 8)) && !([a, b, c].all (constantsAlone 8))
/-- the stores go from the right, without the tuple -/
def parS (S : Sc) : List Nat → List Expr → List Expr → Bool
  | [i, j], [.Name x px, .Name y py], [a, b] => decide (S.N[i]? = some x) && decide (S.N[j]? = some y) && decide (i ≠ j) && parB S x y px py a b
  | [i, j, l], [.Name x px, .Name y py, .Name z pz], [a, b, c] => decide (S.N[i]? = some x) && decide (S.N[j]? = some y) && decide (S.N[l]? = some z) && decide (i ≠ j) && decide (i ≠ l) && decide (j ≠ l) && par3B S x y z px py pz a b c
  | _, _, _ => false
/-- a tuple is made and unpacked -/
def parN (S : Sc) (is : List Nat) (es vs : List Expr) : Bool := mTs S is es && decide (is.length < 900) && (cellT S es || vs.all (foldedForSure 8) || !(es.length == 2 || es.length == 3))
mutual
def mS (P : Pg) (S : Sc) (ini : Bool) : IS → Stmt → Bool
  | .asg i e, st => (match st with
    | .Assign [.Name x px] v _ => decide (S.N[i]? = some x) && S.wr x && nz ini i && mX P S e (.e v) && (notComp v || swB S x px v)
    | _ => false)
  | .unp is e, st => (match st with
    | .Assign [.Tuple es _ _] v _ => mTs S is es && is.all (nz ini) && notComp v && (!isTup v || cellT S es) && mX P S e (.e v)
    | _ => false)
  | .par is as, st => (match st with
    | .Assign [.Tuple es _ _] (.Tuple vs _ _) _ => mXs P S as vs && is.all (nz ini) && (parS S is es vs || parN S is es vs)
    | _ => false)
  | .fld i f e, st => (match st with
    | .Assign [.Attribute (.Name x _) f' _] v _ => decide (f = f') && visB S i x && mX P S e (.e v)
    | _ => false)
  | .app i e, st => (match st with
    | .Expr (.Call (.Attribute (.Name x _) m apos) [v] [] cpos) _ => decide (m = "append") && visB S i x && noStar v && (apos.endLine == cpos.line) && mX P S e (.e v)
    | _ => false)
  | .bset x i e, st => (match st with
    | .Assign [.Subscript (.Name n _) (.Constant (.int j) _ _) _] v _ => visB S x n && decide (j = ((i : Nat) : Int)) && mX P S e (.e v)
    | _ => false)
  | .expr e, st => (match st with
    | .Expr v _ => notComp v && mX P S e (.e v)
    | _ => false)
  | .ret e, st => (match st with
    | .Return (some v) _ => mX P S e (.e v)
    | _ => false)
  | .retN, st => (match st with
    | .Return none _ => true
    | _ => false)
  | .ifs c a b, st => (match st with
    | .If z as bs _ => mX P S c (.e z) && mSs P S ini a as && mSs P S ini b bs
    | _ => false)
  | .forr tg it body, st => (match st with
    | .For t y bs [] _ => mX P S it (.i t y) && mT S tg t && tg.ix.all (nz ini) && noFold y && mSs P S ini body bs
    | _ => false)
  | .whil c body, st => (match st with
    | .While z bs [] _ => mX P S c (.e z) && mSs P S ini body bs
    | _ => false)
  | .pass, st => (match st with
    | .Pass _ => true
    | .Expr (.Constant (.str _) _ _) _ => true
    | _ => false)
  | .brk, st => (match st with
    | .Break _ => true
    | _ => false)
  | .cont, st => (match st with
    | .Continue _ => true
    | _ => false)
  | .dead, _ => true
def mSs (P : Pg) (S : Sc) (ini : Bool) : ISs → List Stmt → Bool
  | .nil, sts => sts.isEmpty
  | .cons s ss, sts => (match sts with
    | st :: r => mS P S ini s st && mSs P S ini ss r
    | [] => false)
end

section
variable {tx : Tx} {X : Cx} {k : Nat} {P : Pg} {cl : Str → List D → M D} {S : Sc} {ini : Bool}
theorem notComp_sw {v : Expr} {t : Option Expr} {n : Nat} {env : PySem.Env} (h : notComp v = true) : swapsWith v t n env = pure false := by
  cases v <;> first | rfl | cases h
theorem attr_sw {v o : Expr} {f : Str} {p : Pos} {n : Nat} {env : PySem.Env} : swapsWith v (some (.Attribute o f p)) n env = pure false := by
  cases v <;> rfl
theorem sub_sw (v : Expr) {o i : Expr} {p : Pos} {n : Nat} {env : PySem.Env} : swapsWithSole [.Subscript o i p] v n env = pure false := by
  cases v <;> rfl
theorem sub_none (v : Expr) {o i : Expr} {p : Pos} {env : PySem.Env} : swappedStores [.Subscript o i p] v env = pure none := by
  cases v <;> rfl
theorem tup_sw {v : Expr} {es : List Expr} {kk : Nat} {p : Pos} {n : Nat} {env : PySem.Env} : swapsWithSole [.Tuple es kk p] v n env = pure false := by
  cases v <;> rfl
theorem tup_none {v : Expr} {es : List Expr} {kk : Nat} {p : Pos} {env : PySem.Env} (h : (!isTup v) = true) : swappedStores [.Tuple es kk p] v env = pure none := by
  cases v <;> first | rfl | cases h
theorem swap_key {α β : Type} {f : α → Option β} {p : α → Bool} (hp : ∀ a, p a = true → f a = none) : ∀ {l : List α}, l.any p = true → (l.filterMap f).length < l.length
  | a :: l, h => by
    rw [List.any_cons] at h
    rcases Bool.or_eq_true_iff.mp h with h | h
    · rw [List.filterMap_cons, hp a h]
      exact Nat.lt_succ_of_le (List.length_filterMap_le f l)
    · have := swap_key hp h
      rw [List.filterMap_cons]
      split
      · exact Nat.lt_succ_of_lt this
      · exact Nat.succ_lt_succ this
theorem cell_none (C : InCx S X) {v : Expr} {es : List Expr} {kk : Nat} {p : Pos} (h : cellT S es = true) : swappedStores [.Tuple es kk p] v X.env = pure none := by
  cases v with
  | Tuple vs k2 p2 =>
    unfold swappedStores
    dsimp only
    split
    · rfl
    · split
      · rfl
      · rw [if_pos]
        refine Bool.or_eq_true_iff.mpr (.inl ?_)
        rw [bne_iff_ne]
        refine Nat.ne_of_lt (swap_key (p := cellB S) (fun a ha => ?_) h)
        cases a with
        | Name id pos =>
          have e : X.env.kindOf id = some .cell := by
            unfold Env.kindOf
            rw [C.sc]
            exact eq_of_beq ha
          dsimp only
          rw [e]
          rfl
        | _ => cases ha
  | _ => rfl
theorem fold_none {vs es : List Expr} {kk k2 : Nat} {p p2 : Pos} (h : (vs.all (foldedForSure 8) || !(es.length == 2 || es.length == 3)) = true) : swappedStores [.Tuple es kk p] (.Tuple vs k2 p2) X.env = pure none := by
  unfold swappedStores
  dsimp only
  split
  · rfl
  · rename_i h1
    split
    · rfl
    · split
      · rfl
      · rw [if_pos]
        rcases Bool.or_eq_true_iff.mp h with h | h
        · exact h
        · exfalso
          apply h1
          rw [h]
          rfl
theorem nz_ok {i : Nat} (h : nz ini i = true) : ini = true → i ≠ 0 := fun e => by
  unfold nz at h
  subst e
  simpa using h
theorem kind_blk {env : PySem.Env} (h : env.scope.kind = .function) : env.blockKind = .function := by
  unfold Env.blockKind
  rw [h]
  rfl
theorem swB_ok (C : InCx S X) {x : Str} {px : Pos} {elt : Expr} {gs : List Comprehension} {scope : Scope} {vpos : Pos} {n : Nat} (h : swB S x px (.ListComp elt gs scope vpos) = true) :
    X.env.scope.names.lookup x = some .local ∧ swapsWith (.ListComp elt gs scope vpos) (some (.Name x px)) n X.env = pure true := by
  unfold swB at h
  obtain ⟨h1, h4⟩ := and2 h
  obtain ⟨h1, h3⟩ := and2 h1
  obtain ⟨h1, h2⟩ := and2 h1
  have k1 : X.env.scope.kind = .function := by rw [C.sc]; exact dec h1
  have k2 : X.env.scope.names.lookup x = some .local := by rw [C.sc]; exact dec h2
  refine ⟨k2, ?_⟩
  show (pure (X.env.blockKind == .function && X.env.kindOf x == some .local && px.line == vpos.line && !(scope.names.any fun (n, k) => n == x && (k == .local || k == .cell))) : Sem Bool) = pure true
  have e1 : (X.env.blockKind == ScopeKind.function) = true := by rw [kind_blk k1]; rfl
  have e2 : (X.env.kindOf x == some NameKind.local) = true := by
    unfold Env.kindOf
    rw [k2]
    rfl
  rw [e1, e2, h3]
  have e4 : (scope.names.any fun (n, k) => n == x && (k == .local || k == .cell)) = (scope.names.any fun p => p.1 == x && (p.2 == .local || p.2 == .cell)) := rfl
  rw [e4, h4]
  rfl
theorem parB_ok (C : InCx S X) {x y : Str} {px py pt p2 : Pos} {a b : Expr} {kt k2 : Nat} (h : parB S x y px py a b = true) :
    X.env.scope.names.lookup x = some .local ∧ X.env.scope.names.lookup y = some .local ∧ swappedStores [.Tuple [.Name x px, .Name y py] kt pt] (.Tuple [a, b] k2 p2) X.env = pure (some [x, y]) := by
  unfold parB at h
  obtain ⟨h1, h9⟩ := and2 h
  obtain ⟨h1, h8⟩ := and2 h1
  obtain ⟨h1, h7⟩ := and2 h1
  obtain ⟨h1, h6⟩ := and2 h1
  obtain ⟨h1, h5⟩ := and2 h1
  obtain ⟨h1, h4⟩ := and2 h1
  obtain ⟨h1, h3⟩ := and2 h1
  obtain ⟨h1, h2⟩ := and2 h1
  have k1 : X.env.scope.kind = .function := by rw [C.sc]; exact dec h1
  have k2 : X.env.scope.names.lookup x = some .local := by rw [C.sc]; exact dec h2
  have k3 : X.env.scope.names.lookup y = some .local := by rw [C.sc]; exact dec h3
  refine ⟨k2, k3, ?_⟩
  have e1 : (X.env.blockKind != ScopeKind.function) = false := by rw [kind_blk k1]; rfl
  have e2 : (X.env.kindOf x == some NameKind.local) = true := by
    unfold Env.kindOf
    rw [k2]
    rfl
  have e3 : (X.env.kindOf y == some NameKind.local) = true := by
    unfold Env.kindOf
    rw [k3]
    rfl
  have e4 : (py.line == px.line) = true := by
    have : px.line = py.line := by simpa using h4
    rw [this]
    simp
  have e5 : ([a, b].any fun | .Starred .. => true | _ => false) = false := by
    have q : ∀ {z : Expr}, noStar z = true → (match z with | .Starred .. => true | _ => false) = false := fun {z} hz => by
      cases z <;> first | rfl | cases hz
    simp only [List.any_cons, List.any_nil, q h6, q h7, Bool.or_false]
  have e6 : ([x, y].eraseDups.length != [x, y].length) = false := by
    have : (x == y) = false := beq_eq_false_iff_ne.mpr (dec h5)
    have hyx : (y == x) = false := beq_eq_false_iff_ne.mpr (Ne.symm (dec h5))
    simp [List.eraseDups_cons, this, hyx]
  rw [Bool.not_eq_true'] at h8 h9
  have e7 : (([.Name x px, .Name y py] : List Expr).filterMap fun
    | .Name id pos => if X.env.kindOf id == some .local && pos.line == px.line then some id else none
    | _ => none) = [x, y] := by
    have e2' : X.env.kindOf x = some .local := k2
    have e3' : X.env.kindOf y = some .local := k3
    have e4' : py.line = px.line := by simpa using e4
    simp only [List.filterMap_cons, List.filterMap_nil, e2', e3', e4', beq_self_eq_true, Bool.and_self, if_true]
  unfold swappedStores
  simp only []
  show (if (!([Expr.Name x px, Expr.Name y py].length == 2 || [Expr.Name x px, Expr.Name y py].length == 3) || [a, b].length != [Expr.Name x px, Expr.Name y py].length || X.env.blockKind != .function) = true then pure none else _) = _
  rw [e1]
  rw [if_neg (by simp)]
  show (if ([a, b].any fun | .Starred .. => true | _ => false) = true then pure none else _) = _
  rw [e5]
  rw [if_neg (by simp)]
  have key : ∀ names : List Str, names = [x, y] → (do
    if names.length != ([.Name x px, .Name y py] : List Expr).length || names.eraseDups.length != names.length then return none
    if [a, b].all (foldedForSure 8) then return none
    if [a, b].all (constantsAlone 8) then unsupported "assign.tuple-of-constant-expressions:order-of-the-stores"
    return some names : Sem (Option (List Str))) = pure (some [x, y]) := by
    intro names hn
    subst hn
    rw [e6, h8, h9]
    rfl
  exact key _ e7
theorem par3B_ok (C : InCx S X) {x y z : Str} {px py pz pt p2 : Pos} {a b c : Expr} {kt k2 : Nat} (h : par3B S x y z px py pz a b c = true) :
    X.env.scope.names.lookup x = some .local ∧ X.env.scope.names.lookup y = some .local ∧ X.env.scope.names.lookup z = some .local ∧ swappedStores [.Tuple [.Name x px, .Name y py, .Name z pz] kt pt] (.Tuple [a, b, c] k2 p2) X.env = pure (some [x, y, z]) := by
  unfold par3B at h
  simp only [Bool.and_eq_true, decide_eq_true_eq, Bool.not_eq_true', beq_iff_eq] at h
  obtain ⟨⟨⟨⟨⟨⟨⟨⟨⟨⟨⟨⟨⟨h1, h2⟩, h3⟩, h4⟩, h5⟩, h6⟩, h7⟩, h8⟩, h9⟩, h10⟩, h11⟩, h12⟩, h13⟩, h14⟩ := h
  have k1 : X.env.scope.kind = .function := by rw [C.sc]; exact h1
  have k2 : X.env.scope.names.lookup x = some .local := by rw [C.sc]; exact h2
  have k3 : X.env.scope.names.lookup y = some .local := by rw [C.sc]; exact h3
  have k4 : X.env.scope.names.lookup z = some .local := by rw [C.sc]; exact h4
  refine ⟨k2, k3, k4, ?_⟩
  have e1 : (X.env.blockKind != ScopeKind.function) = false := by rw [kind_blk k1]; rfl
  have e5 : ([a, b, c].any fun | .Starred .. => true | _ => false) = false := by
    have q : ∀ {z : Expr}, noStar z = true → (match z with | .Starred .. => true | _ => false) = false := fun {z} hz => by
      cases z <;> first | rfl | cases hz
    simp only [List.any_cons, List.any_nil, q h10, q h11, q h12, Bool.or_false]
  have e6 : ([x, y, z].eraseDups.length != [x, y, z].length) = false := by
    have a1 : (y == x) = false := beq_eq_false_iff_ne.mpr (Ne.symm h7)
    have a2 : (z == x) = false := beq_eq_false_iff_ne.mpr (Ne.symm h8)
    have a3 : (z == y) = false := beq_eq_false_iff_ne.mpr (Ne.symm h9)
    simp [List.eraseDups_cons, a1, a2, a3]
  have e7 : (([.Name x px, .Name y py, .Name z pz] : List Expr).filterMap fun
    | .Name id pos => if X.env.kindOf id == some .local && pos.line == px.line then some id else none
    | _ => none) = [x, y, z] := by
    have e2' : X.env.kindOf x = some .local := k2
    have e3' : X.env.kindOf y = some .local := k3
    have e4' : X.env.kindOf z = some .local := k4
    simp only [List.filterMap_cons, List.filterMap_nil, e2', e3', e4', ← h5, ← h6, beq_self_eq_true, Bool.and_self, if_true]
  unfold swappedStores
  simp only []
  show (if (!([Expr.Name x px, Expr.Name y py, Expr.Name z pz].length == 2 || [Expr.Name x px, Expr.Name y py, Expr.Name z pz].length == 3) || [a, b, c].length != [Expr.Name x px, Expr.Name y py, Expr.Name z pz].length || X.env.blockKind != .function) = true then pure none else _) = _
  rw [e1]
  rw [if_neg (by simp)]
  show (if ([a, b, c].any fun | .Starred .. => true | _ => false) = true then pure none else _) = _
  rw [e5]
  rw [if_neg (by simp)]
  have key : ∀ names : List Str, names = [x, y, z] → (do
    if names.length != ([.Name x px, .Name y py, .Name z pz] : List Expr).length || names.eraseDups.length != names.length then return none
    if [a, b, c].all (foldedForSure 8) then return none
    if [a, b, c].all (constantsAlone 8) then unsupported "assign.tuple-of-constant-expressions:order-of-the-stores"
    return some names : Sem (Option (List Str))) = pure (some [x, y, z]) := by
    intro names hn
    subst hn
    rw [e6, h13, h14]
    rfl
  exact key _ e7
/-- name = a comprehension -/
theorem asg_comp (hn : ∀ c, P.at c "" = none) (C : InCx S X) (Fc : Fac tx X P k cl) {i : Nat} {x : Str} {px pos : Pos} {e : IE} {v : Expr} (hi : S.N[i]? = some x) (hx : mX P S e (.e v) = true) (hs : swB S x px v = true) :
    PS X (.Assign [.Name x px] v pos) (tAsg (tEv tx (evA P cl e).v) (gName i)) := by
  cases v with
  | ListComp elt gs scope vpos =>
    obtain ⟨hl, hw⟩ := swB_ok (n := pos.line) C hs
    have hN : X.N.Nodup := by rw [C.N]; exact C.nd
    have hy : X.N[i]? = some x := by rw [C.N]; exact hi
    cases e with
    | lc tg it el =>
      unfold mX at hx
      split at hx
      · rename_i x' t y z scope' pos' heq
        cases heq
        obtain ⟨h1, h7⟩ := and2 hx
        obtain ⟨h1, h6⟩ := and2 h1
        obtain ⟨h1, h5⟩ := and2 h1
        obtain ⟨h1, h4⟩ := and2 h1
        obtain ⟨h1, h3⟩ := and2 h1
        obtain ⟨h1, h2⟩ := and2 h1
        cases dec h1
        have hl2 := map_snd_zip (dec h4)
        have q := ps_setLc (g := gOf X.K tg) (tt := tEt tx fun _ => ret true) C.calm hN hy hl hw (sX hn it S _ h2 X C Fc) (by rw [C.N, C.sc]; exact blkOk_by h5)
          (fun s H Ca cl' fp => mT_ok (C.blk (cl' := cl') (Ca := Ca)) h3) (fun s H Ca cl' fp => pts_yes) (fun s H Ca cl' fp => (sX hn el (S.blk scope) _ h7 _ C.blk Fc.blk).1) (fun x => noFold_ok h6)
        rw [hl2] at q
        refine PS.imp q fun D σ H z => ?_
        have hk := Fc.hK
        have r := lc_read (c := fun _ => ret true) (show tEv tx _ σ H _ from z)
        rw [← hk] at r
        exact r
      · cases hx
    | lcif tg it c el =>
      unfold mX at hx
      split at hx
      · rename_i x' t y q' z scope' pos' heq
        cases heq
        obtain ⟨h1, h8⟩ := and2 hx
        obtain ⟨h1, h7⟩ := and2 h1
        obtain ⟨h1, h6⟩ := and2 h1
        obtain ⟨h1, h5⟩ := and2 h1
        obtain ⟨h1, h4⟩ := and2 h1
        obtain ⟨h1, h3⟩ := and2 h1
        obtain ⟨h1, h2⟩ := and2 h1
        cases dec h1
        have hl2 := map_snd_zip (dec h4)
        have q := ps_setLc (g := gOf X.K tg) C.calm hN hy hl hw (sX hn it S _ h2 X C Fc) (by rw [C.N, C.sc]; exact blkOk_by h5)
          (fun s H Ca cl' fp => mT_ok (C.blk (cl' := cl') (Ca := Ca)) h3) (fun s H Ca cl' fp => pts_one (sX hn c (S.blk scope) _ h7 _ C.blk Fc.blk).2.1) (fun s H Ca cl' fp => (sX hn el (S.blk scope) _ h8 _ C.blk Fc.blk).1) (fun x => noFold_ok h6)
        rw [hl2] at q
        refine PS.imp q fun D σ H z => ?_
        have hk := Fc.hK
        have r := lc_read (show tEv tx _ σ H _ from z)
        rw [← hk] at r
        exact r
      · cases hx
    | lc2 tg it tg2 it2 el =>
      unfold mX at hx
      split at hx
      · rename_i x' t y z t2 y2 z2 scope' pos' heq
        cases heq
        obtain ⟨h1, h12⟩ := and2 hx
        obtain ⟨h1, h11⟩ := and2 h1
        obtain ⟨h1, h10⟩ := and2 h1
        obtain ⟨h1, h9⟩ := and2 h1
        obtain ⟨h1, h8⟩ := and2 h1
        obtain ⟨h1, h7⟩ := and2 h1
        obtain ⟨h1, h6⟩ := and2 h1
        obtain ⟨h1, h5⟩ := and2 h1
        obtain ⟨h1, h4⟩ := and2 h1
        obtain ⟨h1, h3⟩ := and2 h1
        obtain ⟨h1, h2⟩ := and2 h1
        cases dec h1
        cases dec h2
        have hl2 := map_snd_zip (l := tgNames t ++ tgNames t2) (m := tg.ix ++ tg2.ix) (by rw [List.length_append, List.length_append, dec h6, dec h7])
        have q := ps_setLc2 (g := gOf X.K tg) (g1 := gOf X.K tg2) (vs1 := tg2.ix) (tt := tEt tx fun _ => ret true) (tt1 := tEt tx fun _ => ret true) C.calm hN hy hl hw (sX hn it S _ h3 X C Fc) (by rw [C.N, C.sc]; exact blkOk_by h8) (fun i hi => by rw [hl2]; exact List.mem_append_right _ hi)
          (fun s H Ca cl' fp => mT_ok (C.blk (cl' := cl') (Ca := Ca)) h4) (fun s H Ca cl' fp => pts_yes) (fun s H Ca cl' fp => sX hn it2 (S.blk scope) _ h11 _ C.blk Fc.blk) (fun s H Ca cl' fp => mT_ok (C.blk (cl' := cl') (Ca := Ca)) h5) (fun s H Ca cl' fp => pts_yes)
          (fun s H Ca cl' fp => (sX hn el (S.blk scope) _ h12 _ C.blk Fc.blk).1) (fun x => noFold_ok h9) (fun env x => noFold_ok h10)
        rw [hl2] at q
        refine PS.imp q fun D σ H z => ?_
        have hk := Fc.hK
        have r := lc2_read (show tEv tx _ σ H _ from z)
        rw [← hk] at r
        exact r
      · cases hx
    | _ => exact absurd hx (by unfold mX; exact fun z => nomatch z)
  | _ => cases hs
end
end TI

set_option Elab.async false
set_option linter.all false
set_option maxRecDepth 100000
set_option maxHeartbeats 4000000
/-! every checked statement does what its form says; defs -/
namespace TI
open PySem PySem.Spec PyProof.Rows L2

section
variable {tx : Tx} {X : Cx} {k : Nat} {P : Pg} {cl : Str → List D → M D} {S : Sc} {ini : Bool}
theorem all_nz {is : List Nat} (h : is.all (nz ini) = true) : ini = true → ∀ i ∈ is, i ≠ 0 := fun e i hi => nz_ok (List.all_eq_true.mp h i hi) e
mutual
theorem sS (hn : ∀ c, P.at c "" = none) (W : Nat) (C : InCx S X) (po : PassesOwn (model X.prog X.w) X.A X.env X.xe) (Fc : Fac tx X P k cl) : ∀ (s : IS) (st : Stmt), mS P S ini s st = true → PS X st (tSs tx ini (exS P cl W s))
  | .asg i e, st, h => by
    unfold mS at h
    split at h
    · rename_i x px v pos
      obtain ⟨h1, h5⟩ := and2 h
      obtain ⟨h1, h4⟩ := and2 h1
      obtain ⟨h1, h3⟩ := and2 h1
      obtain ⟨h1, h2⟩ := and2 h1
      refine PS.imp (t := tAsg (tEv tx (evA P cl e).v) (gName i)) ?_ fun D σ H z => asg_read (nz_ok h3) z
      rcases Bool.or_eq_true_iff.mp h5 with h5 | h5
      · obtain ⟨w1, w2⟩ := C.wr x h2
        exact ps_set (by rw [C.N]; exact C.nd) (by rw [C.N]; exact dec h1) w1 (sX hn e S _ h4 X C Fc).1 (notComp_sw h5) w2
      · exact asg_comp hn C Fc (dec h1) h4 h5
    · cases h
  | .unp is e, st, h => by
    unfold mS at h
    split at h
    · rename_i es kk tp v pos
      obtain ⟨h1, h5⟩ := and2 h
      obtain ⟨h1, h4⟩ := and2 h1
      obtain ⟨h1, h3⟩ := and2 h1
      obtain ⟨h1, h2⟩ := and2 h1
      have q := mT_ok (tg := .tup is) (e := .Tuple es kk tp) C h1
      refine PS.imp (ps_asg (sX hn e S _ h5 X C Fc).1 q tup_sw (by
        rcases Bool.or_eq_true_iff.mp h4 with h4 | h4
        · exact tup_none h4
        · exact cell_none C h4) rfl) fun D σ H z => ?_
      have r := unp_read (all_nz h2) z
      have hk := Fc.hK
      rw [← hk] at r
      exact r
    · cases h
  | .par is as, st, h => by
    unfold mS at h
    split at h
    · rename_i es kt pt vs k2 p2 pos
      obtain ⟨h1, h3⟩ := and2 h
      obtain ⟨h1, h2⟩ := and2 h1
      have hz : ini = true → ∀ i ∈ is, i ≠ 0 := fun e i hi => nz_ok (List.all_eq_true.mp h2 i hi) e
      have pa := sXs hn as S _ h1 X C Fc
      rcases Bool.or_eq_true_iff.mp h3 with h3 | h3
      · unfold parS at h3
        split at h3
        · rename_i i j x px y py a b
          simp only [Bool.and_eq_true, decide_eq_true_eq] at h3
          obtain ⟨⟨⟨g1, g2⟩, g3⟩, g4⟩ := h3
          obtain ⟨k1, k2, k3⟩ := parB_ok C g4
          exact PS.imp (ps_par C.calm (by rw [C.N]; exact C.nd) (by rw [C.N]; exact g1) (by rw [C.N]; exact g2) g3 k1 k2 pa k3 tup_sw) fun D σ H z => par_read (fun e => ⟨hz e _ List.mem_cons_self, hz e _ (List.mem_cons_of_mem _ List.mem_cons_self)⟩) z
        · rename_i i j l x px y py z pz a b c
          simp only [Bool.and_eq_true, decide_eq_true_eq] at h3
          obtain ⟨⟨⟨⟨⟨⟨g1, g2⟩, g3⟩, g4⟩, g5⟩, g6⟩, g7⟩ := h3
          obtain ⟨k1, k2, k3, k4⟩ := par3B_ok C g7
          exact PS.imp (ps_par3 C.calm (by rw [C.N]; exact C.nd) (by rw [C.N]; exact g1) (by rw [C.N]; exact g2) (by rw [C.N]; exact g3) g4 g5 g6 k1 k2 k3 pa k4 tup_sw) fun D σ H z => par3_read (fun e => hz e) z
        · cases h3
      · unfold parN at h3
        obtain ⟨g1, g3⟩ := and2 h3
        obtain ⟨g1, g2⟩ := and2 g1
        have hnone : swappedStores [.Tuple es kt pt] (.Tuple vs k2 p2) X.env = pure none := by
          rw [Bool.or_assoc] at g3
          rcases Bool.or_eq_true_iff.mp g3 with g3 | g3
          · exact cell_none C g3
          · exact fold_none g3
        refine PS.imp (ps_asg (pe_tup pa) (mT_ok (tg := .tup is) (e := .Tuple es kt pt) C g1) tup_sw hnone rfl) fun D σ H z => ?_
        have r := parN_read (dec g2) hz z
        have hk := Fc.hK
        rw [← hk] at r
        exact r
    · cases h
  | .fld i f e, st, h => by
    unfold mS at h
    split at h
    · obtain ⟨h1, h3⟩ := and2 h
      obtain ⟨h1, h2⟩ := and2 h1
      cases dec h1
      exact PS.imp (ps_fld (vis_tVar C h2) (sX hn e S _ h3 X C Fc).1 attr_sw) fun D σ H z => fld_read Fc z
    · cases h
  | .app i e, st, h => by
    unfold mS at h
    split at h
    · obtain ⟨h1, h5⟩ := and2 h
      obtain ⟨h1, h4⟩ := and2 h1
      obtain ⟨h1, h3⟩ := and2 h1
      obtain ⟨h1, h2⟩ := and2 h1
      cases dec h1
      exact PS.imp (ps_expr (pe_bm PySem.F.plainAttrs_list PySem.F.slot_list_append PySem.F.type_list_append (fun pins s σ H x xs v us Q I r rv q => mt_append pins s σ H x xs v us Q I r rv q) (vis_tVar C h2) (pa_cons (sX hn e S _ h5 X C Fc).1 pa_nil (star_of h3)) (attr_base rfl) (by rw [star1 h3]; rfl) h4 (star_of h3) rfl) rfl) fun D σ H z => app_read z
    · cases h
  | .bset x i e, st, h => by
    unfold mS at h
    split at h
    · rename_i n _ j _ _ _ v _
      obtain ⟨k1, h3⟩ := and2 h
      obtain ⟨k2, h2⟩ := and2 k1
      cases dec h2
      exact PS.imp (ps_asg (sX hn e S _ h3 X C Fc).1 (pg_sub (vis_tVar C k2) pe_int set_list) (sub_sw v) (sub_none v) rfl) fun D σ H z => bset_read z
    · cases h
  | .expr e, st, h => by
    unfold mS at h
    split at h
    · obtain ⟨h1, h2⟩ := and2 h
      exact PS.imp (ps_expr (sX hn e S _ h2 X C Fc).1 (notComp_sw h1)) fun D σ H z => drop_read z
    · cases h
  | .ret e, st, h => by
    unfold mS at h
    split at h
    · exact PS.imp (ps_ret (sX hn e S _ h X C Fc).1) fun D σ H z => ret_read z
    · cases h
  | .retN, st, h => by
    unfold mS at h
    split at h
    · exact PS.imp ps_retN fun D σ H z => retN_read z
    · cases h
  | .ifs c a b, st, h => by
    unfold mS at h
    split at h
    · obtain ⟨h1, h3⟩ := and2 h
      obtain ⟨h1, h2⟩ := and2 h1
      exact PS.imp (ps_if (sX hn c S _ h1 X C Fc).2.1 (sSs hn W C po Fc a _ h2) (sSs hn W C po Fc b _ h3)) fun D σ H z => if_read z
    · cases h
  | .forr tg it body, st, h => by
    unfold mS at h
    split at h
    · obtain ⟨h1, h5⟩ := and2 h
      obtain ⟨h1, h4⟩ := and2 h1
      obtain ⟨h1, h3⟩ := and2 h1
      obtain ⟨h1, h2⟩ := and2 h1
      refine PS.imp (ps_for po C.calm (sX hn it S _ h1 X C Fc) (mT_ok C h2) (sSs hn W C po Fc body _ h5) (fun x => noFold_ok h4)) fun D σ H z => ?_
      have r := for_read (all_nz h3) z
      have hk := Fc.hK
      rw [← hk] at r
      exact r
    · cases h
  | .whil c body, st, h => by
    unfold mS at h
    split at h
    · obtain ⟨h1, h2⟩ := and2 h
      exact PS.imp (ps_while po (sX hn c S _ h1 X C Fc).2.1 (sSs hn W C po Fc body _ h2)) fun D σ H z => while_read z
    · cases h
  | .pass, st, h => by
    unfold mS at h
    split at h
    · exact PS.imp ps_pass fun D σ H z => next_read z
    · exact PS.imp ps_doc fun D σ H z => next_read z
    · cases h
  | .brk, st, h => by
    unfold mS at h
    split at h
    · exact PS.imp ps_break fun D σ H z => brk_read z
    · cases h
  | .cont, st, h => by
    unfold mS at h
    split at h
    · exact PS.imp ps_continue fun D σ H z => cont_read z
    · cases h
  | .dead, st, h => PS.imp ps_never fun D σ H z => dead_read z
theorem sSs (hn : ∀ c, P.at c "" = none) (W : Nat) (C : InCx S X) (po : PassesOwn (model X.prog X.w) X.A X.env X.xe) (Fc : Fac tx X P k cl) : ∀ (ss : ISs) (sts : List Stmt), mSs P S ini ss sts = true → PSs X sts (tSs tx ini (exSs P cl W ss))
  | .nil, sts, h => by
    unfold mSs at h
    cases sts with
    | nil => exact PSs.imp pss_nil fun D σ H z => next_read z
    | cons _ _ => cases h
  | .cons s ss, sts, h => by
    unfold mSs at h
    split at h
    · obtain ⟨h1, h2⟩ := and2 h
      exact PSs.imp (pss_cons (sS hn W C po Fc s _ h1) (sSs hn W C po Fc ss _ h2)) fun D σ H z => seq_read z
    · cases h
end
end
end TI

set_option Elab.async false
set_option linter.all false
set_option maxRecDepth 100000
set_option maxHeartbeats 4000000
/-! all defs of a text keep their promises -/
namespace TI
open PySem PySem.Spec PyProof.Rows L2

def wrOf (sc : Scope) (x : Str) : Bool := (sc.names.lookup x == some .local) || (sc.names.lookup x == some .cell)
/-- a def of the text stands in the written part -/
structure DefTxt (K : PySem.W.Frag) (P : Pg) (d : Def) (a : Addr) : Prop where
  ex : ∃ x qual params body scope fd, FunD K x qual params body scope [] [] a fd ∧ L2.Binds K fd d.ps [] ∧ (∀ (s : Shared) (x z : Str) (u w : Value), d.ps = [x, z] → K.In s.heap → BindsTo s fd ⟨[u], [(z, w)]⟩ [(x, u), (z, w)]) ∧
    FnScope d.N d.ps scope ∧ mSs P ⟨d.N, scope, wrOf scope⟩ d.init d.body body = true
section
variable {tx : Tx} {P : Pg} {cl : Str → List D → M D}
theorem EnvR.of_reps {H B G : Hp} : ∀ {ds : List D} {vs : List V} {F : List Addr} (n : Nat), Reps tx H B G ds vs F → EnvR tx H B G (ds.map some ++ List.replicate n none) (vs.map some ++ List.replicate n none) F
  | [], vs, F, 0, ⟨h1, h2⟩ => by subst h1; subst h2; exact ⟨rfl, rfl⟩
  | [], vs, F, n + 1, ⟨h1, h2⟩ => by
    subst h1; subst h2
    exact ⟨none, _, rfl, EnvR.of_reps (ds := []) (vs := []) n ⟨rfl, rfl⟩⟩
  | d :: ds, vs, F, n, h => by
    obtain ⟨v, vs', F1, F2, rfl, h1, h2, rfl⟩ := h
    exact ⟨v, _, F1, F2, rfl, h1, EnvR.of_reps n h2, rfl⟩
theorem inCx_def {CX : CXT} {prog : Program} {w : World} {K : PySem.W.Frag} {mg : Str → Option Value} {base : Heap} {N ps : List Str} {qual : Str} {scope : Scope} {f : Addr} {cd : Value} {A : Around} {outer : List PySem.Env} {s : Shared} {H : Hp} {E : XK} (F : FnScope N ps scope) :
    InCx ⟨N, scope, wrOf scope⟩ (cxOf CX prog w K mg base N qual scope f cd A outer s H E) := by
  refine ⟨rfl, rfl, rfl, F.nd, fun x hx => ⟨?_, .inl rfl⟩⟩
  have hx : ((scope.names.lookup x == some .local) || (scope.names.lookup x == some .cell)) = true := hx
  rcases Bool.or_eq_true_iff.mp hx with h | h
  · exact .inl (show scope.names.lookup x = some .local by simpa using h)
  · exact .inr (show scope.names.lookup x = some .cell by simpa using h)
variable {prog : Program} {w : World} {K : PySem.W.Frag} {mg : Str → Option Value} {base : Heap} {kk : Nat}
/-- what a body may lean on, in any context of the text -/
def FacAll (tx : Tx) (prog : Program) (w : World) (K : PySem.W.Frag) (mg : Str → Option Value) (base : Heap) (P : Pg) (kk : Nat) (cl : Str → List D → M D) : Prop :=
  ∀ X : Cx, X.prog = prog → X.w = w → X.K = K → X.mg = mg → X.base = base → Room (kk + 2) X.A → Fac tx X P kk cl
theorem def_ok (hn : ∀ c, P.at c "" = none) (W : Nat) (Fx : FacAll tx prog w K mg base P kk cl) {d : Def} {a : Addr} (hd : DefTxt K P d a) (hi : d.init = false) :
    ∃ fd, FnOk prog w K mg base (L2.CX prog w) (kk + 3) a fd d.ps (spK tx (runD P cl W d)) ∧ L2.Binds K fd d.ps [] ∧ (∀ (s : Shared) (x z : Str) (u w : Value), d.ps = [x, z] → K.In s.heap → BindsTo s fd ⟨[u], [(z, w)]⟩ [(x, u), (z, w)]) := by
  obtain ⟨x, qual, params, body, scope, fd, F, hb, hk, S, hm⟩ := hd.ex
  refine ⟨fd, F.ok S (k := kk + 2) (fun vs H Q E h => ?_) (fun cdv A outer s H vs Q E hr h => ?_), hb, hk⟩
  · obtain ⟨P', b, ds, r, b', h1, h2, h3, h4, h5, _⟩ := h
    unfold runD at h5
    split at h5
    · rename_i hl
      rw [← h4.length, hl]
    · cases h5
  · obtain ⟨P', b, ds, r, b', h1, h2, h3, h4, h5, q⟩ := h
    unfold runD at h5
    split at h5
    · rename_i hl
      obtain ⟨fw, b1, e1, e2⟩ := bnd_some h5
      refine ⟨_, sSs hn W (inCx_def S) (passes_of rfl) (Fx _ rfl rfl rfl rfl rfl hr) d.body _ hm, P', H, none, [], _, b, fw, b1, ?_, fun z => absurd rfl z, e1, ?_⟩
      · refine ⟨List.nodup_nil, fun a z => (by cases z), h1, h2, h3.liveι, ExB.refl _, ?_, h3, fun v z => nomatch z⟩
        rw [List.append_nil]
        unfold L2.start
        rw [← h4.length]
        exact EnvR.of_reps _ h4
      · cases fw with
        | rt v env' =>
          have e3 := ret_some e2
          injection e3 with e4 e5
          subst e4; subst e5
          exact q
        | nx env' =>
          have e3 := ret_some e2
          injection e3 with e4 e5
          subst e4; subst e5
          exact fun σ' H' F' s' _ => q _ _ [] ⟨fun a z => (by cases z), List.nodup_nil, s'.ex, Reps.one ⟨rfl, rfl⟩, s'.ok⟩
        | bk _ => cases e2
        | ct _ => cases e2
    · cases h5
theorem def_okI (hn : ∀ c, P.at c "" = none) (W : Nat) (Fx : FacAll tx prog w K mg base P kk cl) {d : Def} {a : Addr} (hd : DefTxt K P d a) (hi : d.init = true) (c : Str) :
    ∃ fd, FnOk prog w K mg base (L2.CX prog w) (kk + 3) a fd d.ps (spI tx c (runI P cl W d c)) ∧ L2.Binds K fd d.ps [] ∧ (∀ (s : Shared) (x z : Str) (u w : Value), d.ps = [x, z] → K.In s.heap → BindsTo s fd ⟨[u], [(z, w)]⟩ [(x, u), (z, w)]) := by
  obtain ⟨x, qual, params, body, scope, fd, F, hb, hk, S, hm⟩ := hd.ex
  rw [hi] at hm
  refine ⟨fd, F.ok S (k := kk + 2) (fun vs H Q E h => ?_) (fun cdv A outer s H vs Q E hr h => ?_), hb, hk⟩
  · obtain ⟨P', b, ds, r, b', x, dx, us, H1, rfl, hx, hdx, ne, rfl, h1, h2, h3, h4, h5, _⟩ := h
    unfold runI at h5
    split at h5
    · rename_i hl
      rw [List.length_cons, ← h4.length, hl]
    · cases h5
  · obtain ⟨P', b, ds, r, b', x, dx, us, H1, rfl, hx, hdx, ne, rfl, h1, h2, h3, h4, h5, q⟩ := h
    unfold runI at h5
    split at h5
    · rename_i hl
      obtain ⟨fw, b1, e1, e2⟩ := bnd_some h5
      obtain ⟨e3, eb⟩ := opt_some e2
      dsimp only at e3 eb
      subst eb
      have hx2 : upd H1 dx (.own x) x = none := by rw [upd_ne (Ne.symm ne)]; exact hx
      have ex1 : ExB tx.β H1 (upd (upd H1 dx (.own x)) x (.ins (tx.ca c) dx [])) := (ExB.new hdx).trans (ExB.new hx2)
      have gr : ∀ {Q : List Addr}, (∀ a ∈ Q, a ∈ P' ++ [x]) → Ex (off P' H1) (off Q (upd (upd H1 dx (.own x)) x (.ins (tx.ca c) dx []))) := fun {Q} hQ => off_ex (fun a ha hn => by
        rcases List.mem_append.mp (hQ a ha) with z | z
        · exact z
        · rw [List.mem_singleton.mp z] at hn; exact absurd hx hn) fun a o hn ho => by
          rw [upd_ne (ne_of_none ho hx), upd_ne (ne_of_none ho hdx)]
          exact ho
      refine ⟨_, sSs hn W (inCx_def S) (passes_of rfl) (Fx _ rfl rfl rfl rfl rfl hr) d.body _ hm, P', H1, some (.ref x), [x], _, b, fw, b', ?_, fun _ => rfl, e1, ?_⟩
      · refine ⟨by simp, fun a z => by rw [List.mem_singleton.mp z]; exact hx, h1, h2, h3.liveι, ex1, ?_, (h3.new hdx).new hx2, fun v z => by cases z; rfl⟩
        unfold L2.start
        rw [List.length_cons, ← h4.length]
        have g := gr (Q := P' ++ [x]) (fun _ z => z)
        exact ⟨.ref x, _, [x], [], rfl, ⟨x, dx, [], [], rfl, upd_same, rfl, ⟨rfl, rfl⟩, rfl⟩, EnvR.of_reps _ (h4.mono g g (fun a z => by cases z)), rfl⟩
      · cases fw with
        | nx env' =>
          intro σ' H' F' s' _
          have e4 : env'[0]? = some (some r) := by
            have e3 : (env'[0]?).join = some r := e3
            cases z : env'[0]? with
            | none => rw [z] at e3; cases e3
            | some o => rw [z] at e3; exact congrArg some e3
          obtain ⟨v, F1, k1, k2, k3⟩ := s'.env.get e4
          have z := s'.zero _ rfl
          rw [k1] at z
          injection z with z
          injection z with z
          subst z
          refine q H' F1 ⟨fun a ha => s'.fresh a (k3.subset ha), s'.nd.sublist k3, s'.ex, Reps.one (k2.mono ?_ ?_ (fun _ _ _ z => z)), s'.ok⟩
          · exact off_mono fun a ha => by
              rcases List.mem_append.mp ha with z | z
              · exact List.mem_append_left _ z
              · exact List.mem_append_right _ (k3.subset z)
          · exact off_mono fun a ha => by
              rcases List.mem_append.mp ha with z | z
              · exact List.mem_append_left _ z
              · exact List.mem_append_right _ (k3.subset z)
        | _ => cases e3
    · cases h5
end

/-! ### the whole text -/
/-- the key is that of a def | of a def that is handed in -/
def IsKey (P : Pg) (prim : Str → Option (List D → M D)) (key : Str) : Prop := (∃ f, prim key = some f) ∨ ∃ d, P.defs.find? (fun d => d.key == key) = some d ∧ d.init = false
/-- of the written part -/
structure Txt (tx : Tx) (prog : Program) (w : World) (mg : Str → Option Value) (base : Heap) (P : Pg) (prim : Str → Option (List D → M D)) (kp : Nat) (adr : Str → Addr) : Prop where
  nb : ∀ x, x ∈ bltNames → mg x = none
  con : ∀ x d, P.con.lookup x = some d → ∃ v u, mg x = some u ∧ RelV v u ∧ ∀ H B G, Rep tx H B G d v []
  defs : ∀ d, d ∈ P.defs → DefTxt tx.K P d (adr d.key)
  fn : ∀ f, f ∈ P.fns → mg f = some (.ref (adr f)) ∧ PySem.W.keepIn tx.K (.ref (adr f)) = true ∧ IsKey P prim f
  new : ∀ c, c ∈ P.cls → mg c = some (.ref (tx.ca c)) ∧ Mk tx.K (tx.ca c) (adr c) ∧ prim c = none ∧ ∃ d, P.defs.find? (fun d => d.key == c) = some d ∧ d.init = true
  cls : ∀ c m q, P.at c m = some q → ClsX tx.K (tx.ca c) ∧ (match q with
    | .meth key => Meth tx.K (tx.ca c) m (adr key) ∧ IsKey P prim key
    | .prop key => (∃ p, PropOf tx.K (tx.ca c) m p (adr key)) ∧ IsKey P prim key
    | .stat key => (∃ (mc : Value) (p : Addr) (rest : List Value), mg c = some (.ref (tx.ca c)) ∧ PySem.W.typeIn tx.K (.ref (tx.ca c)) = some mc ∧ PySem.W.readsIn tx.K (tx.ca c) mc = true ∧
      PySem.W.findCls tx.K (.ref (tx.ca c)) mc m = some (.get (.builtin "staticmethod.__get__") (.ref p) .none (.ref (tx.ca c))) ∧ PySem.W.recIn tx.K p "staticmethod" = some (.ref (adr key) :: rest) ∧
      PySem.W.specialIn tx.K (.ref (tx.ca c)) "__getattribute__" = some (some (.builtin "type.__getattribute__")) ∧ PySem.W.keepIn tx.K (.ref (adr key)) = true) ∧ IsKey P prim key
    | .fld => NoAttr tx.K (tx.ca c) m)
  isc : ∀ t, t ∈ P.isc → mg t = some (.ref (tx.ca t)) ∧ (PySem.W.clsIn tx.K (tx.ca t)).isSome = true ∧ PySem.W.typeIn tx.K (.ref (tx.ca t)) = some (.type "type")
  mro : ∀ c l, P.mro.lookup c = some l → IsK tx.K (tx.ca c) ∧ (∀ t, t ∈ P.isc → PySem.W.kitOne tx.K (.ref (tx.ca c)) (.ref (tx.ca t)) = some (l.contains t)) ∧ ∀ t n, tyS t = some n → PySem.W.kitOne tx.K (.ref (tx.ca c)) (.type n) = some false
  ne : ∀ c q, P.at c "__eq__" = some q → PySem.W.findIn tx.K (.ref (tx.ca c)) "__ne__" = some (some (.builtin "object.__ne__"))
  hn : ∀ c, P.at c "" = none
  exs : ∀ c x, P.exs.lookup c = some x → ∀ X : Cx, X.prog = prog → X.K = tx.K → X.mg = mg → X.base = base → ExT tx X P c x
  prim : ∀ key f, prim key = some f → ∃ fd ps, FnOk prog w tx.K mg base (L2.CX prog w) kp (adr key) fd ps (spK tx f) ∧ L2.Binds tx.K fd ps [] ∧
    ∀ (s : Shared) (x z : Str) (u w : Value), P.par key = [x, z] → tx.K.In s.heap → ps = [x, z] ∧ BindsTo s fd ⟨[u], [(z, w)]⟩ [(x, u), (z, w)]
section
variable {tx : Tx} {prog : Program} {w : World} {mg : Str → Option Value} {base : Heap} {P : Pg} {prim : Str → Option (List D → M D)} {kp W : Nat} {adr : Str → Addr}
theorem callP_prim {n : Nat} {key : Str} {f : List D → M D} (h : prim key = some f) : callP P W prim (n + 1) key = f := by
  funext ds
  unfold callP
  rw [h]
theorem callP_def {n : Nat} {key : Str} {d : Def} (h : prim key = none) (hd : P.defs.find? (fun d => d.key == key) = some d) (hi : d.init = false) : callP P W prim (n + 1) key = runD P (callP P W prim n) W d := by
  funext ds
  rw [callP]
  simp only [h, hd]
  rw [hi, if_neg (by decide)]
theorem callP_init {n : Nat} {key : Str} {d : Def} (h : prim key = none) (hd : P.defs.find? (fun d => d.key == key) = some d) (hi : d.init = true) : callP P W prim (n + 1) key = runI P (callP P W prim n) W d key := by
  funext ds
  rw [callP]
  simp only [h, hd]
  rw [hi, if_pos rfl]
theorem find_key {key : Str} {d : Def} (h : P.defs.find? (fun d => d.key == key) = some d) : d ∈ P.defs ∧ d.key = key := ⟨List.mem_of_find?_eq_some h, by simpa using List.find?_some h⟩
/-- a def at depth n keeps its promise -/
structure Kept1 (tx : Tx) (prog : Program) (w : World) (mg : Str → Option Value) (base : Heap) (lv : Nat) (sp : Sp) (a : Addr) (par : List Str) : Prop where
  ok : ∃ fd ps, FnOk prog w tx.K mg base (L2.CX prog w) lv a fd ps sp ∧ L2.Binds tx.K fd ps [] ∧ ∀ (s : Shared) (x z : Str) (u w : Value), par = [x, z] → tx.K.In s.heap → ps = [x, z] ∧ BindsTo s fd ⟨[u], [(z, w)]⟩ [(x, u), (z, w)]
theorem txt_fac (T : Txt tx prog w mg base P prim kp adr) {lv : Nat} {cl : Str → List D → M D} (h1 : ∀ key, IsKey P prim key → Kept1 tx prog w mg base lv (spK tx (cl key)) (adr key) (P.par key))
    (h2 : ∀ c, c ∈ P.cls → Kept1 tx prog w mg base lv (spI tx c (cl c)) (adr c) []) : FacAll tx prog w tx.K mg base P lv cl := by
  intro X e1 e2 e3 e4 e5 hr
  subst e1 e2 e4 e5
  have mk : ∀ {sp : Sp} {a : Addr} {par : List Str}, Kept1 tx X.prog X.w X.mg X.base lv sp a par → FnA tx X lv sp a par := fun {sp a par} h => by
    obtain ⟨fd, ps, g1, g2, g3⟩ := h.ok
    rw [← e3] at g1 g2 g3
    exact ⟨fd, ps, g1, g2, g3⟩
  have mk0 : ∀ {sp : Sp} {a : Addr} {par : List Str}, Kept1 tx X.prog X.w X.mg X.base lv sp a par → FnA tx X lv sp a := fun {sp a par} h => by
    obtain ⟨fd, ps, g1, g2, g3⟩ := h.ok
    rw [← e3] at g1 g2 g3
    exact ⟨fd, ps, g1, g2, fun s x z u w e => nomatch e⟩
  refine ⟨T.nb, T.con, e3, hr, fun f hf => ?_, fun c hc => ?_, fun c m q h => ?_, ?_, ?_, ?_, fun c x h => T.exs c x h X rfl e3 rfl rfl⟩
  · obtain ⟨m1, m2, m3⟩ := T.fn f hf
    exact ⟨_, m1, by rw [e3]; exact m2, mk0 (h1 f m3)⟩
  · obtain ⟨m1, m2, _⟩ := T.new c hc
    exact ⟨m1, _, by rw [e3]; exact m2, mk (h2 c hc)⟩
  · obtain ⟨c1, c2⟩ := T.cls c m q h
    refine ⟨by rw [e3]; exact c1, ?_⟩
    cases q with
    | meth key => exact ⟨_, by rw [e3]; exact c2.1, mk (h1 _ c2.2)⟩
    | prop key =>
      obtain ⟨⟨p, c3⟩, c4⟩ := c2
      exact ⟨p, _, by rw [e3]; exact c3, mk0 (h1 _ c4)⟩
    | stat key =>
      obtain ⟨⟨mc, p, rest, k1, k2, k3, k4, k5, k6, k7⟩, c4⟩ := c2
      exact ⟨mc, p, _, rest, k1, by rw [e3]; exact k2, by rw [e3]; exact k3, by rw [e3]; exact k4, by rw [e3]; exact k5, by rw [e3]; exact k6, by rw [e3]; exact k7, mk0 (h1 _ c4)⟩
    | fld =>
      show NoAttr X.K _ _
      rw [e3]; exact c2
  · rw [e3]; exact T.isc
  · rw [e3]; exact T.mro
  · rw [e3]; exact T.ne
/-- every def keeps its promise at any depth -/
theorem txt_all (T : Txt tx prog w mg base P prim kp adr) : ∀ n : Nat, (∀ key, IsKey P prim key → Kept1 tx prog w mg base (kp + 3 * n) (spK tx (callP P W prim n key)) (adr key) (P.par key)) ∧
    (∀ c, c ∈ P.cls → Kept1 tx prog w mg base (kp + 3 * n) (spI tx c (callP P W prim n c)) (adr c) [])
  | 0 => by
    have noK : ∀ {key : Str} {vs : List V} {H : Hp} {Q : VK} {E : XK}, spK tx (callP P W prim 0 key) vs H Q E → False := fun h => by
      obtain ⟨_, _, _, _, _, _, _, _, _, h5, _⟩ := h
      cases h5
    have noI : ∀ {c key : Str} {vs : List V} {H : Hp} {Q : VK} {E : XK}, spI tx c (callP P W prim 0 key) vs H Q E → False := fun h => by
      obtain ⟨_, _, _, _, _, _, _, _, _, _, _, _, _, _, _, _, _, _, h5, _⟩ := h
      cases h5
    refine ⟨fun key hk => ?_, fun c hc => ?_⟩
    · rcases hk with ⟨f, hf⟩ | ⟨d, hd, hi⟩
      · obtain ⟨fd, ps, g1, g2, g3⟩ := T.prim key f hf
        exact ⟨fd, ps, ⟨fun vs H Q E h => (noK h).elim, fun A outer s H args us vs Q E _ _ _ _ h => (noK h).elim⟩, g2, g3⟩
      · obtain ⟨hm, he⟩ := find_key hd
        have hd' := T.defs d hm
        rw [he] at hd'
        obtain ⟨x, qual, params, body, scope, fd, F, hb, hk, S, hm⟩ := hd'.ex
        have hp : P.par key = d.ps := by unfold Pg.par; rw [hd]
        exact ⟨fd, d.ps, ⟨fun vs H Q E h => (noK h).elim, fun A outer s H args us vs Q E _ _ _ _ h => (noK h).elim⟩, hb, fun s x z u w e hin => by rw [hp] at e; exact ⟨e, hk s x z u w e hin⟩⟩
    · obtain ⟨_, _, _, d, hd, hi⟩ := T.new c hc
      obtain ⟨hm, he⟩ := find_key hd
      have hd' := T.defs d hm
      rw [he] at hd'
      obtain ⟨x, qual, params, body, scope, fd, F, hb, hk, S, hm⟩ := hd'.ex
      exact ⟨fd, d.ps, ⟨fun vs H Q E h => (noI h).elim, fun A outer s H args us vs Q E _ _ _ _ h => (noI h).elim⟩, hb, fun s x z u w e => nomatch e⟩
  | n + 1 => by
    obtain ⟨i1, i2⟩ := txt_all T n
    have Fx := txt_fac T i1 i2
    refine ⟨fun key hk => ?_, fun c hc => ?_⟩
    · cases hp : prim key with
      | some f =>
        obtain ⟨fd, ps, g1, g2, g3⟩ := T.prim key f hp
        rw [callP_prim hp]
        exact ⟨fd, ps, g1.mono (by omega), g2, g3⟩
      | none =>
        rcases hk with ⟨f, hf⟩ | ⟨d, hd, hi⟩
        · rw [hp] at hf; cases hf
        · obtain ⟨hm, he⟩ := find_key hd
          have hd' := T.defs d hm
          rw [he] at hd'
          obtain ⟨fd, g1, g2, g3⟩ := def_ok T.hn W Fx hd' hi
          have hpar : P.par key = d.ps := by unfold Pg.par; rw [hd]
          rw [callP_def hp hd hi, hpar]
          exact ⟨fd, d.ps, g1.mono (by omega), g2, fun s x z u w e hin => ⟨e, g3 s x z u w e hin⟩⟩
    · obtain ⟨_, _, hp, d, hd, hi⟩ := T.new c hc
      obtain ⟨hm, he⟩ := find_key hd
      have hd' := T.defs d hm
      rw [he] at hd'
      obtain ⟨fd, g1, g2, g3⟩ := def_okI T.hn W Fx hd' hi c
      rw [callP_init hp hd hi]
      exact ⟨fd, d.ps, g1.mono (by omega), g2, fun s x z u w e => nomatch e⟩
end
end TI

set_option Elab.async false
set_option linter.all false
set_option maxRecDepth 100000
set_option maxHeartbeats 4000000
/-! own errors' classes: what the written part must say, as a Bool -/
namespace TI
open PySem PySem.Spec PyProof.Rows L2

def eqV' (a b : Option (Option Value)) : Bool := decide (a = b)
/-- over a built-in error -/
def excB (K : PySem.W.Frag) (C fI : Addr) (B newId i : String) (bmB : List Value) : Bool :=
  PySem.W.excInitIn K C bmB newId && PySem.W.excOver K C bmB && PySem.W.hasDictIn K C && eqV' (PySem.W.findIn K (.ref C) "__init__") (some (some (.ref fI))) && PySem.W.isFn K (.ref fI) &&
    eqV' (PySem.W.findIn K (.ref C) "__setattr__") (some (some (.builtin "object.__setattr__"))) && eqV' (PySem.W.ks_superIn K C C "__init__") (some (some (.builtin i))) &&
    decide (PySem.W.subIn K (.ref C) (.type B) = some true) && decide (PySem.W.mroIn K C (.ref C) = some true) && eqV' (PySem.W.nsIn K cStatics "thirdparty.any") (some none)
theorem excB_ok {K : PySem.W.Frag} {C fI : Addr} {B newId i : String} {bmB : List Value} (F : TX.BaseF B newId i bmB) (h : excB K C fI B newId i bmB = true) : TX.ExC K C fI B newId i bmB := by
  unfold excB at h
  obtain ⟨h, h10⟩ := and2 h
  obtain ⟨h, h9⟩ := and2 h
  obtain ⟨h, h8⟩ := and2 h
  obtain ⟨h, h7⟩ := and2 h
  obtain ⟨h, h6⟩ := and2 h
  obtain ⟨h, h5⟩ := and2 h
  obtain ⟨h, h4⟩ := and2 h
  obtain ⟨h, h3⟩ := and2 h
  obtain ⟨h1, h2⟩ := and2 h
  exact ⟨F, h1, h2, h3, dec h4, h5, dec h6, dec h7, dec h8, dec h9, dec h10⟩
abbrev bmVE : List Value := [.type "ValueError", .type "Exception", .type "BaseException", .type "object"]
abbrev bmLE : List Value := [.type "LookupError", .type "Exception", .type "BaseException", .type "object"]
abbrev bmIE : List Value := [.type "IndexError", .type "LookupError", .type "Exception", .type "BaseException", .type "object"]
theorem baseVE : TX.BaseF "ValueError" "ValueError.__new__" "ValueError.__init__" bmVE := ⟨F.excBase_ValueError, PySem.W.kxs_ValueError, F.store_ValueError⟩
theorem baseLE : TX.BaseF "LookupError" "LookupError.__new__" "LookupError.__init__" bmLE := ⟨F.excBase_LookupError, PySem.W.kxs_LookupError, F.store_LookupError⟩
theorem baseIE : TX.BaseF "IndexError" "IndexError.__new__" "IndexError.__init__" bmIE := ⟨F.excBase_IndexError, PySem.W.kxs_IndexError, F.store_IndexError⟩
def excsB (K : PySem.W.Frag) (C fI : Addr) : Bool := excB K C fI "ValueError" "ValueError.__new__" "ValueError.__init__" bmVE || excB K C fI "LookupError" "LookupError.__new__" "LookupError.__init__" bmLE || excB K C fI "IndexError" "IndexError.__new__" "IndexError.__init__" bmIE
theorem excsB_ok {K : PySem.W.Frag} {C fI : Addr} (h : excsB K C fI = true) : ∃ B newId i bmB, TX.ExC K C fI B newId i bmB := by
  rcases Bool.or_eq_true_iff.mp h with h | h
  · rcases Bool.or_eq_true_iff.mp h with h | h
    · exact ⟨_, _, _, _, excB_ok baseVE h⟩
    · exact ⟨_, _, _, _, excB_ok baseLE h⟩
  · exact ⟨_, _, _, _, excB_ok baseIE h⟩
def parsB (K : PySem.W.Frag) (C : Addr) (x : Exc) (scope : Scope) (sts : List Stmt) : List Str → Bool
  | self :: ps => decide (ps = x.ps) && decide (self :: ps).Nodup && ((self :: ps).all fun y => decide (scope.names.lookup y = some .local) && !(y == ("__debug__" : Str))) && decide (self ≠ "super") && decide (TX.stsOf self sts = some x.fl)
  | [] => false
def codeC (file : Str) (K : PySem.W.Frag) (cda : Addr) : Bool := match K.lookup cda with
  | some ⟨_, _, .fields vs, _⟩ => (match (vs[2]? : Option Value) with
    | some (Value.str fl _) => file == fl
    | _ => false)
  | _ => false
def cellC (K : PySem.W.Frag) (cc C : Addr) : Bool := match K.lookup cc with
  | some ⟨_, _, .cell (some (.ref D)), _⟩ => decide (D = C)
  | _ => false
def initB (file : Str) (K : PySem.W.Frag) (C fI : Addr) (x : Exc) : Bool := match K.lookup fI with
  | some ⟨_, _, .func ⟨_, qual, ⟨[], as, none, [], [], none, []⟩, .stmts (.Expr (.Call (.Attribute (.Call (.Name sup _) [] [] _) ini p2) [.Constant (.str _) _ _] [] p4) _ :: sts), scope, gl, [(cl, cc)], .none, _, _, _, _, .ref cda, _, bn⟩, _⟩ =>
    decide (sup = "super") && decide (ini = "__init__") && (p2.endLine == p4.line) && decide (gl = mainGlobals) && decide (bn = builtinsNs) && decide (cl = "__class__") && cellC K cc C && codeC file K cda && PySem.W.codeIn K (.ref cda) qual && parsB K C x scope sts (as.map (·.arg)) &&
      decide (scope.names.lookup ("super" : Str) = some .globalImplicit) && decide (scope.names.lookup ("__class__" : Str) = some .free) && (match scope.kind with
      | .function => true
      | _ => false) && !scope.isCoroutine && !scope.isGenerator && scope.names.all fun y => decide (y.2 ≠ .cell)
  | _ => false
def errB (file : Str) (P : Pg) (K : PySem.W.Frag) (c : Str) (x : Exc) : Bool :=
  let C := He.ga K c
  let fI := He.ma K C "__init__"
  eqV' (PySem.W.nsIn K mainGlobals c) (some (some (.ref C))) && PySem.W.keepIn K (.ref C) && excsB K C fI && initB file K C fI x && eqV' (PySem.W.findIn K (.ref C) "__getattribute__") (some (some (.builtin "BaseException.__getattribute__"))) &&
    eqV' (PySem.W.findIn K (.ref C) "__getattr__") (some none) && decide (PySem.W.subIn K (.ref C) (.type "BaseException") = some true) && PySem.W.hasDictIn K C && ((x.fl.map (·.1)).all fun f => eqV' (PySem.W.findIn K (.ref C) f) (some none)) &&
    eqV' (PySem.W.findIn K (.ref C) "__class__") (some (some (.builtin "object.__class__"))) && eqV' (PySem.W.specialIn K (.builtin "object.__class__") "__get__") (some (some (.builtin "getset_descriptor.__get__"))) &&
    decide (PySem.W.takesIn K (.builtin "object.__class__") = some true) && decide (PySem.W.mroIn K C (.type "object") = some true) && P.isc.all (fun t => decide (PySem.W.kitOne K (.ref C) (.ref (He.ga K t)) = some (x.mro.contains t))) &&
    (["ValueError", "LookupError", "IndexError", "int", "bool", "str", "list", "tuple"] : List String).all (fun n => decide (PySem.W.kitOne K (.ref C) (.type n) = some (x.mro.contains (Str.ofString n)))) && (x.fl.all fun p => match p.2 with
      | .str _ => true
      | .par y => decide (y ∈ x.ps)) && decide (x.fl.length ≤ 900) && decide (x.fl ≠ []) && decide (x.ps.length ≤ 900)
theorem initB_ok {prog : Program} {K : PySem.W.Frag} {C fI : Addr} {x : Exc} {mg : Str → Option Value} {base : Heap} {B newId i : String} {bmB : List Value} (T : TX.ExC K C fI B newId i bmB) (hsup : mg "super" = none) (htop : (prog.main.scope.names.lookup ("super" : Str)).isSome = false)
    (hf : ∀ f, f ∈ x.fl.map (·.1) → PySem.W.findIn K (.ref C) f = some none) (hp : ∀ p ∈ x.fl, match p.2 with
      | .str _ => True
      | .par y => y ∈ x.ps) (h1 : x.fl.length ≤ 900) (h2 : x.fl ≠ []) (h3 : x.ps.length ≤ 900) (h : initB prog.main.file K C fI x = true) : TX.ExMk prog K mg base C x.ps x.fl := by
  unfold initB at h
  split at h
  · rename_i lk
    obtain ⟨h, k16⟩ := and2 h
    obtain ⟨h, k15⟩ := and2 h
    obtain ⟨h, k14⟩ := and2 h
    obtain ⟨h, k13⟩ := and2 h
    obtain ⟨h, k12⟩ := and2 h
    obtain ⟨h, k11⟩ := and2 h
    obtain ⟨h, k10⟩ := and2 h
    obtain ⟨h, k9⟩ := and2 h
    obtain ⟨h, k8⟩ := and2 h
    obtain ⟨h, k7⟩ := and2 h
    obtain ⟨h, k6⟩ := and2 h
    obtain ⟨h, k5⟩ := and2 h
    obtain ⟨h, k4⟩ := and2 h
    obtain ⟨h, k3⟩ := and2 h
    obtain ⟨k1, k2⟩ := and2 h
    have k1 := dec k1
    have k2 := dec k2
    have k4 := dec k4
    have k5 := dec k5
    have k6 := dec k6
    subst k1 k2 k4 k5 k6
    unfold cellC at k7
    split at k7
    · rename_i lc
      have k7 := dec k7
      subst k7
      unfold codeC at k8
      split at k8
      · rename_i ld
        split at k8
        · rename_i hv
          unfold parsB at k10
          split at k10
          · rename_i self ps has
            obtain ⟨k10, j5⟩ := and2 k10
            obtain ⟨k10, j4⟩ := and2 k10
            obtain ⟨k10, j3⟩ := and2 k10
            obtain ⟨j1, j2⟩ := and2 k10
            have j1 := dec j1
            subst j1
            refine TX.exMk (self := self) T ⟨⟨_, _, _, lk⟩, k9, ⟨_, _, _, _, _, _, ld, hv, k8⟩, ⟨_, _, _, lc⟩, htop, dec k11, dec k12, ?_⟩ (by simpa using k14) (by simpa using k15) (fun y hy => dec (List.all_eq_true.mp k16 y hy)) has (dec j2) (fun y hy => ?_) (dec j4) k3 (dec j5) (fun p hpp => ⟨hf p.1 (List.mem_map_of_mem hpp), hp p hpp⟩) h1 h2 h3 hsup
            · split at k13
              · assumption
              · cases k13
            · obtain ⟨z1, z2⟩ := and2 (List.all_eq_true.mp j3 y hy)
              exact ⟨dec z1, by simpa using z2⟩
          · cases k10
        · cases k8
      · cases k8
    · cases k7
  · cases h
theorem errB_ok {prog : Program} {P : Pg} {tx : Tx} {c : Str} {x : Exc} {mg : Str → Option Value} {base h : Heap} (hca : tx.ca = He.ga tx.K) (XK : tx.K.In h) (G : h.Ns mainGlobals mg) (hsup : mg "super" = none) (htop : (prog.main.scope.names.lookup ("super" : Str)).isSome = false)
    (e : errB prog.main.file P tx.K c x = true) : ∀ X : Cx, X.prog = prog → X.K = tx.K → X.mg = mg → X.base = base → ExT tx X P c x := by
  intro X e1 e2 e3 e4
  subst e1 e3 e4
  unfold errB at e
  obtain ⟨e, k19⟩ := and2 e
  obtain ⟨e, k18⟩ := and2 e
  obtain ⟨e, k17⟩ := and2 e
  obtain ⟨e, k16⟩ := and2 e
  obtain ⟨e, k15⟩ := and2 e
  obtain ⟨e, k14⟩ := and2 e
  obtain ⟨e, k13⟩ := and2 e
  obtain ⟨e, k12⟩ := and2 e
  obtain ⟨e, k11⟩ := and2 e
  obtain ⟨e, k10⟩ := and2 e
  obtain ⟨e, k9⟩ := and2 e
  obtain ⟨e, k8⟩ := and2 e
  obtain ⟨e, k7⟩ := and2 e
  obtain ⟨e, k6⟩ := and2 e
  obtain ⟨e, k5⟩ := and2 e
  obtain ⟨e, k4⟩ := and2 e
  obtain ⟨e, k3⟩ := and2 e
  obtain ⟨k1, k2⟩ := and2 e
  obtain ⟨B, newId, i, bmB, T⟩ := excsB_ok k3
  have hfl : ∀ f, f ∈ x.fl.map (·.1) → PySem.W.findIn tx.K (.ref (He.ga tx.K c)) f = some none := fun f hf => dec (List.all_eq_true.mp k9 f hf)
  have mk := initB_ok (prog := X.prog) (mg := X.mg) (base := X.base) T hsup htop hfl (fun p hp => by
    have := List.all_eq_true.mp k16 p hp
    split at this
    · exact True.intro
    · rename_i hh
      exact dec this) (dec k17) (dec k18) (dec k19) k4
  refine ⟨?_, ?_, ?_, ?_, ?_, ?_, ?_, ?_, ?_, ?_, ?_, ?_, ?_, ?_⟩
  all_goals (try rw [e2]); (try rw [hca])
  · exact PySem.W.mg_of XK G (dec k1)
  · exact k2
  · exact mk
  · exact dec k5
  · exact dec k6
  · exact dec k7
  · exact k8
  · exact hfl
  · exact dec k10
  · exact dec k11
  · exact dec k12
  · exact dec k13
  · intro t ht
    exact dec (List.all_eq_true.mp k14 t ht)
  · intro t n ht
    have hn : n ∈ (["ValueError", "LookupError", "IndexError", "int", "bool", "str", "list", "tuple"] : List String) ∧ t = Str.ofString n := by
      unfold tyS at ht
      repeat' split at ht
      all_goals (first | (cases ht; refine ⟨by simp, ?_⟩; assumption) | cases ht)
    obtain ⟨hn1, rfl⟩ := hn
    exact dec (List.all_eq_true.mp k15 n hn1)
end TI

set_option Elab.async false
set_option linter.all false
set_option maxRecDepth 100000
set_option maxHeartbeats 4000000
/-! the written part, from the head -/
namespace TI
open PySem PySem.Spec PyProof.Rows L2

/-- where a function stands -/
inductive Loc where
  | glo (x : Str) | meth (c m : Str) | prop (c m : Str) | stat (c m : Str)
  deriving DecidableEq
def propFn (K : PySem.W.Frag) (p : Addr) : Addr := match PySem.W.recIn K p "property" with
  | some (.ref g :: _) => g
  | _ => 0
def statOf (K : PySem.W.Frag) (C : Addr) (m : Str) : Addr := match PySem.W.findCls K (.ref C) (.type "type") m with
  | some (.get _ (.ref p) _ _) => p
  | _ => 0
def statFn (K : PySem.W.Frag) (p : Addr) : Addr := match PySem.W.recIn K p "staticmethod" with
  | some (.ref g :: _) => g
  | _ => 0
def locAd (K : PySem.W.Frag) : Loc → Addr
  | .glo x => He.ga K x
  | .meth c m => He.ma K (He.ga K c) m
  | .prop c m => propFn K (He.ma K (He.ga K c) m)
  | .stat c m => statFn K (statOf K (He.ga K c) m)
/-- a def as it stands: its place, names, parameters, body, scope -/
structure DefE where
  loc : Loc
  name : Str
  qual : Str
  args : List Arg
  body : List Stmt
  scope : Scope
def fnAt (K : PySem.W.Frag) (a : Addr) : He.FnW := match K.lookup a with
  | some ⟨_, _, .func fd, _⟩ => some (fd.name, fd.qualname, fd.params, fd.body, fd.scope, fd.globals, fd.closure, fd.builtins)
  | _ => none
def DefE.val (d : DefE) : He.FnW := some (d.name, d.qual, plainArgs d.args, .stmts d.body, d.scope, mainGlobals, [], builtinsNs)
def DefE.ok (K : PySem.W.Frag) (d : DefE) : Bool := PySem.W.keepIn K (.ref (locAd K d.loc)) && (match K.lookup (locAd K d.loc) with
  | some ⟨_, _, .func fd, _⟩ => PySem.W.codeIn K fd.code d.qual && He.dflB K fd.defaults []
  | _ => false)
theorem DefE.funD {K : PySem.W.Frag} {d : DefE} (e : fnAt K (locAd K d.loc) = d.val) (c : d.ok K = true) : ∃ fd, FunD K d.name d.qual (plainArgs d.args) d.body d.scope [] [] (locAd K d.loc) fd := by
  obtain ⟨kp, c2⟩ := and2 c
  unfold fnAt at e
  cases q : K.lookup (locAd K d.loc) with
  | none =>
    rw [q] at c2
    cases c2
  | some o =>
    obtain ⟨oc, od, dt, osl⟩ := o
    rw [q] at c2 e
    cases dt with
    | func fd =>
      obtain ⟨n1, n2, n3, n4, n5, n6, n7, n8, n9, n10, n11, n12, n13, n14, n15⟩ := fd
      have e2 : (some (n1, n2, n3, n4, n5, n6, n7, n15) : He.FnW) = some (d.name, d.qual, plainArgs d.args, .stmts d.body, d.scope, mainGlobals, [], builtinsNs) := e
      simp only [Option.some.injEq, Prod.mk.injEq] at e2
      obtain ⟨h1, h2, h3, h4, h5, h6, h7, h8⟩ := e2
      subst h1 h2 h3 h4 h5 h6 h7 h8
      have c3 : (PySem.W.codeIn K n13 d.qual && He.dflB K n8 []) = true := c2
      obtain ⟨k1, k2⟩ := and2 c3
      exact ⟨_, ⟨oc, od, n8, n9, n10, n11, n12, n13, n14, osl, rfl, q, k1, He.dflB_ok k2, .inl rfl⟩, kp⟩
    | _ => cases c2
/-! ### the Hook -/
abbrev AlE : Type := Bool × List He.FnW
def obsE (fn : List DefE) (ex : PySem.W.Frag → Bool) (K : PySem.W.Frag) : AlE := ((fn.all fun d => d.ok K) && ex K, fn.map fun d => fnAt K (locAd K d.loc))
def valE (fn : List DefE) : AlE := (true, fn.map DefE.val)
def obsEG (n : Nat) (fn : List DefE) (ex : PySem.W.Frag → Bool) (g : Addr → Option Obj) : AlE := obsE fn ex (He.frG g (cStatics :: He.asD g n))
def hookE (n : Nat) (fn : List DefE) (ex : PySem.W.Frag → Bool) : PySem.W.Hook where
  α := AlE
  obs := fun s => obsEG n fn ex s.heap.get?
  val := fun _ => valE fn
  says := fun _ h => ∃ K : PySem.W.Frag, K.In h ∧ obsE fn ex K = valE fn
  of := fun _ _ e => ⟨_, He.frG_in, e⟩
  keeps := fun _ _ _ ⟨K, hK, c⟩ k => ⟨K, PySem.W.Frag.In.keeps hK k, c⟩
theorem obsEG_eq {n : Nat} {fn : List DefE} {ex : PySem.W.Frag → Bool} {g : Addr → Option Obj} {s : Shared} (h : ∀ a, g a = s.heap.get? a) : obsEG n fn ex g = (hookE n fn ex).obs s := by
  have e : g = s.heap.get? := funext h
  rw [e] <;> rfl
section
variable {fn : List DefE} {ex : PySem.W.Frag → Bool} {K : PySem.W.Frag}
theorem says_ex (c : obsE fn ex K = valE fn) : ex K = true := (and2 (show ((fn.all fun d => d.ok K) && ex K) = true from congrArg (fun z : AlE => z.1) c)).2
theorem says_def (c : obsE fn ex K = valE fn) {d : DefE} (h : d ∈ fn) : ∃ fd, FunD K d.name d.qual (plainArgs d.args) d.body d.scope [] [] (locAd K d.loc) fd := by
  have c2 := (and2 (show ((fn.all fun d => d.ok K) && ex K) = true from congrArg (fun z : AlE => z.1) c)).1
  have e : fn.map (fun d => fnAt K (locAd K d.loc)) = fn.map DefE.val := congrArg (fun z : AlE => z.2) c
  obtain ⟨i, hi⟩ := List.getElem?_of_mem h
  have e2 : (fn.map fun d => fnAt K (locAd K d.loc))[i]? = (fn.map DefE.val)[i]? := by rw [e]
  rw [List.getElem?_map, List.getElem?_map, hi] at e2
  exact DefE.funD (Option.some.inj e2) (List.all_eq_true.mp c2 d h)
end

/-! ### the text's facts as one Bool -/
def eqV (a b : Option (Option Value)) : Bool := decide (a = b)
def gloB (K : PySem.W.Frag) (x : Str) : Bool := eqV (PySem.W.nsIn K mainGlobals x) (some (some (.ref (He.ga K x))))
def conB (K : PySem.W.Frag) (x : Str) (d : D) : Bool := match d, PySem.W.nsIn K mainGlobals x with
  | .int i, some (some (.int j _)) => decide (i = j)
  | .str s, some (some (.str t _)) => decide (s = t)
  | .bl b, some (some (.bool c)) => decide (b = c)
  | .non, some (some .none) => true
  | _, _ => false
def clsB (K : PySem.W.Frag) (C : Addr) : Bool := PySem.W.plainGet K C Str.empty && PySem.W.hasDictIn K C && PySem.W.plainOver K C && eqV (PySem.W.findIn K (.ref C) "__setattr__") (some (some (.builtin "object.__setattr__")))
theorem clsB_ok {K : PySem.W.Frag} {C : Addr} (h : clsB K C = true) : Cls K C := by
  unfold clsB at h
  obtain ⟨h1, h4⟩ := and2 h
  obtain ⟨h1, h3⟩ := and2 h1
  obtain ⟨h1, h2⟩ := and2 h1
  exact ⟨h1, h2, h3, dec h4⟩
def keyB (P : Pg) (prims : List Str) (key : Str) : Bool := decide (key ∈ prims) || (match P.defs.find? (fun d => d.key == key) with
  | some d => !d.init
  | none => false)
def attB (P : Pg) (prims : List Str) (loc : Str → Loc) (K : PySem.W.Frag) (c m : Str) (q : Ma) : Bool :=
  let C := He.ga K c
  clsB K C && PySem.W.selfFirst K C && decide (PySem.W.mroIn K C (.type "object") = some true) && (match q with
    | .meth key => let a := locAd K (loc key)
      eqV (PySem.W.findIn K (.ref C) m) (some (some (.ref a))) && PySem.W.isFn K (.ref a) && PySem.W.keepIn K (.ref a) && keyB P prims key
    | .prop key => let p := He.ma K C m
      eqV (PySem.W.findIn K (.ref C) m) (some (some (.ref p))) && eqV (PySem.W.specialIn K (.ref p) "__get__") (some (some (.builtin "property.__get__"))) && decide (PySem.W.takesIn K (.ref p) = some true) &&
        (match PySem.W.recIn K p "property" with
          | some (v :: _) => decide (v = .ref (locAd K (loc key)))
          | _ => false) && keyB P prims key
    | .stat key => let p := statOf K C m
      gloB K c && decide (PySem.W.typeIn K (.ref C) = some (.type "type")) && PySem.W.readsIn K C (.type "type") && (match PySem.W.findCls K (.ref C) (.type "type") m with
        | some (.get x y z u) => decide (x = .builtin "staticmethod.__get__") && decide (y = .ref p) && decide (z = .none) && decide (u = .ref C)
        | _ => false) && (match PySem.W.recIn K p "staticmethod" with
          | some (v :: _) => decide (v = .ref (locAd K (loc key)))
          | _ => false) && eqV (PySem.W.specialIn K (.ref C) "__getattribute__") (some (some (.builtin "type.__getattribute__"))) && PySem.W.keepIn K (.ref (locAd K (loc key))) && keyB P prims key
    | .fld => eqV (PySem.W.findIn K (.ref C) m) (some none)) && (if m = "__eq__" then eqV (PySem.W.findIn K (.ref C) "__ne__") (some (some (.builtin "object.__ne__"))) else true)
def newB (P : Pg) (prims : List Str) (loc : Str → Loc) (K : PySem.W.Frag) (c : Str) : Bool :=
  let C := He.ga K c
  let a := locAd K (loc c)
  gloB K c && PySem.W.makesIn K C && eqV (PySem.W.findIn K (.ref C) "__init__") (some (some (.ref a))) && PySem.W.isFn K (.ref a) && PySem.W.keepIn K (.ref C) && !decide (c ∈ prims) && (match P.defs.find? (fun d => d.key == c) with
    | some d => d.init
    | none => false)
def iscB (K : PySem.W.Frag) (t : Str) : Bool := gloB K t && (PySem.W.clsIn K (He.ga K t)).isSome && decide (PySem.W.typeIn K (.ref (He.ga K t)) = some (.type "type"))
def mroB (P : Pg) (K : PySem.W.Frag) (c : Str) (l : List Str) : Bool :=
  let C := He.ga K c
  clsB K C && eqV (PySem.W.findIn K (.ref C) "__class__") (some (some (.builtin "object.__class__"))) && eqV (PySem.W.specialIn K (.builtin "object.__class__") "__get__") (some (some (.builtin "getset_descriptor.__get__"))) &&
    decide (PySem.W.takesIn K (.builtin "object.__class__") = some true) && decide (PySem.W.mroIn K C (.type "object") = some true) && P.isc.all (fun t => decide (PySem.W.kitOne K (.ref C) (.ref (He.ga K t)) = some (l.contains t))) &&
    (["ValueError", "LookupError", "IndexError", "int", "bool", "str", "list", "tuple"] : List String).all fun n => decide (PySem.W.kitOne K (.ref C) (.type n) = some false)
def txtB (P : Pg) (prims : List Str) (loc : Str → Loc) (K : PySem.W.Frag) : Bool :=
  bltNames.all (fun x => eqV (PySem.W.nsIn K mainGlobals x) (some none)) && P.con.all (fun q => conB K q.1 q.2) && P.fns.all (fun f => gloB K f && decide (loc f = .glo f) && PySem.W.keepIn K (.ref (locAd K (loc f))) && keyB P prims f) &&
    P.cls.all (newB P prims loc K) && P.att.all (fun q => attB P prims loc K q.1.1 q.1.2 q.2) && P.isc.all (iscB K) && P.mro.all (fun q => mroB P K q.1 q.2) && P.exs.all (fun q => errB P.file P K q.1 q.2)
/-- a def in both forms -/
def pairB (P : Pg) (loc : Str → Loc) (q : Def × DefE) : Bool :=
  decide (loc q.1.key = q.2.loc) && decide (q.2.args.map (·.arg) = q.1.ps) && decide q.1.ps.Nodup && (match q.2.scope.kind with
    | .function => true
    | _ => false) && !q.2.scope.isCoroutine && !q.2.scope.isGenerator && decide q.1.N.Nodup && decide (q.1.N.take q.1.ps.length = q.1.ps) && (q.1.ps.all fun x => decide (q.2.scope.names.lookup x = some .local) || decide (q.2.scope.names.lookup x = some .cell)) &&
    (q.2.scope.names.all fun y => decide (y.2 ≠ .free)) && mSs P ⟨q.1.N, q.2.scope, wrOf q.2.scope⟩ q.1.init q.1.body q.2.body
theorem lookup_in {α β : Type} [BEq α] [LawfulBEq α] {a : α} {b : β} : ∀ {l : List (α × β)}, l.lookup a = some b → (a, b) ∈ l
  | [], h => by cases h
  | (x, y) :: l, h => by
    rw [List.lookup_cons] at h
    cases e : a == x with
    | true =>
      rw [e] at h
      have : a = x := eq_of_beq e
      subst this
      cases h
      exact List.mem_cons_self
    | false =>
      rw [e] at h
      exact List.mem_cons_of_mem _ (lookup_in h)
section
variable {P : Pg} {prims : List Str} {prim : Str → Option (List D → M D)} {loc : Str → Loc} {K : PySem.W.Frag} {h : Heap} {mg : Str → Option Value}
theorem keyB_ok (hp : ∀ key, key ∈ prims → ∃ f, prim key = some f) {key : Str} (h : keyB P prims key = true) : IsKey P prim key := by
  unfold keyB at h
  rcases Bool.or_eq_true_iff.mp h with h | h
  · exact .inl (hp _ (dec h))
  · split at h
    · rename_i d hd
      exact .inr ⟨d, hd, by simpa using h⟩
    · cases h
theorem gloB_ok (X : K.In h) (G : h.Ns mainGlobals mg) {x : Str} (c : gloB K x = true) : mg x = some (.ref (He.ga K x)) := PySem.W.mg_of X G (dec c)
theorem conB_ok (tx : Tx) (X : K.In h) (G : h.Ns mainGlobals mg) {x : Str} {d : D} (c : conB K x d = true) : ∃ v u, mg x = some u ∧ RelV v u ∧ ∀ H B G, Rep tx H B G d v [] := by
  unfold conB at c
  split at c
  · rename_i i j t e
    have := dec c
    subst this
    exact ⟨.int i, _, PySem.W.mg_of X G e, ⟨t, rfl⟩, repInt _⟩
  · rename_i i j t e
    have := dec c
    subst this
    exact ⟨.str i, _, PySem.W.mg_of X G e, ⟨t, rfl⟩, repStr _⟩
  · rename_i i j e
    have := dec c
    subst this
    exact ⟨.bl i, _, PySem.W.mg_of X G e, rfl, repBl _⟩
  · rename_i e
    exact ⟨.non, _, PySem.W.mg_of X G e, rfl, repNon⟩
  · cases c
/-- the text's facts -/
theorem txt_of {tx : Tx} {prog : Program} {w : World} {base : Heap} {kp : Nat} (X : K.In h) (G : h.Ns mainGlobals mg) (hK : tx.K = K) (hca : tx.ca = He.ga K) {fn : List DefE} {ex : PySem.W.Frag → Bool} (c : obsE fn ex K = valE fn) (hx : ex K = true → txtB P prims loc K = true)
    (pairs : List (Def × DefE)) (hp1 : pairs.map (·.1) = P.defs) (hp2 : ∀ q ∈ pairs, q.2 ∈ fn) (hp3 : pairs.all (pairB P loc) = true) (hn : ∀ c, P.at c "" = none) (he : P.exs = [] ∨ (P.file = prog.main.file ∧ (prog.main.scope.names.lookup ("super" : Str)).isSome = false))
    (hp : ∀ key, key ∈ prims → ∃ f, prim key = some f) (hpn : ∀ key, key ∉ prims → prim key = none)
    (hprim : ∀ key f, prim key = some f → ∃ fd ps, FnOk prog w tx.K mg base (L2.CX prog w) kp (locAd K (loc key)) fd ps (spK tx f) ∧ L2.Binds tx.K fd ps [] ∧
      ∀ (s : Shared) (x z : Str) (u w : Value), P.par key = [x, z] → tx.K.In s.heap → ps = [x, z] ∧ BindsTo s fd ⟨[u], [(z, w)]⟩ [(x, u), (z, w)]) :
    Txt tx prog w mg base P prim kp (fun key => locAd K (loc key)) := by
  have t := hx (says_ex c)
  unfold txtB at t
  obtain ⟨t, t8⟩ := and2 t
  obtain ⟨t1, t7⟩ := and2 t
  obtain ⟨t1, t6⟩ := and2 t1
  obtain ⟨t1, t5⟩ := and2 t1
  obtain ⟨t1, t4⟩ := and2 t1
  obtain ⟨t1, t3⟩ := and2 t1
  obtain ⟨t1, t2⟩ := and2 t1
  subst hK
  refine ⟨fun x hx => ?_, fun x d hd => ?_, fun d hd => ?_, fun f hf => ?_, fun c hc => ?_, fun c m q hq => ?_, fun t ht => ?_, fun c l hl => ?_, fun c q hq => ?_, hn, fun c x hx => ?_, hprim⟩
  · exact PySem.W.mg_none_of X G (dec (List.all_eq_true.mp t1 x hx))
  · exact conB_ok tx X G (List.all_eq_true.mp t2 (x, d) (lookup_in hd))
  · rw [← hp1] at hd
    obtain ⟨q, hq, rfl⟩ := List.mem_map.mp hd
    obtain ⟨fd, F⟩ := says_def c (d := q.2) (hp2 q hq)
    have b := List.all_eq_true.mp hp3 q hq
    unfold pairB at b
    obtain ⟨b1, b11⟩ := and2 b
    obtain ⟨b1, b10⟩ := and2 b1
    obtain ⟨b1, b9⟩ := and2 b1
    obtain ⟨b1, b8⟩ := and2 b1
    obtain ⟨b1, b7⟩ := and2 b1
    obtain ⟨b1, b6⟩ := and2 b1
    obtain ⟨b1, b5⟩ := and2 b1
    obtain ⟨b1, b4⟩ := and2 b1
    obtain ⟨b1, b3⟩ := and2 b1
    obtain ⟨b1, b2⟩ := and2 b1
    have e1 := dec b1
    have e2 := dec b2
    have e3 := dec b3
    refine ⟨⟨_, _, _, _, _, fd, by rw [e1]; exact F, FunD.bindsN F fun kV doc pm an cdv ct us hl => ?_, fun s x z u w hps _ => ?_, ⟨?_, by simpa using b5, by simpa using b6, dec b7, dec b8, fun x hx => ?_, fun y hy => ?_⟩, b11⟩⟩
    · have := bind_plain (x := q.2.name) (qual := q.2.qual) (body := q.2.body) (scope := q.2.scope) (kV := kV) (doc := doc) (pm := pm) (cdv := cdv) (ct := ct) (an := an) (as := q.2.args) (by rw [e2]; exact e3) us (by rw [e2]; exact hl)
      rw [e2] at this
      exact this
    · obtain ⟨oc, od, dV, kV, doc, pm, an, cdv, ct, osl, rfl, lk, hcd, hD, hKw⟩ := F.ex
      rcases hD with ⟨_, rfl⟩ | ⟨e, _⟩
      · refine .of_eq (bind_kw2 (e2.trans hps) ?_ u w)
        rw [hps] at e3
        intro z
        subst z
        simp at e3
      · exact absurd rfl e
    · split at b4
      · assumption
      · cases b4
    · rcases Bool.or_eq_true_iff.mp (List.all_eq_true.mp b9 x hx) with z | z
      · exact .inl (dec z)
      · exact .inr (dec z)
    · exact dec (List.all_eq_true.mp b10 y hy)
  · have b := List.all_eq_true.mp t3 f hf
    obtain ⟨b1, b4⟩ := and2 b
    obtain ⟨b1, b3⟩ := and2 b1
    obtain ⟨b1, b2⟩ := and2 b1
    refine ⟨?_, b3, keyB_ok hp b4⟩
    show mg f = some (.ref (locAd tx.K (loc f)))
    rw [dec b2]
    exact gloB_ok X G b1
  · have b := List.all_eq_true.mp t4 c hc
    unfold newB at b
    obtain ⟨b1, b7⟩ := and2 b
    obtain ⟨b1, b6⟩ := and2 b1
    obtain ⟨b1, b5⟩ := and2 b1
    obtain ⟨b1, b4⟩ := and2 b1
    obtain ⟨b1, b3⟩ := and2 b1
    obtain ⟨b1, b2⟩ := and2 b1
    rw [hca]
    refine ⟨gloB_ok X G b1, ⟨b2, dec b3, b4, b5⟩, hpn _ (by simpa using b6), ?_⟩
    split at b7
    · rename_i d hd
      exact ⟨d, hd, b7⟩
    · cases b7
  · have b := List.all_eq_true.mp t5 ((c, m), q) (lookup_in hq)
    unfold attB at b
    obtain ⟨b1, b5⟩ := and2 b
    obtain ⟨b1, b4⟩ := and2 b1
    obtain ⟨b1, b3⟩ := and2 b1
    obtain ⟨b1, b2⟩ := and2 b1
    rw [hca]
    refine ⟨⟨clsB_ok b1, b2, dec b3⟩, ?_⟩
    cases q with
    | meth key =>
      obtain ⟨d1, d4⟩ := and2 b4
      obtain ⟨d1, d3⟩ := and2 d1
      obtain ⟨d1, d2⟩ := and2 d1
      exact ⟨⟨dec d1, d2, d3⟩, keyB_ok hp d4⟩
    | prop key =>
      obtain ⟨d1, d5⟩ := and2 b4
      obtain ⟨d1, d4⟩ := and2 d1
      obtain ⟨d1, d3⟩ := and2 d1
      obtain ⟨d1, d2⟩ := and2 d1
      refine ⟨⟨He.ma tx.K (He.ga tx.K c) m, dec d1, dec d2, dec d3, ?_⟩, keyB_ok hp d5⟩
      dsimp only at d4
      split at d4
      · rename_i v rest hr
        have := dec d4
        subst this
        exact ⟨rest, hr⟩
      · cases d4
    | stat key =>
      obtain ⟨d1, d8⟩ := and2 b4
      obtain ⟨d1, d7⟩ := and2 d1
      obtain ⟨d1, d6⟩ := and2 d1
      obtain ⟨d1, d5⟩ := and2 d1
      obtain ⟨d1, d4⟩ := and2 d1
      obtain ⟨d1, d3⟩ := and2 d1
      obtain ⟨d1, d2⟩ := and2 d1
      dsimp only at d4 d5
      split at d5
      · rename_i v rest hr
        have := dec d5
        subst this
        split at d4
        · rename_i x y z u hf
          obtain ⟨f1, f4⟩ := and2 d4
          obtain ⟨f1, f3⟩ := and2 f1
          obtain ⟨f1, f2⟩ := and2 f1
          have f1 := dec f1
          have f2 := dec f2
          have f3 := dec f3
          have f4 := dec f4
          subst f1 f2 f3 f4
          exact ⟨⟨.type "type", _, rest, gloB_ok X G d1, dec d2, d3, hf, hr, dec d6, d7⟩, keyB_ok hp d8⟩
        · cases d4
      · cases d5
    | fld =>
      have e : PySem.W.findIn tx.K (.ref (He.ga tx.K c)) m = some none := of_decide_eq_true b4
      exact e
  · have b := List.all_eq_true.mp t6 t ht
    unfold iscB at b
    obtain ⟨b1, b3⟩ := and2 b
    obtain ⟨b1, b2⟩ := and2 b1
    rw [hca]
    exact ⟨gloB_ok X G b1, b2, dec b3⟩
  · have b := List.all_eq_true.mp t7 (c, l) (lookup_in hl)
    unfold mroB at b
    obtain ⟨b1, b7⟩ := and2 b
    obtain ⟨b1, b6⟩ := and2 b1
    obtain ⟨b1, b5⟩ := and2 b1
    obtain ⟨b1, b4⟩ := and2 b1
    obtain ⟨b1, b3⟩ := and2 b1
    obtain ⟨b1, b2⟩ := and2 b1
    rw [hca]
    refine ⟨⟨clsB_ok b1, dec b2, dec b3, dec b4, dec b5⟩, fun t ht => dec (List.all_eq_true.mp b6 t ht), fun t n ht => dec (List.all_eq_true.mp b7 n ?_)⟩
    unfold tyS at ht
    repeat' split at ht
    all_goals (first | (cases ht; simp) | cases ht)
  · have b := List.all_eq_true.mp t5 ((c, "__eq__"), q) (lookup_in hq)
    unfold attB at b
    obtain ⟨b1, b5⟩ := and2 b
    rw [hca]
    dsimp only at b5
    rw [if_pos rfl] at b5
    exact dec b5
  · rcases he with he | ⟨h1, h2⟩
    · rw [he] at hx; cases hx
    · have b := List.all_eq_true.mp t8 (c, x) (lookup_in hx)
      rw [h1] at b
      exact errB_ok hca X G (PySem.W.mg_none_of X G (dec (List.all_eq_true.mp t1 "super" (by decide)))) h2 b
end
end TI

set_option Elab.async false
set_option linter.all false
set_option maxRecDepth 100000
/-! the plain law: the compact form evaluated on letters -/
namespace TI.TL
open PySem PySem.Spec PyProof.Rows L2

theorem nr {α : Type} {a b : α} (h : a = b) : a = b := h
theorem bnd_congr {α β : Type} {m m' : M α} (h : m = m') (f : α → M β) : bnd m f = bnd m' f := by rw [h]
theorem ret_bnd {α β : Type} (a : α) (f : α → M β) : bnd (ret a) f = f a := nr rfl
theorem fail_bnd {α β : Type} (f : α → M β) : bnd fail f = fail := nr rfl
theorem bnd_assoc {α β γ : Type} (m : M α) (f : α → M β) (g : β → M γ) : bnd (bnd m f) g = bnd m fun a => bnd (f a) g := by
  funext b
  unfold bnd
  cases m b with
  | none => rfl
  | some p => rfl
theorem opt_s {α : Type} (a : α) : opt (some a) = ret a := nr rfl
theorem opt_n {α : Type} : (opt none : M α) = fail := nr rfl
theorem bnd_ite {α β : Type} {c : Prop} [Decidable c] (m m' : M α) (f : α → M β) : bnd (if c then m else m') f = if c then bnd m f else bnd m' f := by split <;> rfl

/-! ### what an expression reads -/
/-- two namings alike at the names S -/
def Ag (S : List Nat) (env env' : Env) : Prop := env.length = env'.length ∧ ∀ i ∈ S, env[i]? = env'[i]?
theorem Ag.sub {S T : List Nat} {env env' : Env} (h : Ag S env env') (hs : ∀ i ∈ T, i ∈ S) : Ag T env env' := ⟨h.1, fun i hi => h.2 i (hs i hi)⟩
theorem Ag.left {S T : List Nat} {env env' : Env} (h : Ag (S ++ T) env env') : Ag S env env' := h.sub fun i hi => List.mem_append_left _ hi
theorem Ag.right {S T : List Nat} {env env' : Env} (h : Ag (S ++ T) env env') : Ag T env env' := h.sub fun i hi => List.mem_append_right _ hi
theorem Ag.set {S : List Nat} {env env' : Env} (h : Ag S env env') (i : Nat) (d : Option D) : Ag S (env.set i d) (env'.set i d) := by
  refine ⟨by simp [h.1], fun j hj => ?_⟩
  rw [List.getElem?_set, List.getElem?_set, h.1, h.2 j hj]
theorem Ag.wipe {S : List Nat} {env env' : Env} (h : Ag S env env') : ∀ vs, Ag S (wipeE env vs) (wipeE env' vs)
  | [] => h
  | v :: vs => (Ag.wipe h vs).set v none
theorem Ag.sets {S : List Nat} : ∀ {is : List Nat} {ds : List D} {env env' : Env}, Ag S env env' → (setsE is ds env = none ∧ setsE is ds env' = none) ∨ ∃ e e', setsE is ds env = some e ∧ setsE is ds env' = some e' ∧ Ag S e e'
  | [], [], env, env', h => .inr ⟨env, env', rfl, rfl, h⟩
  | i :: is, d :: ds, env, env', h => Ag.sets (is := is) (ds := ds) (h.set i (some d))
  | [], _ :: _, _, _, _ => .inl ⟨rfl, rfl⟩
  | _ :: _, [], _, _, _ => .inl ⟨rfl, rfl⟩
theorem Ag.tg {S : List Nat} {tg : ITg} {d : D} {env env' : Env} (h : Ag S env env') : (tgE tg d env = none ∧ tgE tg d env' = none) ∨ ∃ e e', tgE tg d env = some e ∧ tgE tg d env' = some e' ∧ Ag S e e' := by
  cases tg with
  | name i => exact .inr ⟨_, _, rfl, rfl, h.set i (some d)⟩
  | tup is =>
    cases d with
    | tup f ds => exact Ag.sets (is := is) (ds := ds) h
    | non => exact .inl ⟨rfl, rfl⟩
    | bl b => exact .inl ⟨rfl, rfl⟩
    | int b => exact .inl ⟨rfl, rfl⟩
    | str b => exact .inl ⟨rfl, rfl⟩
    | lst f b => exact .inl ⟨rfl, rfl⟩
    | ins f c ns b => exact .inl ⟨rfl, rfl⟩
    | exc f c ns b => exact .inl ⟨rfl, rfl⟩
    | bag => exact .inl ⟨rfl, rfl⟩
section
variable (P : Pg) (cl : Str → List D → M D)
def SmEq (s : Sm) (env env' : Env) : Prop := s.v env = s.v env' ∧ s.t env = s.t env' ∧ s.p env = s.p env' ∧ s.i env = s.i env'
theorem smOf {v : Env → M D} {env env' : Env} (h : v env = v env') : SmEq (.of P cl v) env env' := by
  refine ⟨h, ?_, ?_, ?_⟩ <;> simp only [Sm.of, h]
variable {P cl}
theorem turn_ag {α : Type} {S : List Nat} {tg : ITg} {env env' : Env} {d : D} {k k' : Env → M (Option α)} (h : Ag S env env') (hk : ∀ e e', Ag S e e' → k e = k' e') :
    bnd (opt (tgE tg d (wipeE env tg.ix))) k = bnd (opt (tgE tg d (wipeE env' tg.ix))) k' := by
  rcases (h.wipe tg.ix).tg (tg := tg) (d := d) with ⟨e1, e2⟩ | ⟨e, e', e1, e2, a⟩
  · rw [e1, e2]
    rfl
  · rw [e1, e2]
    exact hk e e' a
theorem turn_agL {α : Type} {S : List Nat} {tg : ITg} {env env' : Env} {vs : List Nat} {d : D} {k k' : Env → M α} (h : Ag S env env') (hk : ∀ e e', Ag S e e' → k e = k' e') :
    bnd (opt (tgE tg d (wipeE env vs))) k = bnd (opt (tgE tg d (wipeE env' vs))) k' := by
  rcases (h.wipe vs).tg (tg := tg) (d := d) with ⟨e1, e2⟩ | ⟨e, e', e1, e2, a⟩
  · rw [e1, e2]
    rfl
  · rw [e1, e2]
    exact hk e e' a
mutual
theorem ev_ag : ∀ (e : IE) {env env' : Env}, Ag e.vars env env' → SmEq (evA P cl e) env env'
  | .var i, env, env', h => smOf P cl (by rw [h.2 i List.mem_cons_self])
  | .int _, _, _, _ => smOf P cl rfl
  | .str _, _, _, _ => smOf P cl rfl
  | .bl _, _, _, _ => smOf P cl rfl
  | .non, _, _, _ => smOf P cl rfl
  | .glo _, _, _, _ => smOf P cl rfl
  | .bin op a b, env, env', h => smOf P cl (by rw [(ev_ag a h.left).1, (ev_ag b h.right).1])
  | .neg a, env, env', h => smOf P cl (by rw [(ev_ag a h).1])
  | .not a, env, env', h => by
    have q := ev_ag a h
    refine ⟨?_, ?_, ?_, ?_⟩ <;> simp only [evA, Sm.of, q.1, q.2.1]
  | .bop op a b, env, env', h => by
    have q := ev_ag a h.left
    have r := ev_ag b h.right
    refine ⟨?_, ?_, ?_, ?_⟩ <;> simp only [evA, Sm.of, q.1, q.2.1, r.1, r.2.1]
  | .ife c a b, env, env', h => by
    have p := ev_ag c h.left.left
    have q := ev_ag a h.left.right
    have r := ev_ag b h.right
    refine ⟨?_, ?_, ?_, ?_⟩ <;> simp only [evA, Sm.of, p.2.1, q.1, q.2.1, r.1, r.2.1]
  | .cmp op a b, env, env', h => smOf P cl (by rw [(ev_ag a h.left).1, (ev_ag b h.right).1])
  | .cmp2 op op2 a b c, env, env', h => smOf P cl (by rw [(ev_ag a h.left.left).1, (ev_ag b h.left.right).1, (ev_ag c h.right).1])
  | .call f as, env, env', h => smOf P cl (by rw [evs_ag as h])
  | .exc c as, env, env', h => smOf P cl (by rw [evs_ag as h])
  | .exck c z a, env, env', h => smOf P cl (by rw [(ev_ag a h).1])
  | .scall c m as, env, env', h => smOf P cl (by rw [evs_ag as h])
  | .meth o m as, env, env', h => smOf P cl (by rw [(ev_ag o h.left).1, evs_ag as h.right])
  | .methk o m k a, env, env', h => smOf P cl (by rw [(ev_ag o h.left).1, (ev_ag a h.right).1])
  | .attr o f, env, env', h => smOf P cl (by rw [(ev_ag o h).1])
  | .blt f as, env, env', h => smOf P cl (by rw [evs_ag as h])
  | .isi e ts, env, env', h => smOf P cl (by rw [(ev_ag e h).1])
  | .lst as, env, env', h => smOf P cl (by rw [evs_ag as h])
  | .tup as, env, env', h => smOf P cl (by rw [evs_ag as h])
  | .idx a i, env, env', h => smOf P cl (by rw [(ev_ag a h.left).1, (ev_ag i h.right).1])
  | .sl a lo hi, env, env', h => smOf P cl (by rw [(ev_ag a h.left.left).1, (ev_ag lo h.left.right).2.2.1, (ev_ag hi h.right).2.2.1])
  | .bget x i, env, env', h => smOf P cl (by unfold bgetM; rw [h.2 x List.mem_cons_self])
  | .bcell x e, env, env', h => smOf P cl (by
    have q := ev_ag e (h.sub fun i hi => List.mem_cons_of_mem _ hi)
    rw [q.1]
    congr 1
    funext d
    unfold bcellM
    rw [h.2 x List.mem_cons_self])
  | .blen x, env, env', h => smOf P cl (by unfold blenM; rw [h.2 x List.mem_cons_self])
  | .nopart, _, _, _ => ⟨rfl, rfl, rfl, rfl⟩
  | .part a, env, env', h => ⟨rfl, rfl, by simp only [evA]; rw [(ev_ag a h).1], rfl⟩
  | .lc tg it elt, env, env', h => smOf P cl (by
    rw [(ev_ag it h.left).2.2.2]
    congr 1
    funext xs
    congr 2
    funext d
    exact turn_ag h.right fun e e' a => by rw [(ev_ag elt a).1])
  | .lcif tg it c elt, env, env', h => smOf P cl (by
    rw [(ev_ag it h.left.left).2.2.2]
    congr 1
    funext xs
    congr 2
    funext d
    refine turn_ag (S := c.vars ++ elt.vars) ⟨h.1, fun i hi => ?_⟩ fun e e' a => by rw [(ev_ag c a.left).2.1, (ev_ag elt a.right).1]
    rcases List.mem_append.mp hi with z | z
    · exact h.2 i (List.mem_append_left _ (List.mem_append_right _ z))
    · exact h.2 i (List.mem_append_right _ z))
  | .lc2 tg it tg2 it2 elt, env, env', h => smOf P cl (by
    rw [(ev_ag it h.left.left).2.2.2]
    congr 1
    funext xs
    congr 2
    funext d
    refine turn_agL (S := it2.vars ++ elt.vars) ⟨h.1, fun i hi => ?_⟩ fun e e' a => ?_
    · rcases List.mem_append.mp hi with z | z
      · exact h.2 i (List.mem_append_left _ (List.mem_append_right _ z))
      · exact h.2 i (List.mem_append_right _ z)
    · rw [(ev_ag it2 a.left).2.2.2]
      congr 1
      funext zs
      congr 1
      funext d2
      exact turn_ag a.right fun e e' a => by rw [(ev_ag elt a).1])
  | .seq a, env, env', h => ⟨rfl, rfl, rfl, by simp only [evA]; rw [(ev_ag a h).1]⟩
  | .range1 a, env, env', h => ⟨rfl, rfl, rfl, by simp only [evA]; rw [(ev_ag a h).1]⟩
  | .range2 a b, env, env', h => ⟨rfl, rfl, rfl, by simp only [evA]; rw [(ev_ag a h.left).1, (ev_ag b h.right).1]⟩
  | .zip a b, env, env', h => ⟨rfl, rfl, rfl, by simp only [evA]; rw [(ev_ag a h.left).1, (ev_ag b h.right).1]⟩
  | .enum a, env, env', h => ⟨rfl, rfl, rfl, by simp only [evA]; rw [(ev_ag a h).1]⟩
theorem evs_ag : ∀ (es : IEs) {env env' : Env}, Ag es.vars env env' → evs P cl es env = evs P cl es env'
  | .nil, _, _, _ => rfl
  | .cons e es, env, env', h => by
    simp only [evs]
    rw [(ev_ag e h.left).1, evs_ag es h.right]
end
theorem only_len (S : List Nat) : ∀ (env : Env) (i : Nat), (only S i env).length = env.length
  | [], _ => rfl
  | x :: r, i => by simp only [only, List.length_cons, only_len S r]
theorem only_get (S : List Nat) : ∀ (env : Env) (i j : Nat), i + j ∈ S → (only S i env)[j]? = env[j]?
  | [], _, _, _ => rfl
  | x :: r, i, 0, h => by
    simp only [only, List.getElem?_cons_zero]
    rw [if_pos (by simpa using h)]
  | x :: r, i, j + 1, h => by
    simp only [only, List.getElem?_cons_succ]
    exact only_get S r (i + 1) j (by rw [Nat.add_assoc, Nat.add_comm 1 j]; exact h)
theorem only_ag (S : List Nat) (env : Env) : Ag S (only S 0 env) env := ⟨only_len S env 0, fun i hi => only_get S env 0 i (by simpa using hi)⟩
theorem v_only (e : IE) (env : Env) : (evA P cl e).v (only e.vars 0 env) = (evA P cl e).v env := (ev_ag e (only_ag _ env)).1
theorem i_only (e : IE) (env : Env) : (evA P cl e).i (only e.vars 0 env) = (evA P cl e).i env := (ev_ag e (only_ag _ env)).2.2.2
theorem evs_only (es : IEs) (env : Env) : evs P cl es (only es.vars 0 env) = evs P cl es env := evs_ag es (only_ag _ env)
end

/-! ### one step each -/
def gV : Env → Nat → M D
  | some d :: _, 0 => ret d.bw
  | _ :: r, i + 1 => gV r i
  | _, _ => fail
theorem gV_eq : ∀ (env : Env) (i : Nat), opt ((env[i]?).join.map D.bw) = gV env i
  | [], i => by simp [gV, opt_n]
  | some d :: r, 0 => rfl
  | none :: r, 0 => rfl
  | x :: r, i + 1 => by rw [List.getElem?_cons_succ]; rw [gV_eq r i]; cases x <;> rfl
theorem gV_0 (d : D) (r : Env) : gV (some d :: r) 0 = ret d.bw := nr rfl
theorem gV_s (x : Option D) (r : Env) (i : Nat) : gV (x :: r) (i + 1) = gV r i := by cases x <;> rfl
section
variable (P : Pg) (cl : Str → List D → M D) (env : Env)
theorem v_var (i : Nat) : (evA P cl (.var i)).v env = gV env i := gV_eq env i
theorem v_int (i : Int) : (evA P cl (.int i)).v env = ret (.int i) := nr rfl
theorem v_str (i : Str) : (evA P cl (.str i)).v env = ret (.str i) := nr rfl
theorem v_bl (i : Bool) : (evA P cl (.bl i)).v env = ret (.bl i) := nr rfl
theorem v_non : (evA P cl .non).v env = ret .non := nr rfl
theorem v_glo (x : Str) : (evA P cl (.glo x)).v env = opt (P.con.lookup x) := nr rfl
theorem v_bin (op : Operator) (a b : IE) : (evA P cl (.bin op a b)).v env = bnd ((evA P cl a).v env) fun x => bnd ((evA P cl b).v env) fun y => binM P cl op x y := nr rfl
theorem v_neg (a : IE) : (evA P cl (.neg a)).v env = bnd ((evA P cl a).v env) negM := nr rfl
theorem v_not (a : IE) : (evA P cl (.not a)).v env = bnd (bnd ((evA P cl a).v env) (truM P cl)) fun k => ret (.bl (!k)) := nr rfl
theorem v_bop (op : BoolOp) (a b : IE) : (evA P cl (.bop op a b)).v env = bnd ((evA P cl a).v env) fun x => bopM op x ((evA P cl b).v env) := nr rfl
theorem v_ife (c a b : IE) : (evA P cl (.ife c a b)).v env = bnd ((evA P cl c).t env) fun k => if k = true then (evA P cl a).v env else (evA P cl b).v env := nr rfl
theorem v_cmp (op : CmpOp) (a b : IE) : (evA P cl (.cmp op a b)).v env = bnd ((evA P cl a).v env) fun x => bnd ((evA P cl b).v env) fun y => cmpM P cl op x y := nr rfl
theorem v_cmp2 (op op2 : CmpOp) (a b c : IE) : (evA P cl (.cmp2 op op2 a b c)).v env = bnd ((evA P cl a).v env) fun x => bnd ((evA P cl b).v env) fun y => bnd (opt (cmpI op x y)) fun k =>
      if k = true then bnd ((evA P cl c).v env) fun z => bnd (opt (cmpI op2 y z)) fun k2 => ret (.bl k2) else ret (.bl false) := nr rfl
theorem v_call (f : Str) (as : IEs) : (evA P cl (.call f as)).v env = bnd (evs P cl as env) fun ds => app cl f ds := nr rfl
theorem v_scall (c m : Str) (as : IEs) : (evA P cl (.scall c m as)).v env = bnd (evs P cl as env) fun ds => match P.at c m with
    | some (.stat key) => app cl key ds
    | _ => fail := nr rfl
theorem v_meth (o : IE) (m : Str) (as : IEs) : (evA P cl (.meth o m as)).v env = bnd ((evA P cl o).v env) fun x => methM P cl x m (evs P cl as env) := nr rfl
theorem v_methk (o : IE) (m k : Str) (a : IE) : (evA P cl (.methk o m k a)).v env = bnd ((evA P cl o).v env) fun x => methK P cl x m k ((evA P cl a).v env) := nr rfl
theorem v_attr (o : IE) (f : Str) : (evA P cl (.attr o f)).v env = bnd ((evA P cl o).v env) fun x => attrM P cl x f := nr rfl
theorem v_blt (f : Str) (as : IEs) : (evA P cl (.blt f as)).v env = bnd (evs P cl as env) fun ds => bltM P cl f ds := nr rfl
theorem v_isi (e : IE) (ts : List Str) : (evA P cl (.isi e ts)).v env = bnd ((evA P cl e).v env) fun x => bnd (opt (isiA P x ts)) fun k => ret (.bl k) := nr rfl
theorem v_lst (as : IEs) : (evA P cl (.lst as)).v env = seqM .lst (evs P cl as env) := nr rfl
theorem v_tup (as : IEs) : (evA P cl (.tup as)).v env = seqM .tup (evs P cl as env) := nr rfl
theorem v_idx (a i : IE) : (evA P cl (.idx a i)).v env = bnd ((evA P cl a).v env) fun x => bnd ((evA P cl i).v env) fun y => opt (idxD x y) := nr rfl
theorem v_sl (a lo hi : IE) : (evA P cl (.sl a lo hi)).v env = bnd ((evA P cl a).v env) fun x => bnd ((evA P cl lo).p env) fun l => bnd ((evA P cl hi).p env) fun u => opt (slD x l u) := nr rfl
theorem v_bget (x i : Nat) : (evA P cl (.bget x i)).v env = bgetM env x i := nr rfl
theorem v_bcell (x : Nat) (e : IE) : (evA P cl (.bcell x e)).v env = bnd ((evA P cl e).v env) (bcellM env x) := nr rfl
theorem v_blen (x : Nat) : (evA P cl (.blen x)).v env = blenM env x := nr rfl
theorem p_no : (evA P cl .nopart).p env = ret none := nr rfl
theorem p_part (a : IE) : (evA P cl (.part a)).p env = bnd ((evA P cl a).v env) intPart := nr rfl
/-- a comprehension over items -/
def lcM (tg : ITg) (elt : IE) (xs : List D) : M D := seqM .lst (mapO (turnM tg env fun env' => bnd ((evA P cl elt).v env') fun y => ret (some y)) xs)
def lcifM (tg : ITg) (c elt : IE) (xs : List D) : M D := seqM .lst (mapO (turnM tg env fun env' => bnd ((evA P cl c).t env') fun k => if k = true then bnd ((evA P cl elt).v env') fun y => ret (some y) else ret none) xs)
def lc2M (tg : ITg) (tg2 : ITg) (it2 elt : IE) (xs : List D) : M D := seqM .lst (mapL (fun d => bnd (opt (tgE tg d.so (wipeE env (tg.ix ++ tg2.ix)))) fun env' => bnd ((evA P cl it2).i env') fun zs =>
      mapO (turnM tg2 env' fun env2 => bnd ((evA P cl elt).v env2) fun y => ret (some y)) zs) xs)
theorem v_lc (tg : ITg) (it elt : IE) : (evA P cl (.lc tg it elt)).v env = bnd ((evA P cl it).i env) fun xs => lcM P cl env tg elt xs := nr rfl
theorem v_lcif (tg : ITg) (it c elt : IE) : (evA P cl (.lcif tg it c elt)).v env = bnd ((evA P cl it).i env) fun xs => lcifM P cl env tg c elt xs := nr rfl
theorem v_lc2 (tg : ITg) (it : IE) (tg2 : ITg) (it2 elt : IE) : (evA P cl (.lc2 tg it tg2 it2 elt)).v env = bnd ((evA P cl it).i env) fun xs => lc2M P cl env tg tg2 it2 elt xs := nr rfl
theorem i_seq (a : IE) : (evA P cl (.seq a)).i env = bnd ((evA P cl a).v env) fun x => opt (itemsD x) := nr rfl
theorem i_range1 (a : IE) : (evA P cl (.range1 a)).i env = bnd ((evA P cl a).v env) fun x => opt (range1D x) := nr rfl
theorem i_range2 (a b : IE) : (evA P cl (.range2 a b)).i env = bnd ((evA P cl a).v env) fun x => bnd ((evA P cl b).v env) fun y => opt (range2D x y) := nr rfl
theorem i_zip (a b : IE) : (evA P cl (.zip a b)).i env = bnd ((evA P cl a).v env) fun x => bnd ((evA P cl b).v env) fun y => opt (zipD x y) := nr rfl
theorem i_enum (a : IE) : (evA P cl (.enum a)).i env = bnd ((evA P cl a).v env) fun x => opt (enumD x) := nr rfl
theorem evs_nil : evs P cl .nil env = ret [] := nr rfl
theorem evs_cons (e : IE) (es : IEs) : evs P cl (.cons e es) env = bnd ((evA P cl e).v env) fun d => bnd (evs P cl es env) fun ds => ret (d :: ds) := nr rfl
/-! tests -/
theorem t_not (a : IE) : (evA P cl (.not a)).t env = bnd ((evA P cl a).t env) fun k => ret (!k) := nr rfl
theorem t_bop (op : BoolOp) (a b : IE) : (evA P cl (.bop op a b)).t env = bnd ((evA P cl a).t env) fun k => bopT op k ((evA P cl b).t env) := nr rfl
theorem t_ife (c a b : IE) : (evA P cl (.ife c a b)).t env = bnd ((evA P cl c).t env) fun k => if k = true then (evA P cl a).t env else (evA P cl b).t env := nr rfl
theorem t_var (i : Nat) : (evA P cl (.var i)).t env = bnd ((evA P cl (.var i)).v env) (truM P cl) := nr rfl
theorem t_bl (i : Bool) : (evA P cl (.bl i)).t env = bnd ((evA P cl (.bl i)).v env) (truM P cl) := nr rfl
theorem t_cmp (op : CmpOp) (a b : IE) : (evA P cl (.cmp op a b)).t env = bnd ((evA P cl (.cmp op a b)).v env) (truM P cl) := nr rfl
theorem t_cmp2 (op op2 : CmpOp) (a b c : IE) : (evA P cl (.cmp2 op op2 a b c)).t env = bnd ((evA P cl (.cmp2 op op2 a b c)).v env) (truM P cl) := nr rfl
theorem t_call (f : Str) (as : IEs) : (evA P cl (.call f as)).t env = bnd ((evA P cl (.call f as)).v env) (truM P cl) := nr rfl
theorem t_scall (c m : Str) (as : IEs) : (evA P cl (.scall c m as)).t env = bnd ((evA P cl (.scall c m as)).v env) (truM P cl) := nr rfl
theorem t_meth (o : IE) (m : Str) (as : IEs) : (evA P cl (.meth o m as)).t env = bnd ((evA P cl (.meth o m as)).v env) (truM P cl) := nr rfl
theorem t_methk (o : IE) (m k : Str) (a : IE) : (evA P cl (.methk o m k a)).t env = bnd ((evA P cl (.methk o m k a)).v env) (truM P cl) := nr rfl
theorem t_attr (o : IE) (f : Str) : (evA P cl (.attr o f)).t env = bnd ((evA P cl (.attr o f)).v env) (truM P cl) := nr rfl
theorem t_blt (f : Str) (as : IEs) : (evA P cl (.blt f as)).t env = bnd ((evA P cl (.blt f as)).v env) (truM P cl) := nr rfl
theorem t_isi (e : IE) (ts : List Str) : (evA P cl (.isi e ts)).t env = bnd ((evA P cl (.isi e ts)).v env) (truM P cl) := nr rfl
theorem t_lc (tg : ITg) (it elt : IE) : (evA P cl (.lc tg it elt)).t env = bnd ((evA P cl (.lc tg it elt)).v env) (truM P cl) := nr rfl
theorem t_idx (a i : IE) : (evA P cl (.idx a i)).t env = bnd ((evA P cl (.idx a i)).v env) (truM P cl) := nr rfl
theorem t_bin (op : Operator) (a b : IE) : (evA P cl (.bin op a b)).t env = bnd ((evA P cl (.bin op a b)).v env) (truM P cl) := nr rfl
theorem bopT_and_t (t : M Bool) : bopT .And true t = t := nr rfl
theorem bopT_and_f (t : M Bool) : bopT .And false t = ret false := nr rfl
theorem bopT_or_t (t : M Bool) : bopT .Or true t = ret true := nr rfl
theorem bopT_or_f (t : M Bool) : bopT .Or false t = t := nr rfl
theorem bopM_and_t (t : M D) : bopM .And (.bl true) t = t := nr rfl
theorem bopM_and_f (t : M D) : bopM .And (.bl false) t = ret (.bl false) := nr rfl
theorem bopM_or_t (t : M D) : bopM .Or (.bl true) t = ret (.bl true) := nr rfl
theorem bopM_or_f (t : M D) : bopM .Or (.bl false) t = t := nr rfl
theorem tru_bl (b : Bool) : truM P cl (.bl b) = ret b := nr rfl
theorem tru_int (b : Int) : truM P cl (.int b) = ret (b != 0) := nr rfl
theorem tru_lst (f : Fl) (b : List D) : truM P cl (.lst f b) = ret (!b.isEmpty) := nr rfl
theorem tru_tup (f : Fl) (b : List D) : truM P cl (.tup f b) = ret (!b.isEmpty) := nr rfl
theorem neg_int (i : Int) : negM (.int i) = ret (.int (-i)) := nr rfl
theorem part_int (i : Int) : intPart (.int i) = ret (some i) := nr rfl
theorem add_int (i j : Int) : binM P cl .Add (.int i) (.int j) = ret (.int (i + j)) := nr rfl
theorem sub_int (i j : Int) : binM P cl .Sub (.int i) (.int j) = ret (.int (i - j)) := nr rfl
theorem mul_int {i j : Int} (h : mulOk i j = true) : binM P cl .Mult (.int i) (.int j) = ret (.int (i * j)) := by
  simp only [binM, binD, h, if_true]
  rfl
theorem mod_int {i j : Int} (h : 0 < j) : binM P cl .Mod (.int i) (.int j) = ret (.int (i % j)) := by
  simp only [binM, binD, if_pos h]
  rfl
theorem div_int {i j : Int} (h : 0 < j ∧ j.natAbs < 2 ^ 9000) : binM P cl .FloorDiv (.int i) (.int j) = ret (.int (i / j)) := by
  simp only [binM, binD]
  rw [if_pos h]; rfl
theorem pow_int {i j : Int} (h : 0 ≤ j ∧ j ≤ 1000000 ∧ i.natAbs < 2 ^ 64) : binM P cl .Pow (.int i) (.int j) = ret (.int (i ^ j.toNat)) := by
  simp only [binM, binD, if_pos h]
  rfl
theorem add_lst {f g : Fl} {xs ys : List D} (h : xs.length + ys.length ≤ sizeLine) : binM P cl .Add (.lst f xs) (.lst g ys) = ret (.lst .own (xs ++ ys)) := by
  simp only [binM, binD, if_pos h]
  rfl
theorem lt_int (i j : Int) : cmpM P cl .Lt (.int i) (.int j) = ret (.bl (decide (i < j))) := nr rfl
theorem le_int (i j : Int) : cmpM P cl .LtE (.int i) (.int j) = ret (.bl (decide (i ≤ j))) := nr rfl
theorem gt_int (i j : Int) : cmpM P cl .Gt (.int i) (.int j) = ret (.bl (decide (j < i))) := nr rfl
theorem ge_int (i j : Int) : cmpM P cl .GtE (.int i) (.int j) = ret (.bl (decide (j ≤ i))) := nr rfl
theorem eqD_int (i j : Int) : eqD (.int i) (.int j) = some (decide (i = j)) := nr rfl
theorem eqD_bl (i j : Bool) : eqD (.bl i) (.bl j) = some (decide (i = j)) := by cases i <;> cases j <;> rfl
theorem eq_int (i j : Int) : cmpM P cl .Eq (.int i) (.int j) = ret (.bl (decide (i = j))) := by
  simp only [cmpM, cmpD, eqD_int]; rfl
theorem ne_int (i j : Int) : cmpM P cl .NotEq (.int i) (.int j) = ret (.bl (!decide (i = j))) := by
  simp only [cmpM, cmpD, eqD_int]; rfl
theorem eq_bl (i j : Bool) : cmpM P cl .Eq (.bl i) (.bl j) = ret (.bl (decide (i = j))) := by
  simp only [cmpM, cmpD, eqD_bl]; rfl
theorem ne_bl (i j : Bool) : cmpM P cl .NotEq (.bl i) (.bl j) = ret (.bl (!decide (i = j))) := by
  simp only [cmpM, cmpD, eqD_bl]; rfl
theorem cmpI_lt (i j : Int) : cmpI .Lt (.int i) (.int j) = some (decide (i < j)) := nr rfl
theorem cmpI_le (i j : Int) : cmpI .LtE (.int i) (.int j) = some (decide (i ≤ j)) := nr rfl
theorem seq_ret (f : Fl → List D → D) {ds : List D} (h : ds.length ≤ sizeLine) : seqM f (ret ds) = ret (f .own ds) := by
  show (if ds.length ≤ sizeLine then _ else _) = _
  rw [if_pos h]
theorem len_lst (f : Fl) (xs : List D) : bltM P cl "len" [.lst f xs] = ret (.int xs.length) := nr rfl
theorem len_tup (f : Fl) (xs : List D) : bltM P cl "len" [.tup f xs] = ret (.int xs.length) := nr rfl
theorem int_int (i : Int) : bltM P cl "int" [.int i] = ret (.int i) := nr rfl
theorem int_bl (b : Bool) : bltM P cl "int" [.bl b] = ret (.int (if b then 1 else 0)) := nr rfl
theorem list_lst (f : Fl) (xs : List D) : bltM P cl "list" [.lst f xs] = ret (.lst .own xs) := nr rfl
theorem list_tup (f : Fl) (xs : List D) : bltM P cl "list" [.tup f xs] = ret (.lst .own xs) := nr rfl
theorem tuple_lst (f : Fl) (xs : List D) : bltM P cl "tuple" [.lst f xs] = ret (.tup .own xs) := nr rfl
theorem ints_map : ∀ xs : List Int, D.ints (xs.map D.int) = some xs
  | [] => rfl
  | x :: xs => by
    show (D.ints (xs.map D.int)).map (x :: ·) = _
    rw [ints_map xs]; rfl
theorem bls_map : ∀ xs : List Bool, D.bls (xs.map D.bl) = some xs
  | [] => rfl
  | x :: xs => by
    show (D.bls (xs.map D.bl)).map (x :: ·) = _
    rw [bls_map xs]; rfl
theorem sum_ints (f : Fl) (xs : List Int) : bltM P cl "sum" [.lst f (xs.map D.int)] = ret (.int xs.sum) := by
  have e : bltM P cl "sum" [.lst f (xs.map D.int)] = opt ((D.ints (xs.map D.int)).map fun ns => D.int ns.sum) := nr rfl
  rw [e, ints_map]; rfl
theorem all_bls (f : Fl) (xs : List Bool) : bltM P cl "all" [.lst f (xs.map D.bl)] = ret (.bl (xs.all id)) := by
  have e : bltM P cl "all" [.lst f (xs.map D.bl)] = opt ((D.bls (xs.map D.bl)).map fun ns => D.bl (ns.all id)) := nr rfl
  rw [e, bls_map]; rfl
theorem any_bls (f : Fl) (xs : List Bool) : bltM P cl "any" [.lst f (xs.map D.bl)] = ret (.bl (xs.any id)) := by
  have e : bltM P cl "any" [.lst f (xs.map D.bl)] = opt ((D.bls (xs.map D.bl)).map fun ns => D.bl (ns.any id)) := nr rfl
  rw [e, bls_map]; rfl
theorem app_key (key : Str) (ds : List D) : app cl key ds = bnd (cl key (D.fls Fl.fz ds)) fun r => ret (if D.hass .brw ds then r.tt else r) := nr rfl
/-! statements -/
variable (W : Nat)
theorem s_nil : exSs P cl W .nil env = ret (.nx env) := nr rfl
def nxK (P : Pg) (cl : Str → List D → M D) (W : Nat) (ss : ISs) : Fw → M Fw
  | .nx env' => exSs P cl W ss env'
  | r => ret r
theorem s_cons (s : IS) (ss : ISs) : exSs P cl W (.cons s ss) env = bnd (exS P cl W s env) (nxK P cl W ss) := by
  rw [exSs]
  congr 1
theorem nx_nx (ss : ISs) : nxK P cl W ss (.nx env) = exSs P cl W ss env := nr rfl
theorem nx_rt (ss : ISs) (d : D) : nxK P cl W ss (.rt d env) = ret (.rt d env) := nr rfl
theorem nx_bk (ss : ISs) : nxK P cl W ss (.bk env) = ret (.bk env) := nr rfl
theorem nx_ct (ss : ISs) : nxK P cl W ss (.ct env) = ret (.ct env) := nr rfl
theorem evK_eq (e : IE) : evK P cl e env = bnd ((evA P cl e).v env) fun d => ret (keepE e.vars d env) := by
  unfold evK
  rw [v_only]
/-- stored behind a keep -/
theorem s_asg (x : Nat) (e : IE) : exS P cl W (.asg x e) env = bnd ((evA P cl e).v env) fun d => ret (.nx ((keepE e.vars d env).2.set x (some (keepE e.vars d env).1))) := by
  rw [exS, evK_eq, bnd_assoc]; rfl
theorem s_unp (xs : List Nat) (e : IE) : exS P cl W (.unp xs e) env = bnd ((evA P cl e).v env) fun d => bnd (opt (tgE (.tup xs) (keepE e.vars d env).1.so (keepE e.vars d env).2)) fun env2 => ret (.nx env2) := by
  rw [exS, evK_eq, bnd_assoc]; rfl
theorem s_par (xs : List Nat) (as : IEs) : exS P cl W (.par xs as) env = bnd (evs P cl as env) fun ds => bnd (opt (setsE xs (keepEs as.vars ds env).1 (keepEs as.vars ds env).2)) fun env' => ret (.nx env') := by
  rw [exS, evs_only]
theorem s_fld (x : Nat) (f : Str) (e : IE) : exS P cl W (.fld x f e) env = bnd ((evA P cl e).v env) fun d => bnd (opt (putE P x f e.vars (keepE e.vars d env).1 (keepE e.vars d env).2)) fun env' => ret (.nx env') := by
  rw [exS, evK_eq, bnd_assoc]; rfl
theorem s_app (x : Nat) (e : IE) : exS P cl W (.app x e) env = bnd ((evA P cl e).v env) fun d => bnd (opt (appE x e.vars (keepE e.vars d env).1 (keepE e.vars d env).2)) fun env' => ret (.nx env') := by
  rw [exS, evK_eq, bnd_assoc]; rfl
theorem s_bset (x i : Nat) (e : IE) : exS P cl W (.bset x i e) env = bnd ((evA P cl e).v env) (bsetM env x i) := by
  rw [exS, v_only]
theorem s_expr (e : IE) : exS P cl W (.expr e) env = bnd ((evA P cl e).v env) fun _ => ret (.nx env) := by
  rw [exS, v_only]
theorem s_ret (e : IE) : exS P cl W (.ret e) env = bnd ((evA P cl e).v env) fun d => ret (.rt d.ub env) := nr rfl
theorem s_retN : exS P cl W .retN env = ret (.rt .non env) := nr rfl
theorem s_ifs (c : IE) (a b : ISs) : exS P cl W (.ifs c a b) env = bnd ((evA P cl c).t env) fun k => if k = true then exSs P cl W a env else exSs P cl W b env := nr rfl
/-- a for over items -/
def forM (tg : ITg) (body : ISs) (xs : List D) (env : Env) : M Fw := loopM (fun d env' => bnd (opt (tgE tg d.ub.so env')) fun env2 => exSs P cl W body env2) xs env
theorem s_for (tg : ITg) (it : IE) (body : ISs) : exS P cl W (.forr tg it body) env = bnd ((evA P cl it).i env) fun xs => forM P cl W tg body xs (giveE it.vars 0 env) := by
  rw [exS, i_only]; rfl
def whM (c : IE) (body : ISs) (n : Nat) (env : Env) : M Fw := whileM (fun env => (evA P cl c).t env) (fun env => exSs P cl W body env) n env
theorem s_while (c : IE) (body : ISs) : exS P cl W (.whil c body) env = whM P cl W c body W env := nr rfl
theorem s_pass : exS P cl W .pass env = ret (.nx env) := nr rfl
theorem s_brk : exS P cl W .brk env = ret (.bk env) := nr rfl
theorem s_cont : exS P cl W .cont env = ret (.ct env) := nr rfl
end
end TI.TL

set_option Elab.async false
set_option linter.all false
set_option maxRecDepth 100000
/-! the plain law: loops, comprehensions, the drawing, tables of ints -/
namespace TI.TL
open PySem PySem.Spec PyProof.Rows L2

theorem seq_bnd {α : Type} (f : Fl → List D → D) (m : M α) (g : α → M (List D)) : seqM f (bnd m g) = bnd m fun a => seqM f (g a) := by
  unfold seqM
  rw [bnd_assoc]
/-! ### comprehensions and loops -/
theorem mapO_ret {α ι : Type} {f : D → M (Option α)} {h : ι → D} {g : ι → α} : ∀ {xs : List ι}, (∀ x ∈ xs, f (h x) = ret (some (g x))) → mapO f (xs.map h) = ret (xs.map g)
  | [], _ => rfl
  | x :: xs, H => by
    rw [List.map_cons, mapO, H x List.mem_cons_self, ret_bnd, mapO_ret (fun y hy => H y (List.mem_cons_of_mem _ hy)), ret_bnd]; rfl
theorem mapO_if {α ι : Type} {f : D → M (Option α)} {h : ι → D} {g : ι → α} {p : ι → Bool} : ∀ {xs : List ι}, (∀ x ∈ xs, f (h x) = ret (if p x = true then some (g x) else none)) → mapO f (xs.map h) = ret ((xs.filter p).map g)
  | [], _ => rfl
  | x :: xs, H => by
    rw [List.map_cons, mapO, H x List.mem_cons_self, ret_bnd, mapO_if (fun y hy => H y (List.mem_cons_of_mem _ hy)), ret_bnd, List.filter_cons]
    cases p x <;> rfl
theorem mapL_ret {α ι : Type} {f : D → M (List α)} {h : ι → D} {g : ι → List α} : ∀ {xs : List ι}, (∀ x ∈ xs, f (h x) = ret (g x)) → mapL f (xs.map h) = ret (xs.flatMap g)
  | [], _ => rfl
  | x :: xs, H => by
    rw [List.map_cons, mapL, H x List.mem_cons_self, ret_bnd, mapL_ret (fun y hy => H y (List.mem_cons_of_mem _ hy)), ret_bnd]; rfl
section
variable {P : Pg} {cl : Str → List D → M D} {W : Nat}
theorem lc_map {ι : Type} {env : Env} {tg : ITg} {elt : IE} {xs : List ι} {h g : ι → D} (hl : xs.length ≤ sizeLine)
    (H : ∀ x ∈ xs, bnd (opt (tgE tg (h x).so (wipeE env tg.ix))) (fun env' => (evA P cl elt).v env') = ret (g x)) : lcM P cl env tg elt (xs.map h) = ret (.lst .own (xs.map g)) := by
  unfold lcM
  rw [mapO_ret (g := g), seq_ret _ (by simpa using hl)]
  intro x hx
  have q := H x hx
  unfold turnM
  rw [← bnd_assoc, q, ret_bnd]
theorem lcif_map {ι : Type} {env : Env} {tg : ITg} {c elt : IE} {xs : List ι} {h g : ι → D} {p : ι → Bool} (hl : xs.length ≤ sizeLine)
    (H : ∀ x ∈ xs, ∃ env', tgE tg (h x).so (wipeE env tg.ix) = some env' ∧ (evA P cl c).t env' = ret (p x) ∧ (p x = true → (evA P cl elt).v env' = ret (g x))) : lcifM P cl env tg c elt (xs.map h) = ret (.lst .own ((xs.filter p).map g)) := by
  unfold lcifM
  rw [mapO_if (g := g) (p := p), seq_ret _ (by rw [List.length_map]; exact Nat.le_trans (List.length_filter_le _ _) hl)]
  intro x hx
  obtain ⟨e, h1, h2, h3⟩ := H x hx
  unfold turnM
  rw [h1, opt_s, ret_bnd, h2, ret_bnd]
  cases q : p x with
  | false => rfl
  | true => rw [if_pos rfl, if_pos rfl, h3 q, ret_bnd]
theorem lc2_map {ι κ : Type} {env : Env} {tg tg2 : ITg} {it2 elt : IE} {xs : List ι} {h : ι → D} {ys : ι → List κ} {h2 g : ι → κ → D} (hl : (xs.flatMap fun x => (ys x).map (g x)).length ≤ sizeLine)
    (H : ∀ x ∈ xs, ∃ env', tgE tg (h x).so (wipeE env (tg.ix ++ tg2.ix)) = some env' ∧ (evA P cl it2).i env' = ret ((ys x).map (h2 x)) ∧
      ∀ y ∈ ys x, bnd (opt (tgE tg2 (h2 x y).so (wipeE env' tg2.ix))) (fun env2 => (evA P cl elt).v env2) = ret (g x y)) : lc2M P cl env tg tg2 it2 elt (xs.map h) = ret (.lst .own (xs.flatMap fun x => (ys x).map (g x))) := by
  unfold lc2M
  rw [mapL_ret (g := fun x => (ys x).map (g x)), seq_ret _ hl]
  intro x hx
  obtain ⟨e, h1, h3, h4⟩ := H x hx
  rw [h1, opt_s, ret_bnd, h3, ret_bnd]
  refine mapO_ret fun y hy => ?_
  unfold turnM
  rw [← bnd_assoc, h4 y hy, ret_bnd]
theorem loop_ix {f : D → Env → M Fw} : ∀ {ds : List D} (E : Nat → Env), (∀ i (h : i < ds.length), f ds[i] (E i) = ret (.nx (E (i + 1)))) → loopM f ds (E 0) = ret (.nx (E ds.length))
  | [], E, _ => rfl
  | d :: ds, E, H => by
    have h0 := H 0 (Nat.succ_pos _)
    rw [List.getElem_cons_zero] at h0
    rw [loopM, h0, ret_bnd]
    exact loop_ix (fun i => E (i + 1)) fun i h => by
      have := H (i + 1) (Nat.succ_lt_succ h)
      rwa [List.getElem_cons_succ] at this
theorem for_ix {tg : ITg} {body : ISs} {ds : List D} (E : Nat → Env) (H : ∀ i (h : i < ds.length), bnd (opt (tgE tg (ds[i]).ub.so (E i))) (exSs P cl W body) = ret (.nx (E (i + 1)))) : forM P cl W tg body ds (E 0) = ret (.nx (E ds.length)) :=
  loop_ix E H
/-- a for over items that are told by a list -/
theorem for_map {ι : Type} {tg : ITg} {body : ISs} {xs : List ι} {g : ι → D} (E : Nat → Env) (H : ∀ i (h : i < xs.length), bnd (opt (tgE tg (g xs[i]).ub.so (E i))) (exSs P cl W body) = ret (.nx (E (i + 1)))) : forM P cl W tg body (xs.map g) (E 0) = ret (.nx (E xs.length)) := by
  have q := for_ix (P := P) (cl := cl) (W := W) (tg := tg) (body := body) (ds := xs.map g) E (fun i h => by
    rw [List.getElem_map]
    exact H i (by simpa using h))
  rwa [List.length_map] at q
/-- .. over range(n) -/
theorem for_range {tg : ITg} {body : ISs} {n : Nat} {g : Nat → D} (E : Nat → Env) (H : ∀ i, i < n → bnd (opt (tgE tg (g i).ub.so (E i))) (exSs P cl W body) = ret (.nx (E (i + 1)))) : forM P cl W tg body ((List.range n).map g) (E 0) = ret (.nx (E n)) := by
  have q := for_map (P := P) (cl := cl) (W := W) (tg := tg) (body := body) (xs := List.range n) (g := g) E (fun i h => by
    rw [List.getElem_range]
    exact H i (by simpa using h))
  rwa [List.length_range] at q
theorem while_ix {c : Env → M Bool} {f : Env → M Fw} : ∀ {k n : Nat} (E : Nat → Env), k < n → (∀ i, i < k → c (E i) = ret true ∧ f (E i) = ret (.nx (E (i + 1)))) → c (E k) = ret false → whileM c f n (E 0) = ret (.nx (E k))
  | 0, n + 1, E, _, _, h => by rw [whileM, h, ret_bnd]; rfl
  | k + 1, n + 1, E, hn, H, h => by
    obtain ⟨h1, h2⟩ := H 0 (Nat.succ_pos _)
    rw [whileM, h1, ret_bnd, if_pos rfl, h2, ret_bnd]
    exact while_ix (k := k) (n := n) (fun i => E (i + 1)) (by omega) (fun i hi => H (i + 1) (by omega)) h
theorem wh_ix {c : IE} {body : ISs} {k n : Nat} (E : Nat → Env) (hn : k < n) (H : ∀ i, i < k → (evA P cl c).t (E i) = ret true ∧ exSs P cl W body (E i) = ret (.nx (E (i + 1)))) (h : (evA P cl c).t (E k) = ret false) : whM P cl W c body n (E 0) = ret (.nx (E k)) :=
  while_ix E hn H h
end

/-! ### runs that draw -/
structure BOk (N : Nat) (b : Bag) : Prop where
  place : 0 ≤ b.place
  seed : 0 ≤ b.seed ∧ b.seed < 2147483587
  cnt : 0 ≤ b.cnt ∧ b.cnt ≤ N
theorem BOk.mono {N M : Nat} {b : Bag} (h : BOk N b) (hl : N ≤ M) : BOk M b := ⟨h.place, h.seed, h.cnt.1, by have := h.cnt.2; omega⟩
/-- ends with Q behind at most c drawings -/
def Dr {α : Type} (c : Nat) (m : M α) (Q : α → Prop) : Prop := ∀ N b, N + c ≤ 10 ^ 9 → BOk N b → ∃ a b', m b = some (a, b') ∧ BOk (N + c) b' ∧ Q a
theorem dr_ret {α : Type} {a : α} {Q : α → Prop} (h : Q a) : Dr 0 (ret a) Q := fun N b _ hb => ⟨a, b, rfl, hb, h⟩
theorem dr_mono {α : Type} {c d : Nat} {m : M α} {Q R : α → Prop} (h : Dr c m Q) (hc : c ≤ d) (hq : ∀ a, Q a → R a) : Dr d m R := fun N b hN hb => by
  obtain ⟨a, b', e, hb', q⟩ := h N b (by omega) hb
  exact ⟨a, b', e, hb'.mono (by omega), hq a q⟩
theorem dr_le {α : Type} {c d : Nat} {m : M α} {Q : α → Prop} (h : Dr c m Q) (hc : c ≤ d) : Dr d m Q := dr_mono h hc fun _ q => q
theorem dr_post {α : Type} {c : Nat} {m : M α} {Q R : α → Prop} (h : Dr c m Q) (hq : ∀ a, Q a → R a) : Dr c m R := dr_mono h (Nat.le_refl _) hq
theorem dr_bnd {α β : Type} {c d : Nat} {m : M α} {f : α → M β} {Q : α → Prop} {R : β → Prop} (h : Dr c m Q) (k : ∀ a, Q a → Dr d (f a) R) : Dr (c + d) (bnd m f) R := fun N b hN hb => by
  obtain ⟨a, b1, e1, hb1, q⟩ := h N b (by omega) hb
  obtain ⟨a2, b2, e2, hb2, r⟩ := k a q (N + c) b1 (by omega) hb1
  exact ⟨a2, b2, by unfold bnd; rw [e1]; exact e2, by rw [← Nat.add_assoc]; exact hb2, r⟩
theorem dr_ret' {α : Type} {c : Nat} {a : α} {Q : α → Prop} (h : Q a) : Dr c (ret a) Q := dr_le (dr_ret h) (Nat.zero_le _)
inductive All2 {α β : Type} (R : α → β → Prop) : List α → List β → Prop where
  | nil : All2 R [] []
  | cons {x y xs ys} : R x y → All2 R xs ys → All2 R (x :: xs) (y :: ys)
theorem All2.len {α β : Type} {R : α → β → Prop} {xs : List α} {ys : List β} (h : All2 R xs ys) : xs.length = ys.length := by
  induction h with
  | nil => rfl
  | cons _ _ ih => simp [ih]
theorem All2.get {α β : Type} {R : α → β → Prop} {xs : List α} {ys : List β} (h : All2 R xs ys) : ∀ {i : Nat} {x : α} {y : β}, xs[i]? = some x → ys[i]? = some y → R x y := by
  induction h with
  | nil => intro i x y h; cases i <;> cases h
  | cons r _ ih =>
    intro i x y h1 h2
    cases i with
    | zero => cases h1; cases h2; exact r
    | succ i => exact ih h1 h2
theorem dr_mapO {α ι : Type} {c : Nat} {f : D → M (Option α)} {h : ι → D} {R : ι → α → Prop} : ∀ {xs : List ι}, (∀ x ∈ xs, Dr c (f (h x)) fun r => ∃ y, r = some y ∧ R x y) → Dr (c * xs.length) (mapO f (xs.map h)) fun ys => All2 R xs ys
  | [], _ => dr_ret .nil
  | x :: xs, H => by
    rw [List.map_cons, mapO, List.length_cons, Nat.mul_succ, Nat.add_comm]
    refine dr_bnd (H x List.mem_cons_self) fun r hr => ?_
    obtain ⟨y, rfl, q⟩ := hr
    refine dr_le (dr_bnd (dr_mapO fun y hy => H y (List.mem_cons_of_mem _ hy)) fun ys hys => dr_ret (.cons q hys)) (Nat.le_refl _)
section
variable {P : Pg} {cl : Str → List D → M D} {W : Nat}
theorem dr_lc {ι : Type} {c : Nat} {env : Env} {tg : ITg} {elt : IE} {xs : List ι} {h : ι → D} {R : ι → D → Prop} (hl : xs.length ≤ sizeLine)
    (H : ∀ x ∈ xs, Dr c (bnd (opt (tgE tg (h x).so (wipeE env tg.ix))) fun env' => (evA P cl elt).v env') (R x)) : Dr (c * xs.length) (lcM P cl env tg elt (xs.map h)) fun r => ∃ ys, r = .lst .own ys ∧ All2 R xs ys := by
  unfold lcM seqM
  refine dr_le (dr_bnd (dr_mapO (R := R) fun x hx => ?_) fun ys hys => ?_) (Nat.le_refl (c * xs.length + 0))
  · unfold turnM
    rw [← bnd_assoc]
    exact dr_le (dr_bnd (H x hx) fun y hy => dr_ret ⟨y, rfl, hy⟩) (Nat.le_refl (c + 0))
  · rw [if_pos (by rw [← hys.len]; exact hl)]
    exact dr_ret ⟨ys, rfl, hys⟩
theorem dr_loop {c : Nat} {f : D → Env → M Fw} : ∀ {ds : List D} {env : Env} (I : Nat → Env → Prop), I 0 env → (∀ i (h : i < ds.length) env, I i env → Dr c (f ds[i] env) fun r => ∃ env', r = .nx env' ∧ I (i + 1) env') → Dr (c * ds.length) (loopM f ds env) fun r => ∃ env', r = .nx env' ∧ I ds.length env'
  | [], env, I, h0, _ => dr_ret ⟨env, rfl, h0⟩
  | d :: ds, env, I, h0, H => by
    rw [loopM, List.length_cons, Nat.mul_succ, Nat.add_comm]
    have q := H 0 (Nat.succ_pos _) env h0
    rw [List.getElem_cons_zero] at q
    refine dr_bnd q fun r hr => ?_
    obtain ⟨env', rfl, h1⟩ := hr
    exact dr_loop (fun i => I (i + 1)) h1 fun i h env hi => by
      have := H (i + 1) (Nat.succ_lt_succ h) env hi
      rwa [List.getElem_cons_succ] at this
theorem dr_for {ι : Type} {c : Nat} {tg : ITg} {body : ISs} {xs : List ι} {g : ι → D} {env : Env} (I : Nat → Env → Prop) (h0 : I 0 env)
    (H : ∀ i (h : i < xs.length) env, I i env → Dr c (bnd (opt (tgE tg (g xs[i]).ub.so env)) (exSs P cl W body)) fun r => ∃ env', r = .nx env' ∧ I (i + 1) env') :
    Dr (c * xs.length) (forM P cl W tg body (xs.map g) env) fun r => ∃ env', r = .nx env' ∧ I xs.length env' := by
  have q := dr_loop (c := c) (f := fun d env' => bnd (opt (tgE tg d.ub.so env')) fun env2 => exSs P cl W body env2) (ds := xs.map g) I h0 (fun i h env hi => by
    rw [List.getElem_map]
    exact H i (by simpa using h) env hi)
  rwa [List.length_map] at q
end

/-! ### flags -/
theorem fls_nil (g : Fl → Fl) : D.fls g [] = [] := nr rfl
theorem fls_cons (g : Fl → Fl) (d : D) (ds : List D) : D.fls g (d :: ds) = d.fl g :: D.fls g ds := nr rfl
theorem hass_nil (f : Fl) : D.hass f [] = false := nr rfl
theorem hass_cons (f : Fl) (d : D) (ds : List D) : D.hass f (d :: ds) = (d.has f || D.hass f ds) := nr rfl
theorem fl_int (g : Fl → Fl) (i : Int) : (D.int i).fl g = .int i := nr rfl
theorem fl_bl (g : Fl → Fl) (i : Bool) : (D.bl i).fl g = .bl i := nr rfl
theorem fl_str (g : Fl → Fl) (i : Str) : (D.str i).fl g = .str i := nr rfl
theorem fl_non (g : Fl → Fl) : D.non.fl g = .non := nr rfl
theorem fl_bag (g : Fl → Fl) : D.bag.fl g = .bag := nr rfl
theorem fl_lst (g : Fl → Fl) (f : Fl) (xs : List D) : (D.lst f xs).fl g = .lst (g f) (D.fls g xs) := nr rfl
theorem fl_tup (g : Fl → Fl) (f : Fl) (xs : List D) : (D.tup f xs).fl g = .tup (g f) (D.fls g xs) := nr rfl
theorem fl_ins (g : Fl → Fl) (f : Fl) (c : Str) (ns : List Str) (xs : List D) : (D.ins f c ns xs).fl g = .ins (g f) c ns (D.fls g xs) := nr rfl
theorem has_int (f : Fl) (i : Int) : (D.int i).has f = false := nr rfl
theorem has_bl (f : Fl) (i : Bool) : (D.bl i).has f = false := nr rfl
theorem has_str (f : Fl) (i : Str) : (D.str i).has f = false := nr rfl
theorem has_non (f : Fl) : D.non.has f = false := nr rfl
theorem has_bag (f : Fl) : D.bag.has f = false := nr rfl
theorem has_lst (f g : Fl) (xs : List D) : (D.lst g xs).has f = (decide (g = f) || D.hass f xs) := nr rfl
theorem has_tup (f g : Fl) (xs : List D) : (D.tup g xs).has f = (decide (g = f) || D.hass f xs) := nr rfl
theorem has_ins (f g : Fl) (c : Str) (ns : List Str) (xs : List D) : (D.ins g c ns xs).has f = (decide (g = f) || D.hass f xs) := nr rfl
theorem fz_own : Fl.fz .own = .sh := nr rfl
theorem fz_sh : Fl.fz .sh = .sh := nr rfl
theorem fz_brw : Fl.fz .brw = .sh := nr rfl
theorem bw_own : Fl.bw .own = .brw := nr rfl
theorem bw_sh : Fl.bw .sh = .sh := nr rfl
theorem bw_brw : Fl.bw .brw = .brw := nr rfl
theorem ub_own : Fl.ub .own = .own := nr rfl
theorem ub_sh : Fl.ub .sh = .sh := nr rfl
theorem ub_brw : Fl.ub .brw = .sh := nr rfl
theorem so_own : Fl.so .own = .sh := nr rfl
theorem so_sh : Fl.so .sh = .sh := nr rfl
theorem so_brw : Fl.so .brw = .brw := nr rfl
theorem tt_own : Fl.tt .own = .own := nr rfl
theorem tt_sh : Fl.tt .sh = .brw := nr rfl
theorem tt_brw : Fl.tt .brw = .brw := nr rfl
theorem fz_any (f : Fl) : Fl.fz f = .sh := nr rfl
theorem keep_f {S : List Nat} {d : D} {env : Env} (h : d.has .brw = false) : keepE S d env = (d, env) := by
  unfold keepE
  rw [h]; rfl
theorem keep_t {S : List Nat} {d : D} {env : Env} (h : d.has .brw = true) : keepE S d env = (d.ub, giveE S 0 env) := by
  unfold keepE
  rw [h]; rfl
theorem keeps_f {S : List Nat} {d : List D} {env : Env} (h : D.hass .brw d = false) : keepEs S d env = (d, env) := by
  unfold keepEs
  rw [h]; rfl
theorem keeps_t {S : List Nat} {d : List D} {env : Env} (h : D.hass .brw d = true) : keepEs S d env = (D.fls Fl.ub d, giveE S 0 env) := by
  unfold keepEs
  rw [h]; rfl
theorem fls_map {ι : Type} (g : Fl → Fl) (h : ι → D) (xs : List ι) : D.fls g (xs.map h) = xs.map fun x => (h x).fl g := by
  rw [D.fls_map, List.map_map]; rfl
theorem hass_map {ι : Type} (f : Fl) (h : ι → D) (xs : List ι) : D.hass f (xs.map h) = xs.any fun x => (h x).has f := by
  rw [D.hass_any, List.any_map]; rfl
theorem fls_im {ι : Type} (g : Fl → Fl) (h : ι → Int) (xs : List ι) : D.fls g (xs.map fun x => D.int (h x)) = xs.map fun x => D.int (h x) := by rw [fls_map]; rfl
theorem hass_f {ι : Type} {f : Fl} {h : ι → D} (H : ∀ x, (h x).has f = false) (xs : List ι) : D.hass f (xs.map h) = false := by
  rw [hass_map]
  induction xs with
  | nil => rfl
  | cons x xs ih => rw [List.any_cons, H, ih]; rfl

/-! ### rows and tables of ints -/
def rowL (f : Fl) (r : List Int) : D := .lst f (r.map D.int)
def rowT (f : Fl) (r : List Int) : D := .tup f (r.map D.int)
def tabL (f g : Fl) (t : List (List Int)) : D := .lst f (t.map (rowL g))
def tabT (f g : Fl) (t : List (List Int)) : D := .tup f (t.map (rowT g))
theorem fls_ints (g : Fl → Fl) (r : List Int) : D.fls g (r.map D.int) = r.map D.int := by rw [fls_map]; rfl
theorem hass_ints (f : Fl) (r : List Int) : D.hass f (r.map D.int) = false := hass_f (fun _ => rfl) r
theorem fl_rowL (g : Fl → Fl) (f : Fl) (r : List Int) : (rowL f r).fl g = rowL (g f) r := by unfold rowL; rw [fl_lst, fls_ints]
theorem fl_rowT (g : Fl → Fl) (f : Fl) (r : List Int) : (rowT f r).fl g = rowT (g f) r := by unfold rowT; rw [fl_tup, fls_ints]
theorem has_rowL (g f : Fl) (r : List Int) : (rowL f r).has g = decide (f = g) := by unfold rowL; rw [has_lst, hass_ints, Bool.or_false]
theorem has_rowT (g f : Fl) (r : List Int) : (rowT f r).has g = decide (f = g) := by unfold rowT; rw [has_tup, hass_ints, Bool.or_false]
theorem fls_rowL (g : Fl → Fl) (f : Fl) (t : List (List Int)) : D.fls g (t.map (rowL f)) = t.map (rowL (g f)) := by rw [fls_map]; simp only [fl_rowL]
theorem fls_rowT (g : Fl → Fl) (f : Fl) (t : List (List Int)) : D.fls g (t.map (rowT f)) = t.map (rowT (g f)) := by rw [fls_map]; simp only [fl_rowT]
theorem fl_tabL (g : Fl → Fl) (f k : Fl) (t : List (List Int)) : (tabL f k t).fl g = tabL (g f) (g k) t := by unfold tabL; rw [fl_lst, fls_rowL]
theorem fl_tabT (g : Fl → Fl) (f k : Fl) (t : List (List Int)) : (tabT f k t).fl g = tabT (g f) (g k) t := by unfold tabT; rw [fl_tup, fls_rowT]
theorem hass_rowL {g f : Fl} (h : f ≠ g) (t : List (List Int)) : D.hass g (t.map (rowL f)) = false := hass_f (fun x => by rw [has_rowL]; exact decide_eq_false h) t
theorem hass_rowT {g f : Fl} (h : f ≠ g) (t : List (List Int)) : D.hass g (t.map (rowT f)) = false := hass_f (fun x => by rw [has_rowT]; exact decide_eq_false h) t
theorem has_tabL {g f k : Fl} (h : k ≠ g) (t : List (List Int)) : (tabL f k t).has g = decide (f = g) := by unfold tabL; rw [has_lst, hass_rowL h, Bool.or_false]
theorem has_tabT {g f k : Fl} (h : k ≠ g) (t : List (List Int)) : (tabT f k t).has g = decide (f = g) := by unfold tabT; rw [has_tup, hass_rowT h, Bool.or_false]
theorem has_tabLt {g k : Fl} (t : List (List Int)) : (tabL g k t).has g = true := by unfold tabL; rw [has_lst, decide_eq_true rfl, Bool.true_or]
theorem has_tabTt {g k : Fl} (t : List (List Int)) : (tabT g k t).has g = true := by unfold tabT; rw [has_tup, decide_eq_true rfl, Bool.true_or]
theorem hb_L_sh (t : List (List Int)) : (tabL .sh .sh t).has .brw = false := by rw [has_tabL (by decide)]; rfl
theorem hb_L_own (t : List (List Int)) : (tabL .own .own t).has .brw = false := by rw [has_tabL (by decide)]; rfl
theorem hb_T_sh (t : List (List Int)) : (tabT .sh .sh t).has .brw = false := by rw [has_tabT (by decide)]; rfl
theorem hb_T_own (t : List (List Int)) : (tabT .own .own t).has .brw = false := by rw [has_tabT (by decide)]; rfl
theorem hass_im {ι : Type} (f : Fl) (h : ι → Int) (xs : List ι) : D.hass f (xs.map fun x => D.int (h x)) = false := hass_f (fun _ => rfl) xs
/-! indices -/
theorem atI_nat {α : Type} (xs : List α) (i : Nat) (h : i < xs.length) : L2.atI xs (i : Int) = some xs[i] := by
  unfold L2.atI L2.ixN
  rw [if_pos (by omega), if_pos (by omega)]
  simp [h]
theorem atI_range {α : Type} (g : Nat → α) (n i : Nat) (h : i < n) : L2.atI ((List.range n).map g) (i : Int) = some (g i) := by
  rw [atI_nat _ _ (by simpa using h)]
  simp
theorem atI_0 {α : Type} (x : α) (xs : List α) : L2.atI (x :: xs) 0 = some x := by
  have := atI_nat (x :: xs) 0 (Nat.succ_pos _)
  simpa using this
/-- the rows of a lower table -/
def tab (n : Nat) (e : Nat → Nat → Int) : List (List Int) := (List.range n).map fun r => (List.range (r + 1)).map (e r)
theorem tab_len (n : Nat) (e : Nat → Nat → Int) : (tab n e).length = n := by simp [tab]
theorem idx_tabL {n r : Nat} (f g : Fl) (e : Nat → Nat → Int) (h : r < n) : idxD (tabL f g (tab n e)) (.int (r : Int)) = some (rowL g ((List.range (r + 1)).map (e r))) := by
  show L2.atI ((tab n e).map (rowL g)) (r : Int) = _
  unfold tab
  rw [List.map_map, atI_range _ _ _ h]; rfl
theorem idx_tabT {n r : Nat} (f g : Fl) (e : Nat → Nat → Int) (h : r < n) : idxD (tabT f g (tab n e)) (.int (r : Int)) = some (rowT g ((List.range (r + 1)).map (e r))) := by
  show L2.atI ((tab n e).map (rowT g)) (r : Int) = _
  unfold tab
  rw [List.map_map, atI_range _ _ _ h]; rfl
theorem idx_rowL {n r : Nat} (g : Fl) (e : Nat → Int) (h : r < n) : idxD (rowL g ((List.range n).map e)) (.int (r : Int)) = some (.int (e r)) := by
  show L2.atI (((List.range n).map e).map D.int) (r : Int) = _
  rw [List.map_map, atI_range _ _ _ h]; rfl
theorem idx_rowT {n r : Nat} (g : Fl) (e : Nat → Int) (h : r < n) : idxD (rowT g ((List.range n).map e)) (.int (r : Int)) = some (.int (e r)) := by
  show L2.atI (((List.range n).map e).map D.int) (r : Int) = _
  rw [List.map_map, atI_range _ _ _ h]; rfl
theorem cast1 (a : Nat) : (a : Int) + 1 = ((a + 1 : Nat) : Int) := nr rfl
theorem castA (a b : Nat) : (a : Int) + (b : Int) = ((a + b : Nat) : Int) := nr rfl
theorem range1_nat (n : Nat) (h : n ≤ sizeLine) : range1D (.int (n : Int)) = some ((List.range n).map fun i => D.int ((i : Nat) : Int)) := by
  have : sizeLine = 2 ^ 24 := nr rfl
  simp only [range1D]
  rw [if_pos (by omega), Int.toNat_natCast]
theorem range2_nat (l n : Nat) (hl : l ≤ sizeLine) (h : n ≤ sizeLine) : range2D (.int (l : Int)) (.int (n : Int)) = some ((List.range (n - l)).map fun i => D.int ((l + i : Nat) : Int)) := by
  simp only [range2D]
  have : sizeLine = 2 ^ 24 := nr rfl
  have e : ((n : Int) - (l : Int)).toNat = n - l := by omega
  simp only [e]
  rw [if_pos (by omega)]; rfl
/-- the last of the loop's items -/
def lastV (g : Nat → D) : Nat → Option D
  | 0 => none
  | i + 1 => some (g i)
/-- sums -/
def sumN (f : Nat → Int) : Nat → Int
  | 0 => 0
  | n + 1 => sumN f n + f n
end TI.TL

set_option Elab.async false
set_option linter.all false
set_option maxRecDepth 100000
/-! the plain law: what a text has; the drawing; two values alike -/
namespace TI.TL
open PySem PySem.Spec PyProof.Rows L2
abbrev noP : Str → Option (List D → M D) := fun _ => none
/-- the text has this def, but for the names in it -/
class Has (P : Pg) (d : Def) : Prop where
  find : ∃ e, P.defs.find? (fun x => x.key == d.key) = some e ∧ e.ps.length = d.ps.length ∧ e.N.length = d.N.length ∧ e.body = d.body ∧ e.init = d.init
class HasA (P : Pg) (c m : Str) (v : outParam Ma) : Prop where
  at_ : P.at c m = some v
class HasC (P : Pg) (x : Str) (v : outParam D) : Prop where
  con : P.con.lookup x = some v
class HasP (P : Pg) (key : Str) (ps : outParam (List Str)) : Prop where
  par : P.par key = ps
class IsC (P : Pg) (c t : Str) : Prop where
  isi : ∀ f ns xs, isiA P (.ins f c ns xs) [t] = some true
theorem isi_c {P : Pg} {c t : Str} [h : IsC P c t] (f : Fl) (ns : List Str) (xs : List D) : isiA P (.ins f c ns xs) [t] = some true := h.isi f ns xs
/-- what a def's end hands back -/
def resM : Fw → M D
  | .rt v _ => ret v
  | .nx _ => ret .non
  | _ => fail
def selfM : Fw → M D := fun r => opt (selfOf r)
theorem res_rt (v : D) (env : Env) : resM (.rt v env) = ret v := nr rfl
theorem res_nx (env : Env) : resM (.nx env) = ret .non := nr rfl
theorem self_nx (d : D) (env : Env) : selfM (.nx (some d :: env)) = ret d := nr rfl
section
variable {P : Pg} {W n : Nat}
theorem call_has {d : Def} [h : Has P d] {key : Str} (hk : d.key = key) (hi : d.init = false) (ds : List D) (hl : ds.length = d.ps.length) :
    callP P W noP (n + 1) key ds = bnd (exSs P (callP P W noP n) W d.body (ds.map some ++ List.replicate (d.N.length - ds.length) none)) resM := by
  subst hk
  obtain ⟨e, e1, e2, e3, e4, e5⟩ := h.find
  rw [callP, e1]
  show (if e.init = true then _ else runD P (callP P W noP n) W e ds) = _
  rw [e5, hi]
  show runD P (callP P W noP n) W e ds = _
  unfold runD
  rw [if_pos (hl.trans e2.symm), e3, e4]
  congr 1
theorem call_hasI {d : Def} [h : Has P d] {key : Str} (hk : d.key = key) (hi : d.init = true) (ds : List D) (hl : ds.length + 1 = d.ps.length) :
    callP P W noP (n + 1) key ds = bnd (exSs P (callP P W noP n) W d.body ((some (.ins .own key [] []) :: ds.map some) ++ List.replicate (d.N.length - (ds.length + 1)) none)) selfM := by
  subst hk
  obtain ⟨e, e1, e2, e3, e4, e5⟩ := h.find
  rw [callP, e1]
  show (if e.init = true then runI P (callP P W noP n) W e d.key ds else _) = _
  rw [if_pos (e5.trans hi)]
  unfold runI
  rw [if_pos (hl.trans e2.symm), e3, e4]
  congr 1
variable {cl : Str → List D → M D}
theorem attr_prop {c f key : Str} [h : HasA P c f (.prop key)] (fl : Fl) (ns : List Str) (xs : List D) : attrM P cl (.ins fl c ns xs) f = app cl key [.ins fl c ns xs] := by
  simp only [attrM, h.at_]
theorem attr_fld {c f : Str} [h : HasA P c f .fld] (fl : Fl) (ns : List Str) (xs : List D) : attrM P cl (.ins fl c ns xs) f = opt (fldOf ns xs f) := by
  simp only [attrM, h.at_]
theorem meth_m {c m key : Str} [h : HasA P c m (.meth key)] (fl : Fl) {ns : List Str} (xs : List D) (as : M (List D)) (hn : m ∉ ns) : methM P cl (.ins fl c ns xs) m as = bnd as fun ds => app cl key (.ins fl c ns xs :: ds) := by
  simp only [methM, h.at_]
  rw [if_neg hn]
theorem methAt_m {c m key : Str} [h : HasA P c m (.meth key)] : methAt P c m = some key := by
  unfold methAt
  rw [h.at_]
theorem methk_m {c m k key : Str} {ps : List Str} [h : HasA P c m (.meth key)] [p : HasP P key ps] (fl : Fl) {ns : List Str} (xs : List D) (a : M D) (hk : ps.drop 1 = [k] ∧ m ∉ ns) : methK P cl (.ins fl c ns xs) m k a = bnd a fun d => app cl key [.ins fl c ns xs, d] := by
  simp only [methK, methAt_m, p.par]
  rw [if_pos hk]
theorem bin_m {c key : Str} {op : Operator} (h : methAt P c (dunderOf op) = some key) (f f2 : Fl) (ns ns2 : List Str) (xs xs2 : List D) :
    binM P cl op (.ins f c ns xs) (.ins f2 c ns2 xs2) = app cl key [.ins f c ns xs, .ins f2 c ns2 xs2] := by
  simp only [binM, h]
  rw [if_pos trivial]
theorem mul_m {c key : Str} [h : HasA P c "__mul__" (.meth key)] (f f2 : Fl) (ns ns2 : List Str) (xs xs2 : List D) :
    binM P cl .Mult (.ins f c ns xs) (.ins f2 c ns2 xs2) = app cl key [.ins f c ns xs, .ins f2 c ns2 xs2] := bin_m (op := .Mult) (show methAt P c (dunderOf .Mult) = some key from methAt_m (m := "__mul__")) f f2 ns ns2 xs xs2
theorem add_m {c key : Str} [h : HasA P c "__add__" (.meth key)] (f f2 : Fl) (ns ns2 : List Str) (xs xs2 : List D) :
    binM P cl .Add (.ins f c ns xs) (.ins f2 c ns2 xs2) = app cl key [.ins f c ns xs, .ins f2 c ns2 xs2] := bin_m (op := .Add) (show methAt P c (dunderOf .Add) = some key from methAt_m (m := "__add__")) f f2 ns ns2 xs xs2
theorem sub_m {c key : Str} [h : HasA P c "__sub__" (.meth key)] (f f2 : Fl) (ns ns2 : List Str) (xs xs2 : List D) :
    binM P cl .Sub (.ins f c ns xs) (.ins f2 c ns2 xs2) = app cl key [.ins f c ns xs, .ins f2 c ns2 xs2] := bin_m (op := .Sub) (show methAt P c (dunderOf .Sub) = some key from methAt_m (m := "__sub__")) f f2 ns ns2 xs xs2
theorem eq_m {c key : Str} [h : HasA P c "__eq__" (.meth key)] (f f2 : Fl) (ns ns2 : List Str) (xs xs2 : List D) :
    cmpM P cl .Eq (.ins f c ns xs) (.ins f2 c ns2 xs2) = bnd (appB cl key [.ins f c ns xs, .ins f2 c ns2 xs2]) fun k => ret (.bl k) := by
  simp only [cmpM, methAt_m]
  rw [if_pos trivial]
theorem ne_m {c key : Str} [h : HasA P c "__eq__" (.meth key)] (f f2 : Fl) (ns ns2 : List Str) (xs xs2 : List D) :
    cmpM P cl .NotEq (.ins f c ns xs) (.ins f2 c ns2 xs2) = bnd (appB cl key [.ins f c ns xs, .ins f2 c ns2 xs2]) fun k => ret (.bl (!k)) := by
  simp only [cmpM, methAt_m]
  rw [if_pos trivial]
theorem tru_m {c key : Str} [h : HasA P c "__bool__" (.meth key)] (f : Fl) (ns : List Str) (xs : List D) : truM P cl (.ins f c ns xs) = appB cl key [.ins f c ns xs] := by
  simp only [truM, methAt_m]
theorem bool_m {c key : Str} [h : HasA P c "__bool__" (.meth key)] (f : Fl) (ns : List Str) (xs : List D) : bltM P cl "bool" [.ins f c ns xs] = bnd (appB cl key [.ins f c ns xs]) fun k => ret (.bl k) := by
  unfold bltM
  rw [if_pos rfl]
  simp only [boolM, methAt_m]
theorem appB_of {key : Str} {ds : List D} {k : Bool} (h : cl key (D.fls Fl.fz ds) = ret (.bl k)) : appB cl key ds = ret k := by
  unfold appB app
  rw [h, ret_bnd]
  cases D.hass .brw ds <;> rfl
theorem v_scall_s {c m key : Str} [h : HasA P c m (.stat key)] (env : Env) (as : IEs) : (evA P cl (.scall c m as)).v env = bnd (evs P cl as env) fun ds => app cl key ds := by
  rw [v_scall, h.at_]
theorem glo_c {x : Str} {d : D} [h : HasC P x d] (env : Env) : (evA P cl (.glo x)).v env = ret d := by
  rw [v_glo, h.con]; rfl
end
end TI.TL

set_option Elab.async false
set_option linter.all false
set_option maxRecDepth 100000
set_option maxHeartbeats 4000000
/-! defs in the compact form -/
namespace TI.TL
open PySem PySem.Spec PyProof.Rows L2
def b_entry_behind : ISs := (.cons (.asg 4 (.bin .Add (.idx (.idx (.var 0) (.var 2)) (.var 3)) (.idx (.idx (.var 1) (.var 2)) (.var 3)))) (.cons (.forr (.name 5) (.range2 (.var 3) (.var 2)) (.cons (.asg 4 (.bin .Add (.var 4) (.bin .Mult (.idx (.idx (.var 1) (.var 2)) (.bin .Add (.var 5) (.int 1))) (.idx (.idx (.var 0) (.var 5)) (.var 3))))) .nil)) (.cons (.ret (.var 4)) .nil)))
def d_entry_behind : Def := ⟨"entry_behind", ["one", "other", "row", "column"], ["one", "other", "row", "column", "found", "middle"], b_entry_behind, false⟩
theorem c_entry_behind {P : Pg} {W n : Nat} [Has P d_entry_behind] (x0 x1 x2 x3 : D) : callP P W noP (n + 1) "entry_behind" [x0, x1, x2, x3] = bnd (exSs P (callP P W noP n) W b_entry_behind [some x0, some x1, some x2, some x3, none, none]) resM := call_has (d := d_entry_behind) rfl rfl [x0, x1, x2, x3] rfl
def b_behind : ISs := (.cons (.ret (.lc (.name 2) (.range1 (.blt "len" (.cons (.var 0) .nil))) (.lc (.name 3) (.range1 (.bin .Add (.var 2) (.int 1))) (.call "entry_behind" (.cons (.var 0) (.cons (.var 1) (.cons (.var 2) (.cons (.var 3) .nil)))))))) .nil)
def d_behind : Def := ⟨"behind", ["one", "other"], ["one", "other", "row", "column"], b_behind, false⟩
theorem c_behind {P : Pg} {W n : Nat} [Has P d_behind] (x0 x1 : D) : callP P W noP (n + 1) "behind" [x0, x1] = bnd (exSs P (callP P W noP n) W b_behind [some x0, some x1, none, none]) resM := call_has (d := d_behind) rfl rfl [x0, x1] rfl
def b_inverse : ISs := (.cons (.asg 1 (.lst .nil)) (.cons (.forr (.tup [2, 3]) (.enum (.var 0)) (.cons (.asg 4 (.lst .nil)) (.cons (.forr (.name 5) (.range1 (.bin .Add (.var 2) (.int 1))) (.cons (.asg 6 (.idx (.var 3) (.var 5))) (.cons (.forr (.name 7) (.range2 (.var 5) (.var 2)) (.cons (.asg 6 (.bin .Add (.var 6) (.bin .Mult (.idx (.var 3) (.bin .Add (.var 7) (.int 1))) (.idx (.idx (.var 1) (.var 7)) (.var 5))))) .nil)) (.cons (.app 4 (.bin .Mult (.var 6) (.neg (.int 1)))) .nil)))) (.cons (.app 1 (.var 4)) .nil)))) (.cons (.ret (.var 1)) .nil)))
def d_inverse : Def := ⟨"inverse", ["rows"], ["rows", "found", "row", "numbers", "line", "column", "total", "middle"], b_inverse, false⟩
theorem c_inverse {P : Pg} {W n : Nat} [Has P d_inverse] (x0 : D) : callP P W noP (n + 1) "inverse" [x0] = bnd (exSs P (callP P W noP n) W b_inverse [some x0, none, none, none, none, none, none, none]) resM := call_has (d := d_inverse) rfl rfl [x0] rfl
def b_is_number : ISs := (.cons (.ret (.bop .And (.isi (.var 0) ["int"]) (.not (.isi (.var 0) ["bool"])))) .nil)
def d_is_number : Def := ⟨"is_number", ["value"], ["value"], b_is_number, false⟩
theorem c_is_number {P : Pg} {W n : Nat} [Has P d_is_number] (x0 : D) : callP P W noP (n + 1) "is_number" [x0] = bnd (exSs P (callP P W noP n) W b_is_number [some x0]) resM := call_has (d := d_is_number) rfl rfl [x0] rfl
def b_is_within : ISs := (.cons (.ret (.bop .And (.call "is_number" (.cons (.var 0) .nil)) (.cmp2 .LtE .LtE (.var 1) (.var 0) (.var 2)))) .nil)
def d_is_within : Def := ⟨"is_within", ["value", "low", "high"], ["value", "low", "high"], b_is_within, false⟩
theorem c_is_within {P : Pg} {W n : Nat} [Has P d_is_within] (x0 x1 x2 : D) : callP P W noP (n + 1) "is_within" [x0, x1, x2] = bnd (exSs P (callP P W noP n) W b_is_within [some x0, some x1, some x2]) resM := call_has (d := d_is_within) rfl rfl [x0, x1, x2] rfl
def b_is_list : ISs := (.cons (.ret (.isi (.var 0) ["list", "tuple"])) .nil)
def d_is_list : Def := ⟨"is_list", ["value"], ["value"], b_is_list, false⟩
theorem c_is_list {P : Pg} {W n : Nat} [Has P d_is_list] (x0 : D) : callP P W noP (n + 1) "is_list" [x0] = bnd (exSs P (callP P W noP n) W b_is_list [some x0]) resM := call_has (d := d_is_list) rfl rfl [x0] rfl
def b_need_size : ISs := (.cons (.ifs (.not (.call "is_within" (.cons (.var 0) (.cons (.int 1) (.cons (.glo "MOST_SIZE") .nil))))) (.cons .dead .nil) .nil) .nil)
def d_need_size : Def := ⟨"need_size", ["size"], ["size"], b_need_size, false⟩
theorem c_need_size {P : Pg} {W n : Nat} [Has P d_need_size] (x0 : D) : callP P W noP (n + 1) "need_size" [x0] = bnd (exSs P (callP P W noP n) W b_need_size [some x0]) resM := call_has (d := d_need_size) rfl rfl [x0] rfl
def b_is_rows : ISs := (.cons (.ifs (.bop .Or (.not (.call "is_list" (.cons (.var 0) .nil))) (.not (.cmp2 .LtE .LtE (.int 1) (.blt "len" (.cons (.var 0) .nil)) (.glo "MOST_SIZE")))) (.cons (.ret (.bl false)) .nil) .nil) (.cons (.ret (.blt "all" (.cons (.lc (.tup [1, 2]) (.enum (.var 0)) (.bop .And (.call "is_list" (.cons (.var 2) .nil)) (.cmp .Eq (.blt "len" (.cons (.var 2) .nil)) (.bin .Add (.var 1) (.int 1))))) .nil))) .nil))
def d_is_rows : Def := ⟨"is_rows", ["value"], ["value", "at", "row"], b_is_rows, false⟩
theorem c_is_rows {P : Pg} {W n : Nat} [Has P d_is_rows] (x0 : D) : callP P W noP (n + 1) "is_rows" [x0] = bnd (exSs P (callP P W noP n) W b_is_rows [some x0, none, none]) resM := call_has (d := d_is_rows) rfl rfl [x0] rfl
def b_Deed : ISs := (.cons (.ifs (.bop .Or (.not (.call "is_rows" (.cons (.var 1) .nil))) (.not (.blt "all" (.cons (.lc2 (.name 2) (.seq (.var 1)) (.name 3) (.seq (.var 2)) (.call "is_number" (.cons (.var 3) .nil))) .nil)))) (.cons .dead .nil) .nil) (.cons (.fld 0 "table" (.blt "tuple" (.cons (.lc (.name 2) (.seq (.var 1)) (.blt "tuple" (.cons (.var 2) .nil))) .nil))) .nil))
def d_Deed : Def := ⟨"Deed", ["self", "rows"], ["self", "rows", "row", "number"], b_Deed, true⟩
theorem c_Deed {P : Pg} {W n : Nat} [Has P d_Deed] (x0 : D) : callP P W noP (n + 1) "Deed" [x0] = bnd (exSs P (callP P W noP n) W b_Deed [some (.ins .own "Deed" [] []), some x0, none, none]) selfM := call_hasI (d := d_Deed) rfl rfl [x0] rfl
def b_Deed_rest : ISs := (.cons (.expr (.call "need_size" (.cons (.var 0) .nil))) (.cons (.ret (.call "Deed" (.cons (.lc (.name 1) (.range1 (.var 0)) (.bin .Mult (.lst (.cons (.int 0) .nil)) (.bin .Add (.var 1) (.int 1)))) .nil))) .nil))
def d_Deed_rest : Def := ⟨"Deed.rest", ["size"], ["size", "row"], b_Deed_rest, false⟩
theorem c_Deed_rest {P : Pg} {W n : Nat} [Has P d_Deed_rest] (x0 : D) : callP P W noP (n + 1) "Deed.rest" [x0] = bnd (exSs P (callP P W noP n) W b_Deed_rest [some x0, none]) resM := call_has (d := d_Deed_rest) rfl rfl [x0] rfl
def b_Deed_size : ISs := (.cons (.ret (.blt "len" (.cons (.attr (.var 0) "table") .nil))) .nil)
def d_Deed_size : Def := ⟨"Deed.size", ["self"], ["self"], b_Deed_size, false⟩
theorem c_Deed_size {P : Pg} {W n : Nat} [Has P d_Deed_size] (x0 : D) : callP P W noP (n + 1) "Deed.size" [x0] = bnd (exSs P (callP P W noP n) W b_Deed_size [some x0]) resM := call_has (d := d_Deed_size) rfl rfl [x0] rfl
def b_Deed_rows : ISs := (.cons (.ret (.lc (.name 1) (.seq (.attr (.var 0) "table")) (.blt "list" (.cons (.var 1) .nil)))) .nil)
def d_Deed_rows : Def := ⟨"Deed.rows", ["self"], ["self", "row"], b_Deed_rows, false⟩
theorem c_Deed_rows {P : Pg} {W n : Nat} [Has P d_Deed_rows] (x0 : D) : callP P W noP (n + 1) "Deed.rows" [x0] = bnd (exSs P (callP P W noP n) W b_Deed_rows [some x0, none]) resM := call_has (d := d_Deed_rows) rfl rfl [x0] rfl
def b_Deed_back : ISs := (.cons (.ret (.call "Deed" (.cons (.call "inverse" (.cons (.attr (.var 0) "table") .nil)) .nil))) .nil)
def d_Deed_back : Def := ⟨"Deed.back", ["self"], ["self"], b_Deed_back, false⟩
theorem c_Deed_back {P : Pg} {W n : Nat} [Has P d_Deed_back] (x0 : D) : callP P W noP (n + 1) "Deed.back" [x0] = bnd (exSs P (callP P W noP n) W b_Deed_back [some x0]) resM := call_has (d := d_Deed_back) rfl rfl [x0] rfl
def b_Deed_turned : ISs := (.cons (.ret (.bin .Mult (.bin .Mult (.meth (.var 1) "back" .nil) (.var 0)) (.var 1))) .nil)
def d_Deed_turned : Def := ⟨"Deed.turned", ["self", "other"], ["self", "other"], b_Deed_turned, false⟩
theorem c_Deed_turned {P : Pg} {W n : Nat} [Has P d_Deed_turned] (x0 x1 : D) : callP P W noP (n + 1) "Deed.turned" [x0, x1] = bnd (exSs P (callP P W noP n) W b_Deed_turned [some x0, some x1]) resM := call_has (d := d_Deed_turned) rfl rfl [x0, x1] rfl
def b_Deed_crossed : ISs := (.cons (.ret (.bin .Mult (.bin .Mult (.bin .Mult (.meth (.var 0) "back" .nil) (.meth (.var 1) "back" .nil)) (.var 0)) (.var 1))) .nil)
def d_Deed_crossed : Def := ⟨"Deed.crossed", ["self", "other"], ["self", "other"], b_Deed_crossed, false⟩
theorem c_Deed_crossed {P : Pg} {W n : Nat} [Has P d_Deed_crossed] (x0 x1 : D) : callP P W noP (n + 1) "Deed.crossed" [x0, x1] = bnd (exSs P (callP P W noP n) W b_Deed_crossed [some x0, some x1]) resM := call_has (d := d_Deed_crossed) rfl rfl [x0, x1] rfl
def b_Deed__mul : ISs := (.cons (.ifs (.cmp .NotEq (.attr (.var 1) "size") (.attr (.var 0) "size")) (.cons .dead .nil) .nil) (.cons (.ret (.call "Deed" (.cons (.call "behind" (.cons (.attr (.var 0) "table") (.cons (.attr (.var 1) "table") .nil))) .nil))) .nil))
def d_Deed__mul : Def := ⟨"Deed.__mul__", ["self", "other"], ["self", "other"], b_Deed__mul, false⟩
theorem c_Deed__mul {P : Pg} {W n : Nat} [Has P d_Deed__mul] (x0 x1 : D) : callP P W noP (n + 1) "Deed.__mul__" [x0, x1] = bnd (exSs P (callP P W noP n) W b_Deed__mul [some x0, some x1]) resM := call_has (d := d_Deed__mul) rfl rfl [x0, x1] rfl
def b_Deed__eq : ISs := (.cons (.ret (.bop .And (.isi (.var 1) ["Deed"]) (.cmp .Eq (.attr (.var 0) "table") (.attr (.var 1) "table")))) .nil)
def d_Deed__eq : Def := ⟨"Deed.__eq__", ["self", "other"], ["self", "other"], b_Deed__eq, false⟩
theorem c_Deed__eq {P : Pg} {W n : Nat} [Has P d_Deed__eq] (x0 x1 : D) : callP P W noP (n + 1) "Deed.__eq__" [x0, x1] = bnd (exSs P (callP P W noP n) W b_Deed__eq [some x0, some x1]) resM := call_has (d := d_Deed__eq) rfl rfl [x0, x1] rfl
def b_Deed__bool : ISs := (.cons (.ret (.blt "any" (.cons (.lc2 (.name 1) (.seq (.attr (.var 0) "table")) (.name 2) (.seq (.var 1)) (.cmp .NotEq (.var 2) (.int 0))) .nil))) .nil)
def d_Deed__bool : Def := ⟨"Deed.__bool__", ["self"], ["self", "row", "number"], b_Deed__bool, false⟩
theorem c_Deed__bool {P : Pg} {W n : Nat} [Has P d_Deed__bool] (x0 : D) : callP P W noP (n + 1) "Deed.__bool__" [x0] = bnd (exSs P (callP P W noP n) W b_Deed__bool [some x0, none, none]) resM := call_has (d := d_Deed__bool) rfl rfl [x0] rfl
def b_law_draw : ISs := (.cons (.bset 0 4 (.bin .Add (.bget 0 4) (.int 1))) (.cons (.ifs (.bop .And (.cmp .Eq (.bget 0 2) (.int 0)) (.cmp .Lt (.bget 0 1) (.blen 0))) (.cons (.asg 3 (.bcell 0 (.bget 0 1))) (.cons (.bset 0 1 (.bin .Add (.bget 0 1) (.int 1))) (.cons (.ifs (.cmp .GtE (.var 3) (.bin .Pow (.int 10) (.int 18))) (.cons (.bset 0 2 (.var 3)) .nil) (.cons (.bset 0 3 (.bin .Mod (.blt "int" (.cons (.bin .Add (.bin .Add (.bin .Mult (.bget 0 3) (.int 38867)) (.bin .Mult (.bin .Mod (.blt "int" (.cons (.var 3) .nil)) (.int 2147483497)) (.int 41077))) (.int 37)) .nil)) (.int 2147483587))) .nil)) .nil))) .nil) (.cons (.ifs (.cmp .Gt (.bget 0 2) (.int 0)) (.cons (.asg 4 (.bin .Mod (.blt "int" (.cons (.bget 0 2) .nil)) (.var 1))) (.cons (.bset 0 2 (.bin .FloorDiv (.bget 0 2) (.var 1))) (.cons (.ret (.var 4)) .nil))) .nil) (.cons (.asg 2 (.bget 0 3)) (.cons (.bset 0 3 (.bin .Mod (.blt "int" (.cons (.bin .Add (.bin .Add (.bin .Add (.bin .Pow (.var 2) (.int 3)) (.bin .Mult (.var 2) (.int 39119))) (.bin .Mult (.bget 0 4) (.int 1299689))) (.int 54321)) .nil)) (.int 2147483587))) (.cons (.ret (.bin .Mod (.blt "int" (.cons (.bin .Add (.bin .FloorDiv (.bget 0 3) (.int 89)) (.bin .Mult (.bin .Mod (.blt "int" (.cons (.bget 0 3) .nil)) (.int 7901)) (.int 59))) .nil)) (.var 1))) .nil))))))
def d_law_draw : Def := ⟨"_law_draw", ["_law_bag", "_law_sides"], ["_law_bag", "_law_sides", "_law_seed", "_law_cell", "_law_digit"], b_law_draw, false⟩
theorem c_law_draw {P : Pg} {W n : Nat} [Has P d_law_draw] (x0 x1 : D) : callP P W noP (n + 1) "_law_draw" [x0, x1] = bnd (exSs P (callP P W noP n) W b_law_draw [some x0, some x1, none, none, none]) resM := call_has (d := d_law_draw) rfl rfl [x0, x1] rfl
def b_law_any : ISs := (.cons (.ret (.idx (.var 1) (.call "_law_draw" (.cons (.var 0) (.cons (.blt "len" (.cons (.var 1) .nil)) .nil))))) .nil)
def d_law_any : Def := ⟨"_law_any", ["_law_bag", "_law_things"], ["_law_bag", "_law_things"], b_law_any, false⟩
theorem c_law_any {P : Pg} {W n : Nat} [Has P d_law_any] (x0 x1 : D) : callP P W noP (n + 1) "_law_any" [x0, x1] = bnd (exSs P (callP P W noP n) W b_law_any [some x0, some x1]) resM := call_has (d := d_law_any) rfl rfl [x0, x1] rfl
def b_law_like : ISs := (.cons (.ifs (.isi (.var 1) ["list", "tuple"]) (.cons (.ifs (.bop .Or (.cmp .NotEq (.isi (.var 0) ["list"]) (.isi (.var 1) ["list"])) (.cmp .NotEq (.isi (.var 0) ["tuple"]) (.isi (.var 1) ["tuple"]))) (.cons (.ret (.bl false)) .nil) .nil) (.cons (.ret (.bop .And (.cmp .Eq (.blt "len" (.cons (.var 0) .nil)) (.blt "len" (.cons (.var 1) .nil))) (.blt "all" (.cons (.lc (.tup [2, 3]) (.zip (.var 0) (.var 1)) (.call "_law_like" (.cons (.var 2) (.cons (.var 3) .nil)))) .nil)))) .nil)) .nil) (.cons (.ifs (.bop .Or (.cmp .Is (.var 1) .non) (.cmp .Is (.var 0) .non)) (.cons (.ret (.bop .And (.cmp .Is (.var 1) .non) (.cmp .Is (.var 0) .non))) .nil) .nil) (.cons (.ifs (.bop .Or (.cmp .NotEq (.isi (.var 1) ["bool"]) (.isi (.var 0) ["bool"])) (.cmp .NotEq (.isi (.var 1) ["int"]) (.isi (.var 0) ["int"]))) (.cons (.ret (.bl false)) .nil) .nil) (.cons (.ret (.bop .And (.cmp .Eq (.isi (.var 1) ["str"]) (.isi (.var 0) ["str"])) (.cmp .Eq (.var 0) (.var 1)))) .nil))))
def d_law_like : Def := ⟨"_law_like", ["_law_found", "_law_due"], ["_law_found", "_law_due", "_law_a", "_law_b"], b_law_like, false⟩
theorem c_law_like {P : Pg} {W n : Nat} [Has P d_law_like] (x0 x1 : D) : callP P W noP (n + 1) "_law_like" [x0, x1] = bnd (exSs P (callP P W noP n) W b_law_like [some x0, some x1, none, none]) resM := call_has (d := d_law_like) rfl rfl [x0, x1] rfl
def b_law_small : ISs := (.cons (.ret (.call "_law_any" (.cons (.var 0) (.cons (.lst (.cons (.int 0) (.cons (.int 0) (.cons (.int 1) (.cons (.bin .Sub (.call "_law_draw" (.cons (.var 0) (.cons (.bin .Add (.bin .Mult (.int 2) (.var 1)) (.int 1)) .nil))) (.var 1)) .nil))))) .nil)))) .nil)
def d_law_small : Def := ⟨"_law_small", ["_law_bag", "_law_most"], ["_law_bag", "_law_most"], b_law_small, false⟩
theorem c_law_small {P : Pg} {W n : Nat} [Has P d_law_small] (x0 x1 : D) : callP P W noP (n + 1) "_law_small" [x0, x1] = bnd (exSs P (callP P W noP n) W b_law_small [some x0, some x1]) resM := call_has (d := d_law_small) rfl rfl [x0, x1] rfl
def b_law_rows : ISs := (.cons (.ret (.lc (.name 3) (.range1 (.var 1)) (.lc (.name 4) (.range1 (.bin .Add (.var 3) (.int 1))) (.call "_law_small" (.cons (.var 0) (.cons (.var 2) .nil)))))) .nil)
def d_law_rows : Def := ⟨"_law_rows", ["_law_bag", "_law_size", "_law_most"], ["_law_bag", "_law_size", "_law_most", "_law_row", "_law_column"], b_law_rows, false⟩
theorem c_law_rows {P : Pg} {W n : Nat} [Has P d_law_rows] (x0 x1 x2 : D) : callP P W noP (n + 1) "_law_rows" [x0, x1, x2] = bnd (exSs P (callP P W noP n) W b_law_rows [some x0, some x1, some x2, none, none]) resM := call_has (d := d_law_rows) rfl rfl [x0, x1, x2] rfl
def b_law_on : ISs := (.cons (.asg 2 (.lst .nil)) (.cons (.forr (.name 3) (.range1 (.blt "len" (.cons (.var 0) .nil))) (.cons (.asg 4 (.lc (.tup [5, 6]) (.zip (.sl (.idx (.var 0) (.var 3)) (.part (.int 1)) .nopart) (.sl (.var 1) .nopart (.part (.var 3)))) (.bin .Mult (.var 5) (.var 6)))) (.cons (.app 2 (.bin .Add (.bin .Add (.idx (.var 1) (.var 3)) (.idx (.idx (.var 0) (.var 3)) (.int 0))) (.blt "sum" (.cons (.var 4) .nil)))) .nil))) (.cons (.ret (.var 2)) .nil)))
def d_law_on : Def := ⟨"_law_on", ["_law_rows_here", "_law_state"], ["_law_rows_here", "_law_state", "_law_found", "_law_at", "_law_more", "_law_number", "_law_value"], b_law_on, false⟩
theorem c_law_on {P : Pg} {W n : Nat} [Has P d_law_on] (x0 x1 : D) : callP P W noP (n + 1) "_law_on" [x0, x1] = bnd (exSs P (callP P W noP n) W b_law_on [some x0, some x1, none, none, none, none, none]) resM := call_has (d := d_law_on) rfl rfl [x0, x1] rfl
def b_law_undone : ISs := (.cons (.asg 2 (.lst .nil)) (.cons (.forr (.name 3) (.range1 (.blt "len" (.cons (.var 0) .nil))) (.cons (.asg 4 (.lc (.tup [5, 6]) (.zip (.sl (.idx (.var 0) (.var 3)) (.part (.int 1)) .nopart) (.var 2)) (.bin .Mult (.var 5) (.var 6)))) (.cons (.app 2 (.bin .Sub (.bin .Sub (.idx (.var 1) (.var 3)) (.idx (.idx (.var 0) (.var 3)) (.int 0))) (.blt "sum" (.cons (.var 4) .nil)))) .nil))) (.cons (.ret (.var 2)) .nil)))
def d_law_undone : Def := ⟨"_law_undone", ["_law_rows_here", "_law_state"], ["_law_rows_here", "_law_state", "_law_found", "_law_at", "_law_more", "_law_number", "_law_value"], b_law_undone, false⟩
theorem c_law_undone {P : Pg} {W n : Nat} [Has P d_law_undone] (x0 x1 : D) : callP P W noP (n + 1) "_law_undone" [x0, x1] = bnd (exSs P (callP P W noP n) W b_law_undone [some x0, some x1, none, none, none, none, none]) resM := call_has (d := d_law_undone) rfl rfl [x0, x1] rfl
def b_law_read_off : ISs := (.cons (.par [2, 3] (.cons (.lst .nil) (.cons (.idx (.var 0) (.int 0)) .nil))) (.cons (.forr (.name 1) (.range1 (.blt "len" (.cons (.var 3) .nil))) (.cons (.app 2 (.bin .Add (.lst (.cons (.idx (.var 3) (.var 1)) .nil)) (.lc (.name 4) (.seq (.sl (.var 0) (.part (.int 1)) (.part (.bin .Add (.var 1) (.int 1))))) (.bin .Sub (.idx (.var 4) (.var 1)) (.idx (.var 3) (.var 1)))))) .nil)) (.cons (.ret (.var 2)) .nil)))
def d_law_read_off : Def := ⟨"_law_read_off", ["_law_ends"], ["_law_ends", "_law_row", "_law_found", "_law_low", "_law_late"], b_law_read_off, false⟩
theorem c_law_read_off {P : Pg} {W n : Nat} [Has P d_law_read_off] (x0 : D) : callP P W noP (n + 1) "_law_read_off" [x0] = bnd (exSs P (callP P W noP n) W b_law_read_off [some x0, none, none, none, none]) resM := call_has (d := d_law_read_off) rfl rfl [x0] rfl
def b_law_units : ISs := (.cons (.ret (.bin .Add (.lst (.cons (.bin .Mult (.lst (.cons (.int 0) .nil)) (.var 0)) .nil)) (.lc (.name 1) (.range1 (.var 0)) (.lc (.name 2) (.range1 (.var 0)) (.blt "int" (.cons (.cmp .Eq (.var 2) (.var 1)) .nil)))))) .nil)
def d_law_units : Def := ⟨"_law_units", ["_law_size"], ["_law_size", "_law_one", "_law_at"], b_law_units, false⟩
theorem c_law_units {P : Pg} {W n : Nat} [Has P d_law_units] (x0 : D) : callP P W noP (n + 1) "_law_units" [x0] = bnd (exSs P (callP P W noP n) W b_law_units [some x0, none, none]) resM := call_has (d := d_law_units) rfl rfl [x0] rfl
def b_law_then : ISs := (.cons (.ret (.call "_law_read_off" (.cons (.lc (.name 2) (.seq (.call "_law_units" (.cons (.blt "len" (.cons (.var 0) .nil)) .nil))) (.call "_law_on" (.cons (.var 1) (.cons (.call "_law_on" (.cons (.var 0) (.cons (.var 2) .nil))) .nil)))) .nil))) .nil)
def d_law_then : Def := ⟨"_law_then", ["_law_one", "_law_other_z"], ["_law_one", "_law_other_z", "_law_state"], b_law_then, false⟩
theorem c_law_then {P : Pg} {W n : Nat} [Has P d_law_then] (x0 x1 : D) : callP P W noP (n + 1) "_law_then" [x0, x1] = bnd (exSs P (callP P W noP n) W b_law_then [some x0, some x1, none]) resM := call_has (d := d_law_then) rfl rfl [x0, x1] rfl
def b_law_back : ISs := (.cons (.ret (.call "_law_read_off" (.cons (.lc (.name 1) (.seq (.call "_law_units" (.cons (.blt "len" (.cons (.var 0) .nil)) .nil))) (.call "_law_undone" (.cons (.var 0) (.cons (.var 1) .nil)))) .nil))) .nil)
def d_law_back : Def := ⟨"_law_back", ["_law_rows_here"], ["_law_rows_here", "_law_state"], b_law_back, false⟩
theorem c_law_back {P : Pg} {W n : Nat} [Has P d_law_back] (x0 : D) : callP P W noP (n + 1) "_law_back" [x0] = bnd (exSs P (callP P W noP n) W b_law_back [some x0, none]) resM := call_has (d := d_law_back) rfl rfl [x0] rfl
def b_law_turned : ISs := (.cons (.ret (.call "_law_then" (.cons (.call "_law_then" (.cons (.call "_law_back" (.cons (.var 1) .nil)) (.cons (.var 0) .nil))) (.cons (.var 1) .nil)))) .nil)
def d_law_turned : Def := ⟨"_law_turned", ["_law_one", "_law_other_z"], ["_law_one", "_law_other_z"], b_law_turned, false⟩
theorem c_law_turned {P : Pg} {W n : Nat} [Has P d_law_turned] (x0 x1 : D) : callP P W noP (n + 1) "_law_turned" [x0, x1] = bnd (exSs P (callP P W noP n) W b_law_turned [some x0, some x1]) resM := call_has (d := d_law_turned) rfl rfl [x0, x1] rfl
def b_law_crossed : ISs := (.cons (.ret (.call "_law_then" (.cons (.call "_law_back" (.cons (.call "_law_then" (.cons (.var 1) (.cons (.var 0) .nil))) .nil)) (.cons (.call "_law_then" (.cons (.var 0) (.cons (.var 1) .nil))) .nil)))) .nil)
def d_law_crossed : Def := ⟨"_law_crossed", ["_law_one", "_law_other_z"], ["_law_one", "_law_other_z"], b_law_crossed, false⟩
theorem c_law_crossed {P : Pg} {W n : Nat} [Has P d_law_crossed] (x0 x1 : D) : callP P W noP (n + 1) "_law_crossed" [x0, x1] = bnd (exSs P (callP P W noP n) W b_law_crossed [some x0, some x1]) resM := call_has (d := d_law_crossed) rfl rfl [x0, x1] rfl
end TI.TL

set_option Elab.async false
set_option linter.all false
set_option maxRecDepth 100000
set_option maxHeartbeats 4000000
/-! defs in the compact form -/
namespace TI.TL
open PySem PySem.Spec PyProof.Rows L2
def b_strict_product : ISs := (.cons (.asg 2 (.lst .nil)) (.cons (.forr (.name 3) (.range1 (.blt "len" (.cons (.var 0) .nil))) (.cons (.asg 4 (.lst .nil)) (.cons (.forr (.name 5) (.range1 (.bin .Add (.var 3) (.int 1))) (.cons (.asg 6 (.bin .Mult (.idx (.idx (.var 0) (.var 3)) (.var 5)) (.int 0))) (.cons (.forr (.name 7) (.range2 (.var 5) (.var 3)) (.cons (.asg 6 (.bin .Add (.var 6) (.bin .Mult (.idx (.idx (.var 1) (.var 3)) (.bin .Add (.var 7) (.int 1))) (.idx (.idx (.var 0) (.var 7)) (.var 5))))) .nil)) (.cons (.app 4 (.var 6)) .nil)))) (.cons (.app 2 (.var 4)) .nil)))) (.cons (.ret (.var 2)) .nil)))
def d_strict_product : Def := ⟨"strict_product", ["one", "other"], ["one", "other", "found", "row", "line", "column", "total", "middle"], b_strict_product, false⟩
theorem c_strict_product {P : Pg} {W n : Nat} [Has P d_strict_product] (x0 x1 : D) : callP P W noP (n + 1) "strict_product" [x0, x1] = bnd (exSs P (callP P W noP n) W b_strict_product [some x0, some x1, none, none, none, none, none, none]) resM := call_has (d := d_strict_product) rfl rfl [x0, x1] rfl
def b_powered : ISs := (.cons (.par [3, 4] (.cons (.lc (.name 5) (.seq (.var 0)) (.lc (.name 6) (.seq (.var 5)) (.bin .Mult (.var 6) (.idx (.var 1) (.int 0))))) (.cons (.var 0) .nil))) (.cons (.forr (.name 2) (.seq (.sl (.var 1) (.part (.int 1)) .nopart)) (.cons (.asg 4 (.call "strict_product" (.cons (.var 4) (.cons (.var 0) .nil)))) (.cons (.asg 3 (.lc (.tup [7, 5]) (.zip (.var 3) (.var 4)) (.lc (.tup [8, 9]) (.zip (.var 7) (.var 5)) (.bin .Add (.var 8) (.bin .Mult (.var 9) (.var 2)))))) .nil))) (.cons (.ret (.var 3)) .nil)))
def d_powered : Def := ⟨"powered", ["rows", "choices"], ["rows", "choices", "choice", "found", "step", "row", "number", "line", "have", "more"], b_powered, false⟩
theorem c_powered {P : Pg} {W n : Nat} [Has P d_powered] (x0 x1 : D) : callP P W noP (n + 1) "powered" [x0, x1] = bnd (exSs P (callP P W noP n) W b_powered [some x0, some x1, none, none, none, none, none, none, none, none]) resM := call_has (d := d_powered) rfl rfl [x0, x1] rfl
def b_row_behind : ISs := (.cons (.asg 3 (.bin .Add (.idx (.var 0) (.int 0)) (.idx (.var 1) (.var 2)))) (.cons (.forr (.tup [4, 5]) (.zip (.sl (.var 1) .nopart (.part (.var 2))) (.sl (.var 0) (.part (.int 1)) .nopart)) (.cons (.asg 3 (.bin .Add (.var 3) (.bin .Mult (.var 5) (.var 4)))) .nil)) (.cons (.ret (.var 3)) .nil)))
def d_row_behind : Def := ⟨"row_behind", ["numbers", "values", "at"], ["numbers", "values", "at", "total", "value", "number"], b_row_behind, false⟩
theorem c_row_behind {P : Pg} {W n : Nat} [Has P d_row_behind] (x0 x1 x2 : D) : callP P W noP (n + 1) "row_behind" [x0, x1, x2] = bnd (exSs P (callP P W noP n) W b_row_behind [some x0, some x1, some x2, none, none, none]) resM := call_has (d := d_row_behind) rfl rfl [x0, x1, x2] rfl
def b_choose : ISs := (.cons (.par [3, 4] (.cons (.int 1) (.cons (.int 1) .nil))) (.cons (.forr (.name 2) (.range1 (.var 1)) (.cons (.par [3, 4] (.cons (.bin .Mult (.var 3) (.bin .Sub (.var 0) (.var 2))) (.cons (.bin .Mult (.var 4) (.bin .Add (.var 2) (.int 1))) .nil))) .nil)) (.cons (.ret (.bin .FloorDiv (.var 3) (.var 4))) .nil)))
def d_choose : Def := ⟨"choose", ["count", "depth"], ["count", "depth", "step", "top", "bottom"], b_choose, false⟩
theorem c_choose {P : Pg} {W n : Nat} [Has P d_choose] (x0 x1 : D) : callP P W noP (n + 1) "choose" [x0, x1] = bnd (exSs P (callP P W noP n) W b_choose [some x0, some x1, none, none, none]) resM := call_has (d := d_choose) rfl rfl [x0, x1] rfl
def b_is_state : ISs := (.cons (.expr (.call "need_size" (.cons (.var 0) .nil))) (.cons (.ret (.bop .And (.call "is_list" (.cons (.var 1) .nil)) (.bop .And (.cmp .Eq (.blt "len" (.cons (.var 1) .nil)) (.var 0)) (.blt "all" (.cons (.lc (.name 2) (.seq (.var 1)) (.call "is_number" (.cons (.var 2) .nil))) .nil))))) .nil))
def d_is_state : Def := ⟨"is_state", ["size", "value"], ["size", "value", "one"], b_is_state, false⟩
theorem c_is_state {P : Pg} {W n : Nat} [Has P d_is_state] (x0 x1 : D) : callP P W noP (n + 1) "is_state" [x0, x1] = bnd (exSs P (callP P W noP n) W b_is_state [some x0, some x1, none]) resM := call_has (d := d_is_state) rfl rfl [x0, x1] rfl
def b_need_state : ISs := (.cons (.ifs (.not (.call "is_state" (.cons (.var 0) (.cons (.var 1) .nil)))) (.cons .dead .nil) .nil) .nil)
def d_need_state : Def := ⟨"need_state", ["size", "value"], ["size", "value"], b_need_state, false⟩
theorem c_need_state {P : Pg} {W n : Nat} [Has P d_need_state] (x0 x1 : D) : callP P W noP (n + 1) "need_state" [x0, x1] = bnd (exSs P (callP P W noP n) W b_need_state [some x0, some x1]) resM := call_has (d := d_need_state) rfl rfl [x0, x1] rfl
def b_Deed_on : ISs := (.cons (.expr (.call "need_state" (.cons (.attr (.var 0) "size") (.cons (.var 1) .nil)))) (.cons (.ret (.lc (.tup [2, 3]) (.enum (.attr (.var 0) "table")) (.call "row_behind" (.cons (.var 3) (.cons (.blt "list" (.cons (.var 1) .nil)) (.cons (.var 2) .nil)))))) .nil))
def d_Deed_on : Def := ⟨"Deed.on", ["self", "state"], ["self", "state", "at", "row"], b_Deed_on, false⟩
theorem c_Deed_on {P : Pg} {W n : Nat} [Has P d_Deed_on] (x0 x1 : D) : callP P W noP (n + 1) "Deed.on" [x0, x1] = bnd (exSs P (callP P W noP n) W b_Deed_on [some x0, some x1, none, none]) resM := call_has (d := d_Deed_on) rfl rfl [x0, x1] rfl
def b_Deed_times : ISs := (.cons (.ifs (.not (.call "is_number" (.cons (.var 1) .nil))) (.cons .dead .nil) .nil) (.cons (.ret (.call "Deed" (.cons (.call "powered" (.cons (.attr (.var 0) "table") (.cons (.lc (.name 2) (.range1 (.attr (.var 0) "size")) (.call "choose" (.cons (.var 1) (.cons (.bin .Add (.var 2) (.int 1)) .nil)))) .nil))) .nil))) .nil))
def d_Deed_times : Def := ⟨"Deed.times", ["self", "count"], ["self", "count", "depth"], b_Deed_times, false⟩
theorem c_Deed_times {P : Pg} {W n : Nat} [Has P d_Deed_times] (x0 x1 : D) : callP P W noP (n + 1) "Deed.times" [x0, x1] = bnd (exSs P (callP P W noP n) W b_Deed_times [some x0, some x1, none]) resM := call_has (d := d_Deed_times) rfl rfl [x0, x1] rfl
def b_law_idle : ISs := (.cons (.ret (.lc (.name 1) (.range1 (.var 0)) (.bin .Mult (.lst (.cons (.int 0) .nil)) (.bin .Add (.var 1) (.int 1))))) .nil)
def d_law_idle : Def := ⟨"_law_idle", ["_law_size"], ["_law_size", "_law_row"], b_law_idle, false⟩
theorem c_law_idle {P : Pg} {W n : Nat} [Has P d_law_idle] (x0 : D) : callP P W noP (n + 1) "_law_idle" [x0] = bnd (exSs P (callP P W noP n) W b_law_idle [some x0, none]) resM := call_has (d := d_law_idle) rfl rfl [x0] rfl
def b_law_times : ISs := (.cons (.asg 2 (.call "_law_idle" (.cons (.blt "len" (.cons (.var 0) .nil)) .nil))) (.cons (.asg 3 (.ife (.cmp .GtE (.var 1) (.int 0)) (.var 0) (.call "_law_back" (.cons (.var 0) .nil)))) (.cons (.asg 4 (.blt "abs" (.cons (.var 1) .nil))) (.cons (.whil (.cmp .Gt (.var 4) (.int 0)) (.cons (.ifs (.cmp .Eq (.bin .Mod (.blt "int" (.cons (.var 4) .nil)) (.int 2)) (.int 1)) (.cons (.asg 2 (.call "_law_then" (.cons (.var 2) (.cons (.var 3) .nil)))) .nil) .nil) (.cons (.par [3, 4] (.cons (.call "_law_then" (.cons (.var 3) (.cons (.var 3) .nil))) (.cons (.bin .FloorDiv (.var 4) (.int 2)) .nil))) .nil))) (.cons (.ret (.var 2)) .nil)))))
def d_law_times : Def := ⟨"_law_times", ["_law_rows_here", "_law_count_z"], ["_law_rows_here", "_law_count_z", "_law_found", "_law_base", "_law_left"], b_law_times, false⟩
theorem c_law_times {P : Pg} {W n : Nat} [Has P d_law_times] (x0 x1 : D) : callP P W noP (n + 1) "_law_times" [x0, x1] = bnd (exSs P (callP P W noP n) W b_law_times [some x0, some x1, none, none, none]) resM := call_has (d := d_law_times) rfl rfl [x0, x1] rfl
def b_law_state : ISs := (.cons (.ret (.lc (.name 3) (.range1 (.var 1)) (.bin .Sub (.call "_law_draw" (.cons (.var 0) (.cons (.bin .Add (.bin .Mult (.int 2) (.var 2)) (.int 1)) .nil))) (.var 2)))) .nil)
def d_law_state : Def := ⟨"_law_state", ["_law_bag", "_law_size", "_law_most"], ["_law_bag", "_law_size", "_law_most", "_law_at"], b_law_state, false⟩
theorem c_law_state {P : Pg} {W n : Nat} [Has P d_law_state] (x0 x1 x2 : D) : callP P W noP (n + 1) "_law_state" [x0, x1, x2] = bnd (exSs P (callP P W noP n) W b_law_state [some x0, some x1, some x2, none]) resM := call_has (d := d_law_state) rfl rfl [x0, x1, x2] rfl
end TI.TL

set_option Elab.async false
set_option linter.all false
set_option maxRecDepth 100000
set_option maxHeartbeats 4000000
/-! defs in the compact form -/
namespace TI.TL
open PySem PySem.Spec PyProof.Rows L2
def b_law_some_errors : ISs := (.cons (.asg 1 (.lst (.cons (.exc "InvalidSize" (.cons (.var 0) .nil)) (.cons (.exc "InvalidPlace" (.cons (.var 0) .nil)) (.cons (.exc "InvalidCount" (.cons (.var 0) .nil)) (.cons (.exc "InvalidProgram" (.cons (.var 0) .nil)) .nil)))))) (.cons (.asg 1 (.bin .Add (.var 1) (.lst (.cons (.exc "TooWide" (.cons (.var 0) .nil)) (.cons (.exc "OpenCounts" (.cons (.var 0) .nil)) (.cons (.exc "InvalidRecipe" (.cons (.var 0) .nil)) (.cons (.exc "TooSteep" (.cons (.var 0) .nil)) .nil))))))) (.cons (.asg 1 (.bin .Add (.var 1) (.lst (.cons (.exc "InvalidModulus" (.cons (.var 0) .nil)) (.cons (.exc "TooMany" (.cons (.var 0) .nil)) (.cons (.exc "InvalidName" (.cons (.var 0) .nil)) (.cons (.exc "DuplicateName" (.cons (.var 0) .nil)) .nil))))))) (.cons (.asg 1 (.bin .Add (.var 1) (.lst (.cons (.exc "WrongKind" (.cons (.var 0) .nil)) (.cons (.exc "CapacityExceeded" (.cons (.var 0) .nil)) (.cons (.exc "InvalidLimit" (.cons (.var 0) .nil)) (.cons (.exc "InvalidCommand" (.cons (.var 0) .nil)) .nil))))))) (.cons (.asg 1 (.bin .Add (.var 1) (.lst (.cons (.exc "InUse" (.cons (.var 0) .nil)) (.cons (.exc "ParseError" (.cons (.var 0) .nil)) (.cons (.exc "InvalidState" .nil) (.cons (.exc "InvalidDeed" .nil) (.cons (.exc "InvalidPolynomial" .nil) .nil)))))))) (.cons (.ret (.bin .Add (.var 1) (.lst (.cons (.exc "NotWhole" .nil) (.cons (.exc "SizesDiffer" .nil) (.cons (.exc "InvalidWorkshop" .nil) (.cons (.exc "InvalidRemainders" .nil) .nil))))))) .nil))))))
def d_law_some_errors : Def := ⟨"_law_some_errors", ["_law_drawn"], ["_law_drawn", "_law_some"], b_law_some_errors, false⟩
theorem c_law_some_errors {P : Pg} {W n : Nat} [Has P d_law_some_errors] (x0 : D) : callP P W noP (n + 1) "_law_some_errors" [x0] = bnd (exSs P (callP P W noP n) W b_law_some_errors [some x0, none]) resM := call_has (d := d_law_some_errors) rfl rfl [x0] rfl
def b_law_kinds : ISs := (.cons (.asg 1 (.lst (.cons (.isi (.var 0) ["InvalidSize"]) (.cons (.isi (.var 0) ["InvalidPlace"]) (.cons (.isi (.var 0) ["InvalidCount"]) .nil))))) (.cons (.asg 1 (.bin .Add (.var 1) (.lst (.cons (.isi (.var 0) ["InvalidProgram"]) (.cons (.isi (.var 0) ["TooWide"]) (.cons (.isi (.var 0) ["OpenCounts"]) .nil)))))) (.cons (.asg 1 (.bin .Add (.var 1) (.lst (.cons (.isi (.var 0) ["InvalidRecipe"]) (.cons (.isi (.var 0) ["TooSteep"]) (.cons (.isi (.var 0) ["InvalidModulus"]) .nil)))))) (.cons (.asg 1 (.bin .Add (.var 1) (.lst (.cons (.isi (.var 0) ["TooMany"]) (.cons (.isi (.var 0) ["InvalidName"]) (.cons (.isi (.var 0) ["DuplicateName"]) .nil)))))) (.cons (.asg 1 (.bin .Add (.var 1) (.lst (.cons (.isi (.var 0) ["WrongKind"]) (.cons (.isi (.var 0) ["CapacityExceeded"]) (.cons (.isi (.var 0) ["InvalidLimit"]) .nil)))))) (.cons (.asg 1 (.bin .Add (.var 1) (.lst (.cons (.isi (.var 0) ["InvalidCommand"]) (.cons (.isi (.var 0) ["InUse"]) (.cons (.isi (.var 0) ["ParseError"]) .nil)))))) (.cons (.asg 1 (.bin .Add (.var 1) (.lst (.cons (.isi (.var 0) ["InvalidState"]) (.cons (.isi (.var 0) ["InvalidDeed"]) (.cons (.isi (.var 0) ["InvalidPolynomial"]) .nil)))))) (.cons (.asg 1 (.bin .Add (.var 1) (.lst (.cons (.isi (.var 0) ["NotWhole"]) (.cons (.isi (.var 0) ["SizesDiffer"]) (.cons (.isi (.var 0) ["InvalidWorkshop"]) .nil)))))) (.cons (.ret (.bin .Add (.var 1) (.lst (.cons (.isi (.var 0) ["InvalidRemainders"]) (.cons (.isi (.var 0) ["UnknownName"]) (.cons (.isi (.var 0) ["NothingLeft"]) .nil)))))) .nil)))))))))
def d_law_kinds : Def := ⟨"_law_kinds", ["_law_e"], ["_law_e", "_law_some"], b_law_kinds, false⟩
theorem c_law_kinds {P : Pg} {W n : Nat} [Has P d_law_kinds] (x0 : D) : callP P W noP (n + 1) "_law_kinds" [x0] = bnd (exSs P (callP P W noP n) W b_law_kinds [some x0, none]) resM := call_has (d := d_law_kinds) rfl rfl [x0] rfl
def b_law_told : ISs := (.cons (.asg 1 (.lst .nil)) (.cons (.app 1 (.attr (.idx (.var 0) (.int 0)) "given")) (.cons (.app 1 (.attr (.idx (.var 0) (.int 1)) "given")) (.cons (.app 1 (.attr (.idx (.var 0) (.int 2)) "given")) (.cons (.app 1 (.attr (.idx (.var 0) (.int 3)) "path")) (.cons (.app 1 (.attr (.idx (.var 0) (.int 4)) "most")) (.cons (.app 1 (.attr (.idx (.var 0) (.int 5)) "letters")) (.cons (.app 1 (.attr (.idx (.var 0) (.int 6)) "line")) (.cons (.app 1 (.attr (.idx (.var 0) (.int 7)) "most")) (.cons (.app 1 (.attr (.idx (.var 0) (.int 8)) "given")) (.cons (.app 1 (.attr (.idx (.var 0) (.int 9)) "most")) (.cons (.app 1 (.attr (.idx (.var 0) (.int 10)) "name")) (.cons (.app 1 (.attr (.idx (.var 0) (.int 11)) "name")) (.cons (.app 1 (.attr (.idx (.var 0) (.int 12)) "name")) (.cons (.app 1 (.attr (.idx (.var 0) (.int 13)) "limit")) (.cons (.app 1 (.attr (.idx (.var 0) (.int 14)) "given")) (.cons (.app 1 (.attr (.idx (.var 0) (.int 15)) "word")) (.cons (.app 1 (.attr (.idx (.var 0) (.int 16)) "user")) (.cons (.app 1 (.attr (.idx (.var 0) (.int 17)) "line")) (.cons (.ret (.var 1)) .nil))))))))))))))))))))
def d_law_told : Def := ⟨"_law_told", ["_law_made"], ["_law_made", "_law_some"], b_law_told, false⟩
theorem c_law_told {P : Pg} {W n : Nat} [Has P d_law_told] (x0 : D) : callP P W noP (n + 1) "_law_told" [x0] = bnd (exSs P (callP P W noP n) W b_law_told [some x0, none]) resM := call_has (d := d_law_told) rfl rfl [x0] rfl
def b_law_by_name : ISs := (.cons (.asg 0 (.lst (.cons (.attr (.exck "InvalidSize" "given" (.int 5)) "given") (.cons (.attr (.exck "InvalidPlace" "given" (.int 5)) "given") (.cons (.attr (.exck "InvalidCount" "given" (.int 5)) "given") .nil))))) (.cons (.asg 0 (.bin .Add (.var 0) (.lst (.cons (.attr (.exck "InvalidProgram" "path" (.int 5)) "path") (.cons (.attr (.exck "TooWide" "most" (.int 5)) "most") (.cons (.attr (.exck "OpenCounts" "letters" (.int 5)) "letters") .nil)))))) (.cons (.asg 0 (.bin .Add (.var 0) (.lst (.cons (.attr (.exck "InvalidRecipe" "line" (.int 5)) "line") (.cons (.attr (.exck "TooSteep" "most" (.int 5)) "most") (.cons (.attr (.exck "InvalidModulus" "given" (.int 5)) "given") .nil)))))) (.cons (.ret (.bin .Add (.var 0) (.lst (.cons (.attr (.exck "TooMany" "most" (.int 5)) "most") (.cons (.attr (.exck "InvalidName" "name" (.int 5)) "name") (.cons (.attr (.exck "DuplicateName" "name" (.int 5)) "name") .nil)))))) .nil))))
def d_law_by_name : Def := ⟨"_law_by_name", [], ["_law_some"], b_law_by_name, false⟩
theorem c_law_by_name {P : Pg} {W n : Nat} [Has P d_law_by_name] : callP P W noP (n + 1) "_law_by_name" [] = bnd (exSs P (callP P W noP n) W b_law_by_name [none]) resM := call_has (d := d_law_by_name) rfl rfl [] rfl
end TI.TL

set_option Elab.async false
set_option linter.all false
set_option maxRecDepth 100000
set_option maxHeartbeats 2000000
/-! the drawing -/
namespace TI.TL
open PySem PySem.Spec PyProof.Rows L2
theorem mulOk_of {i j : Int} (h : i.natAbs < 2 ^ 400000) (h2 : j.natAbs < 2 ^ 400000) : mulOk i j = true := by
  unfold mulOk
  rw [decide_eq_true h, decide_eq_true h2]; rfl
theorem pow_big {k : Nat} (h : k ≤ 400000) : 2 ^ k ≤ 2 ^ 400000 := Nat.pow_le_pow_right (by decide) h
theorem small_of {i : Int} {k : Nat} (h : i.natAbs < 2 ^ k) (hk : k ≤ 400000) : i.natAbs < 2 ^ 400000 := Nat.lt_of_lt_of_le h (pow_big hk)
/-- a number is small -/
theorem sm62 {i : Int} (h : i.natAbs < 2 ^ 62) : i.natAbs < 2 ^ 400000 := small_of h (by decide)
section
variable {P : Pg} {W n : Nat}
theorem bget_ap (cl : Str → List D → M D) (r : Env) (i : Nat) (b : Bag) : (evA P cl (.bget 0 i)).v (some .bag :: r) b = (b.get i).map fun j => (D.int j, b) := nr rfl
theorem bset_ap (r : Env) (i : Nat) (j : Int) (b : Bag) : bsetM (some .bag :: r) 0 i (.int j) b = (b.set j i).map fun b' => (Fw.nx (some .bag :: r), b') := nr rfl
theorem blen_ap (cl : Str → List D → M D) (r : Env) (b : Bag) : (evA P cl (.blen 0)).v (some .bag :: r) b = some (D.int b.cells.length, b) := nr rfl
theorem bcell_ap (r : Env) (j : Int) (b : Bag) : bcellM (some .bag :: r) 0 (.int j) b = (L2.atI b.cells j).map fun z => (D.int z, b) := nr rfl
theorem bnd_ap {α β : Type} (m : M α) (f : α → M β) (b : Bag) : bnd m f b = match m b with
  | none => none
  | some (a, b') => f a b' := nr rfl
theorem ret_ap {α : Type} (a : α) (b : Bag) : ret a b = some (a, b) := nr rfl
theorem bnd_ap_some {α β : Type} {m : M α} {b b' : Bag} {a : α} (h : m b = some (a, b')) (f : α → M β) : bnd m f b = f a b' := by rw [bnd_ap, h]
theorem ite_ap {α : Type} {c : Prop} [Decidable c] (m m' : M α) (b : Bag) : (if c then m else m') b = if c then m b else m' b := by split <;> rfl
theorem fin {m : M D} {b : Bag} {k : Int} {N : Nat} {x : Int} {b' : Bag} (g : ∀ x : Int, 0 ≤ x % k ∧ x % k < k) (e : m b = some (.int (x % k), b')) (hb : BOk N b') : ∃ a b', m b = some (a, b') ∧ BOk N b' ∧ ∃ i : Int, a = .int i ∧ 0 ≤ i ∧ i < k :=
  ⟨_, _, e, hb, _, rfl, g x⟩
theorem draw_ok [Has P d_law_draw] {k : Int} (hk : 0 < k) (hk2 : k.natAbs < 2 ^ 9000) : Dr 1 (callP P W noP (n + 1) "_law_draw" [.bag, .int k]) (fun d => ∃ i : Int, d = .int i ∧ 0 ≤ i ∧ i < k) := by
  intro N b hN hb
  obtain ⟨cells, place, rest, seed, cnt⟩ := b
  obtain ⟨h1, ⟨h2, h3⟩, h4, h5⟩ := hb
  simp only at h1 h2 h3 h4 h5
  rw [c_law_draw]
  have e1 : mulOk seed 38867 = true := mulOk_of (sm62 (by omega)) (sm62 (by omega))
  have e3 : mulOk seed 39119 = true := mulOk_of (sm62 (by omega)) (sm62 (by omega))
  have e4 : mulOk (cnt + 1) 1299689 = true := mulOk_of (sm62 (by omega)) (sm62 (by omega))
  have e5 : ∀ x : Int, mulOk (x % 7901) 59 = true := fun x => mulOk_of (sm62 (by omega)) (sm62 (by omega))
  have e2 : ∀ x : Int, mulOk (x % 2147483497) 41077 = true := fun x => mulOk_of (sm62 (by omega)) (sm62 (by omega))
  have e6 : ∀ x : Int, (0 : Int) ≤ 3 ∧ (3 : Int) ≤ 1000000 ∧ (x % 2147483587).natAbs < 2 ^ 64 := fun x => ⟨by decide, by decide, by omega⟩
  have e7 : ∀ x : Int, mulOk (x % 2147483587) 39119 = true := fun x => mulOk_of (sm62 (by omega)) (sm62 (by omega))
  have e8 : (0 : Int) ≤ 3 ∧ (3 : Int) ≤ 1000000 ∧ seed.natAbs < 2 ^ 64 := ⟨by decide, by decide, by omega⟩
  have gM : ∀ x : Int, 0 ≤ x % k ∧ x % k < k := fun x => ⟨Int.emod_nonneg _ (by omega), Int.emod_lt_of_pos _ hk⟩
  have gS : ∀ x : Int, 0 ≤ x % 2147483587 ∧ x % 2147483587 < 2147483587 := fun x => ⟨by omega, by omega⟩
  have hc1 : 0 ≤ cnt + 1 ∧ cnt + 1 ≤ ((N + 1 : Nat) : Int) := ⟨by omega, by push_cast; omega⟩
  by_cases hr : rest = 0
  · subst hr
    by_cases hp : place < (cells.length : Int)
    · have hg : L2.atI cells place = some (cells[place.toNat]'(by omega)) := by
        have := atI_nat cells place.toNat (by omega)
        rwa [Int.toNat_of_nonneg h1] at this
      generalize hc : cells[place.toNat]'(by omega) = c at hg
      have hp1 : 0 ≤ place + 1 := by omega
      by_cases hq : 1000000000000000000 ≤ c
      · have hq0 : 0 < c := by omega
        exact fin gM (by simp only [b_law_draw, ret_ap, bnd_ap, bget_ap, v_bcell, bset_ap, ite_ap, Bag.get, Bag.set, blen_ap, bcell_ap, mod_int, div_int, pow_int, mul_int, e1, e2, e3, e4, e5, e6, e7, e8, hk, hk2, show (10 : Int) ^ (18 : Int).toNat = 1000000000000000000 from rfl, show (0 : Int) ≤ 18 ∧ (18 : Int) ≤ 1000000 ∧ (10 : Int).natAbs < 2 ^ 64 by decide, show (0 : Int) < 2147483497 by decide, show (0 : Int) < 2147483587 by decide, show (0 : Int) < 7901 by decide, show (0 : Int) < 89 ∧ (89 : Int).natAbs < 2 ^ 9000 from ⟨by decide, Nat.lt_of_lt_of_le (by decide : 89 < 2 ^ 10) (Nat.pow_le_pow_right (by decide) (by decide))⟩, Int.lt_irrefl, hp, hg, hq, hq0, v_var, v_int, v_str, v_bl, v_non, v_bin, v_neg, v_not, v_bop, v_ife, v_cmp, v_cmp2, v_call, v_scall_s, v_meth, v_methk, v_attr, v_blt, v_isi, v_lst, v_tup, v_idx, v_sl, p_no, p_part, v_lc, v_lcif, v_lc2, i_seq, i_range1, i_range2, i_zip, i_enum, evs_nil, evs_cons, t_not, t_bop, t_ife, t_var, t_bl, t_cmp, t_cmp2, t_call, t_scall, t_meth, t_methk, t_attr, t_blt, t_isi, t_lc, t_idx, t_bin, bopT_and_t, bopT_and_f, bopT_or_t, bopT_or_f, bopM_and_t, bopM_and_f, bopM_or_t, bopM_or_f, tru_bl, tru_int, tru_lst, tru_tup, neg_int, part_int, add_int, sub_int, lt_int, le_int, gt_int, ge_int, eq_int, ne_int, eq_bl, ne_bl, cmpI_lt, cmpI_le, len_lst, len_tup, int_int, int_bl, list_lst, list_tup, tuple_lst, sum_ints, all_bls, any_bls, app_key, s_nil, s_cons, nx_nx, nx_rt, nx_bk, nx_ct, s_asg, s_unp, s_par, s_fld, s_app, s_bset, s_expr, s_ret, s_retN, s_ifs, s_for, s_while, s_pass, s_brk, s_cont, res_rt, res_nx, self_nx, ret_bnd, fail_bnd, bnd_assoc, seq_bnd, opt_s, opt_n, gV_0, gV_s, glo_c, fls_nil, fls_cons, hass_nil, hass_cons, fl_int, fl_bl, fl_str, fl_non, fl_bag, fl_lst, fl_tup, fl_ins, has_int, has_bl, has_str, has_non, has_bag, has_lst, has_tup, has_ins, fz_own, fz_sh, fz_brw, bw_own, bw_sh, bw_brw, ub_own, ub_sh, ub_brw, so_own, so_sh, so_brw, tt_own, tt_sh, tt_brw, keep_f, keeps_f, keep_t, keeps_t, attr_prop, attr_fld, meth_m, methk_m, mul_m, add_m, sub_m, eq_m, ne_m, tru_m, bool_m, fl_rowL, fl_rowT, has_rowL, has_rowT, fl_tabL, fl_tabT, has_tabLt, has_tabTt, hb_L_sh, hb_L_own, hb_T_sh, hb_T_own, ite_self, fls_ints, hass_ints, fls_im, hass_im, fls_rowL, fls_rowT, List.set_cons_zero, List.set_cons_succ, wipeE, setsE, tgE, ITg.ix, giveE, IE.vars, IEs.vars, reduceCtorEq, decide_false, decide_true, Bool.or_false, Bool.false_or, Bool.or_true, Bool.true_or, Bool.and_true, Bool.true_and, Bool.and_false, Bool.false_and, Bool.not_true, Bool.not_false, if_true, if_false, ite_true, ite_false, Bool.false_eq_true, ne_eq, not_false_eq_true, not_true_eq_false, List.cons_append, List.nil_append, List.append_nil, List.mem_cons, List.not_mem_nil, or_false, false_or, or_true, true_or, Nat.reduceEqDiff, Nat.reduceAdd, eq_self, and_self, and_true, true_and, Option.map_some, Option.map_none, List.getElem?_cons_zero, List.getElem?_cons_succ]; rfl) (by exact ⟨hp1, ⟨h2, h3⟩, hc1⟩)
      · exact fin gM (by simp only [b_law_draw, ret_ap, bnd_ap, bget_ap, v_bcell, bset_ap, ite_ap, Bag.get, Bag.set, blen_ap, bcell_ap, mod_int, div_int, pow_int, mul_int, e1, e2, e3, e4, e5, e6, e7, e8, hk, hk2, show (10 : Int) ^ (18 : Int).toNat = 1000000000000000000 from rfl, show (0 : Int) ≤ 18 ∧ (18 : Int) ≤ 1000000 ∧ (10 : Int).natAbs < 2 ^ 64 by decide, show (0 : Int) < 2147483497 by decide, show (0 : Int) < 2147483587 by decide, show (0 : Int) < 7901 by decide, show (0 : Int) < 89 ∧ (89 : Int).natAbs < 2 ^ 9000 from ⟨by decide, Nat.lt_of_lt_of_le (by decide : 89 < 2 ^ 10) (Nat.pow_le_pow_right (by decide) (by decide))⟩, Int.lt_irrefl, hp, hg, hq, v_var, v_int, v_str, v_bl, v_non, v_bin, v_neg, v_not, v_bop, v_ife, v_cmp, v_cmp2, v_call, v_scall_s, v_meth, v_methk, v_attr, v_blt, v_isi, v_lst, v_tup, v_idx, v_sl, p_no, p_part, v_lc, v_lcif, v_lc2, i_seq, i_range1, i_range2, i_zip, i_enum, evs_nil, evs_cons, t_not, t_bop, t_ife, t_var, t_bl, t_cmp, t_cmp2, t_call, t_scall, t_meth, t_methk, t_attr, t_blt, t_isi, t_lc, t_idx, t_bin, bopT_and_t, bopT_and_f, bopT_or_t, bopT_or_f, bopM_and_t, bopM_and_f, bopM_or_t, bopM_or_f, tru_bl, tru_int, tru_lst, tru_tup, neg_int, part_int, add_int, sub_int, lt_int, le_int, gt_int, ge_int, eq_int, ne_int, eq_bl, ne_bl, cmpI_lt, cmpI_le, len_lst, len_tup, int_int, int_bl, list_lst, list_tup, tuple_lst, sum_ints, all_bls, any_bls, app_key, s_nil, s_cons, nx_nx, nx_rt, nx_bk, nx_ct, s_asg, s_unp, s_par, s_fld, s_app, s_bset, s_expr, s_ret, s_retN, s_ifs, s_for, s_while, s_pass, s_brk, s_cont, res_rt, res_nx, self_nx, ret_bnd, fail_bnd, bnd_assoc, seq_bnd, opt_s, opt_n, gV_0, gV_s, glo_c, fls_nil, fls_cons, hass_nil, hass_cons, fl_int, fl_bl, fl_str, fl_non, fl_bag, fl_lst, fl_tup, fl_ins, has_int, has_bl, has_str, has_non, has_bag, has_lst, has_tup, has_ins, fz_own, fz_sh, fz_brw, bw_own, bw_sh, bw_brw, ub_own, ub_sh, ub_brw, so_own, so_sh, so_brw, tt_own, tt_sh, tt_brw, keep_f, keeps_f, keep_t, keeps_t, attr_prop, attr_fld, meth_m, methk_m, mul_m, add_m, sub_m, eq_m, ne_m, tru_m, bool_m, fl_rowL, fl_rowT, has_rowL, has_rowT, fl_tabL, fl_tabT, has_tabLt, has_tabTt, hb_L_sh, hb_L_own, hb_T_sh, hb_T_own, ite_self, fls_ints, hass_ints, fls_im, hass_im, fls_rowL, fls_rowT, List.set_cons_zero, List.set_cons_succ, wipeE, setsE, tgE, ITg.ix, giveE, IE.vars, IEs.vars, reduceCtorEq, decide_false, decide_true, Bool.or_false, Bool.false_or, Bool.or_true, Bool.true_or, Bool.and_true, Bool.true_and, Bool.and_false, Bool.false_and, Bool.not_true, Bool.not_false, if_true, if_false, ite_true, ite_false, Bool.false_eq_true, ne_eq, not_false_eq_true, not_true_eq_false, List.cons_append, List.nil_append, List.append_nil, List.mem_cons, List.not_mem_nil, or_false, false_or, or_true, true_or, Nat.reduceEqDiff, Nat.reduceAdd, eq_self, and_self, and_true, true_and, Option.map_some, Option.map_none, List.getElem?_cons_zero, List.getElem?_cons_succ]; rfl) (by exact ⟨hp1, gS _, hc1⟩)
    · exact fin gM (by simp only [b_law_draw, ret_ap, bnd_ap, bget_ap, v_bcell, bset_ap, ite_ap, Bag.get, Bag.set, blen_ap, bcell_ap, mod_int, div_int, pow_int, mul_int, e1, e2, e3, e4, e5, e6, e7, e8, hk, hk2, show (10 : Int) ^ (18 : Int).toNat = 1000000000000000000 from rfl, show (0 : Int) ≤ 18 ∧ (18 : Int) ≤ 1000000 ∧ (10 : Int).natAbs < 2 ^ 64 by decide, show (0 : Int) < 2147483497 by decide, show (0 : Int) < 2147483587 by decide, show (0 : Int) < 7901 by decide, show (0 : Int) < 89 ∧ (89 : Int).natAbs < 2 ^ 9000 from ⟨by decide, Nat.lt_of_lt_of_le (by decide : 89 < 2 ^ 10) (Nat.pow_le_pow_right (by decide) (by decide))⟩, Int.lt_irrefl, hp, v_var, v_int, v_str, v_bl, v_non, v_bin, v_neg, v_not, v_bop, v_ife, v_cmp, v_cmp2, v_call, v_scall_s, v_meth, v_methk, v_attr, v_blt, v_isi, v_lst, v_tup, v_idx, v_sl, p_no, p_part, v_lc, v_lcif, v_lc2, i_seq, i_range1, i_range2, i_zip, i_enum, evs_nil, evs_cons, t_not, t_bop, t_ife, t_var, t_bl, t_cmp, t_cmp2, t_call, t_scall, t_meth, t_methk, t_attr, t_blt, t_isi, t_lc, t_idx, t_bin, bopT_and_t, bopT_and_f, bopT_or_t, bopT_or_f, bopM_and_t, bopM_and_f, bopM_or_t, bopM_or_f, tru_bl, tru_int, tru_lst, tru_tup, neg_int, part_int, add_int, sub_int, lt_int, le_int, gt_int, ge_int, eq_int, ne_int, eq_bl, ne_bl, cmpI_lt, cmpI_le, len_lst, len_tup, int_int, int_bl, list_lst, list_tup, tuple_lst, sum_ints, all_bls, any_bls, app_key, s_nil, s_cons, nx_nx, nx_rt, nx_bk, nx_ct, s_asg, s_unp, s_par, s_fld, s_app, s_bset, s_expr, s_ret, s_retN, s_ifs, s_for, s_while, s_pass, s_brk, s_cont, res_rt, res_nx, self_nx, ret_bnd, fail_bnd, bnd_assoc, seq_bnd, opt_s, opt_n, gV_0, gV_s, glo_c, fls_nil, fls_cons, hass_nil, hass_cons, fl_int, fl_bl, fl_str, fl_non, fl_bag, fl_lst, fl_tup, fl_ins, has_int, has_bl, has_str, has_non, has_bag, has_lst, has_tup, has_ins, fz_own, fz_sh, fz_brw, bw_own, bw_sh, bw_brw, ub_own, ub_sh, ub_brw, so_own, so_sh, so_brw, tt_own, tt_sh, tt_brw, keep_f, keeps_f, keep_t, keeps_t, attr_prop, attr_fld, meth_m, methk_m, mul_m, add_m, sub_m, eq_m, ne_m, tru_m, bool_m, fl_rowL, fl_rowT, has_rowL, has_rowT, fl_tabL, fl_tabT, has_tabLt, has_tabTt, hb_L_sh, hb_L_own, hb_T_sh, hb_T_own, ite_self, fls_ints, hass_ints, fls_im, hass_im, fls_rowL, fls_rowT, List.set_cons_zero, List.set_cons_succ, wipeE, setsE, tgE, ITg.ix, giveE, IE.vars, IEs.vars, reduceCtorEq, decide_false, decide_true, Bool.or_false, Bool.false_or, Bool.or_true, Bool.true_or, Bool.and_true, Bool.true_and, Bool.and_false, Bool.false_and, Bool.not_true, Bool.not_false, if_true, if_false, ite_true, ite_false, Bool.false_eq_true, ne_eq, not_false_eq_true, not_true_eq_false, List.cons_append, List.nil_append, List.append_nil, List.mem_cons, List.not_mem_nil, or_false, false_or, or_true, true_or, Nat.reduceEqDiff, Nat.reduceAdd, eq_self, and_self, and_true, true_and, Option.map_some, Option.map_none, List.getElem?_cons_zero, List.getElem?_cons_succ]; rfl) (by exact ⟨h1, gS _, hc1⟩)
  · by_cases hq : 0 < rest
    · exact fin gM (by simp only [b_law_draw, ret_ap, bnd_ap, bget_ap, v_bcell, bset_ap, ite_ap, Bag.get, Bag.set, blen_ap, bcell_ap, mod_int, div_int, pow_int, mul_int, e1, e2, e3, e4, e5, e6, e7, e8, hk, hk2, show (10 : Int) ^ (18 : Int).toNat = 1000000000000000000 from rfl, show (0 : Int) ≤ 18 ∧ (18 : Int) ≤ 1000000 ∧ (10 : Int).natAbs < 2 ^ 64 by decide, show (0 : Int) < 2147483497 by decide, show (0 : Int) < 2147483587 by decide, show (0 : Int) < 7901 by decide, show (0 : Int) < 89 ∧ (89 : Int).natAbs < 2 ^ 9000 from ⟨by decide, Nat.lt_of_lt_of_le (by decide : 89 < 2 ^ 10) (Nat.pow_le_pow_right (by decide) (by decide))⟩, Int.lt_irrefl, hr, hq, v_var, v_int, v_str, v_bl, v_non, v_bin, v_neg, v_not, v_bop, v_ife, v_cmp, v_cmp2, v_call, v_scall_s, v_meth, v_methk, v_attr, v_blt, v_isi, v_lst, v_tup, v_idx, v_sl, p_no, p_part, v_lc, v_lcif, v_lc2, i_seq, i_range1, i_range2, i_zip, i_enum, evs_nil, evs_cons, t_not, t_bop, t_ife, t_var, t_bl, t_cmp, t_cmp2, t_call, t_scall, t_meth, t_methk, t_attr, t_blt, t_isi, t_lc, t_idx, t_bin, bopT_and_t, bopT_and_f, bopT_or_t, bopT_or_f, bopM_and_t, bopM_and_f, bopM_or_t, bopM_or_f, tru_bl, tru_int, tru_lst, tru_tup, neg_int, part_int, add_int, sub_int, lt_int, le_int, gt_int, ge_int, eq_int, ne_int, eq_bl, ne_bl, cmpI_lt, cmpI_le, len_lst, len_tup, int_int, int_bl, list_lst, list_tup, tuple_lst, sum_ints, all_bls, any_bls, app_key, s_nil, s_cons, nx_nx, nx_rt, nx_bk, nx_ct, s_asg, s_unp, s_par, s_fld, s_app, s_bset, s_expr, s_ret, s_retN, s_ifs, s_for, s_while, s_pass, s_brk, s_cont, res_rt, res_nx, self_nx, ret_bnd, fail_bnd, bnd_assoc, seq_bnd, opt_s, opt_n, gV_0, gV_s, glo_c, fls_nil, fls_cons, hass_nil, hass_cons, fl_int, fl_bl, fl_str, fl_non, fl_bag, fl_lst, fl_tup, fl_ins, has_int, has_bl, has_str, has_non, has_bag, has_lst, has_tup, has_ins, fz_own, fz_sh, fz_brw, bw_own, bw_sh, bw_brw, ub_own, ub_sh, ub_brw, so_own, so_sh, so_brw, tt_own, tt_sh, tt_brw, keep_f, keeps_f, keep_t, keeps_t, attr_prop, attr_fld, meth_m, methk_m, mul_m, add_m, sub_m, eq_m, ne_m, tru_m, bool_m, fl_rowL, fl_rowT, has_rowL, has_rowT, fl_tabL, fl_tabT, has_tabLt, has_tabTt, hb_L_sh, hb_L_own, hb_T_sh, hb_T_own, ite_self, fls_ints, hass_ints, fls_im, hass_im, fls_rowL, fls_rowT, List.set_cons_zero, List.set_cons_succ, wipeE, setsE, tgE, ITg.ix, giveE, IE.vars, IEs.vars, reduceCtorEq, decide_false, decide_true, Bool.or_false, Bool.false_or, Bool.or_true, Bool.true_or, Bool.and_true, Bool.true_and, Bool.and_false, Bool.false_and, Bool.not_true, Bool.not_false, if_true, if_false, ite_true, ite_false, Bool.false_eq_true, ne_eq, not_false_eq_true, not_true_eq_false, List.cons_append, List.nil_append, List.append_nil, List.mem_cons, List.not_mem_nil, or_false, false_or, or_true, true_or, Nat.reduceEqDiff, Nat.reduceAdd, eq_self, and_self, and_true, true_and, Option.map_some, Option.map_none, List.getElem?_cons_zero, List.getElem?_cons_succ]; rfl) (by exact ⟨h1, ⟨h2, h3⟩, hc1⟩)
    · exact fin gM (by simp only [b_law_draw, ret_ap, bnd_ap, bget_ap, v_bcell, bset_ap, ite_ap, Bag.get, Bag.set, blen_ap, bcell_ap, mod_int, div_int, pow_int, mul_int, e1, e2, e3, e4, e5, e6, e7, e8, hk, hk2, show (10 : Int) ^ (18 : Int).toNat = 1000000000000000000 from rfl, show (0 : Int) ≤ 18 ∧ (18 : Int) ≤ 1000000 ∧ (10 : Int).natAbs < 2 ^ 64 by decide, show (0 : Int) < 2147483497 by decide, show (0 : Int) < 2147483587 by decide, show (0 : Int) < 7901 by decide, show (0 : Int) < 89 ∧ (89 : Int).natAbs < 2 ^ 9000 from ⟨by decide, Nat.lt_of_lt_of_le (by decide : 89 < 2 ^ 10) (Nat.pow_le_pow_right (by decide) (by decide))⟩, Int.lt_irrefl, hr, hq, v_var, v_int, v_str, v_bl, v_non, v_bin, v_neg, v_not, v_bop, v_ife, v_cmp, v_cmp2, v_call, v_scall_s, v_meth, v_methk, v_attr, v_blt, v_isi, v_lst, v_tup, v_idx, v_sl, p_no, p_part, v_lc, v_lcif, v_lc2, i_seq, i_range1, i_range2, i_zip, i_enum, evs_nil, evs_cons, t_not, t_bop, t_ife, t_var, t_bl, t_cmp, t_cmp2, t_call, t_scall, t_meth, t_methk, t_attr, t_blt, t_isi, t_lc, t_idx, t_bin, bopT_and_t, bopT_and_f, bopT_or_t, bopT_or_f, bopM_and_t, bopM_and_f, bopM_or_t, bopM_or_f, tru_bl, tru_int, tru_lst, tru_tup, neg_int, part_int, add_int, sub_int, lt_int, le_int, gt_int, ge_int, eq_int, ne_int, eq_bl, ne_bl, cmpI_lt, cmpI_le, len_lst, len_tup, int_int, int_bl, list_lst, list_tup, tuple_lst, sum_ints, all_bls, any_bls, app_key, s_nil, s_cons, nx_nx, nx_rt, nx_bk, nx_ct, s_asg, s_unp, s_par, s_fld, s_app, s_bset, s_expr, s_ret, s_retN, s_ifs, s_for, s_while, s_pass, s_brk, s_cont, res_rt, res_nx, self_nx, ret_bnd, fail_bnd, bnd_assoc, seq_bnd, opt_s, opt_n, gV_0, gV_s, glo_c, fls_nil, fls_cons, hass_nil, hass_cons, fl_int, fl_bl, fl_str, fl_non, fl_bag, fl_lst, fl_tup, fl_ins, has_int, has_bl, has_str, has_non, has_bag, has_lst, has_tup, has_ins, fz_own, fz_sh, fz_brw, bw_own, bw_sh, bw_brw, ub_own, ub_sh, ub_brw, so_own, so_sh, so_brw, tt_own, tt_sh, tt_brw, keep_f, keeps_f, keep_t, keeps_t, attr_prop, attr_fld, meth_m, methk_m, mul_m, add_m, sub_m, eq_m, ne_m, tru_m, bool_m, fl_rowL, fl_rowT, has_rowL, has_rowT, fl_tabL, fl_tabT, has_tabLt, has_tabTt, hb_L_sh, hb_L_own, hb_T_sh, hb_T_own, ite_self, fls_ints, hass_ints, fls_im, hass_im, fls_rowL, fls_rowT, List.set_cons_zero, List.set_cons_succ, wipeE, setsE, tgE, ITg.ix, giveE, IE.vars, IEs.vars, reduceCtorEq, decide_false, decide_true, Bool.or_false, Bool.false_or, Bool.or_true, Bool.true_or, Bool.and_true, Bool.true_and, Bool.and_false, Bool.false_and, Bool.not_true, Bool.not_false, if_true, if_false, ite_true, ite_false, Bool.false_eq_true, ne_eq, not_false_eq_true, not_true_eq_false, List.cons_append, List.nil_append, List.append_nil, List.mem_cons, List.not_mem_nil, or_false, false_or, or_true, true_or, Nat.reduceEqDiff, Nat.reduceAdd, eq_self, and_self, and_true, true_and, Option.map_some, Option.map_none, List.getElem?_cons_zero, List.getElem?_cons_succ]; rfl) (by exact ⟨h1, gS _, hc1⟩)
end
end TI.TL

set_option Elab.async false
set_option linter.all false
set_option maxRecDepth 100000
set_option maxHeartbeats 2000000
/-! drawn things; products of tables -/
namespace TI.TL
open PySem PySem.Spec PyProof.Rows L2
section
variable {P : Pg} {cl : Str → List D → M D} {W n : Nat}
theorem bnd_for_range {α : Type} {tg : ITg} {body : ISs} {k : Nat} {g : Nat → D} {env0 : Env} {K : Fw → M α} {R : M α} (E : Nat → Env) (h0 : env0 = E 0)
    (H : ∀ i, i < k → bnd (opt (tgE tg (g i).ub.so (E i))) (exSs P cl W body) = ret (.nx (E (i + 1)))) (hK : K (.nx (E k)) = R) : bnd (forM P cl W tg body ((List.range k).map g) env0) K = R := by
  rw [h0, for_range E H, ret_bnd, hK]
theorem bnd_for_map {ι α : Type} {tg : ITg} {body : ISs} {xs : List ι} {g : ι → D} {env0 : Env} {K : Fw → M α} {R : M α} (E : Nat → Env) (h0 : env0 = E 0)
    (H : ∀ i (h : i < xs.length), bnd (opt (tgE tg (g xs[i]).ub.so (E i))) (exSs P cl W body) = ret (.nx (E (i + 1)))) (hK : K (.nx (E xs.length)) = R) : bnd (forM P cl W tg body (xs.map g) env0) K = R := by
  rw [h0, for_map E H, ret_bnd, hK]
theorem bnd_lc {ι α : Type} {env : Env} {tg : ITg} {elt : IE} {xs : List ι} {h : ι → D} {K : D → M α} {R : M α} (g : ι → D) (hl : xs.length ≤ sizeLine)
    (H : ∀ x ∈ xs, bnd (opt (tgE tg (h x).so (wipeE env tg.ix))) (fun env' => (evA P cl elt).v env') = ret (g x)) (hK : K (.lst .own (xs.map g)) = R) : bnd (lcM P cl env tg elt (xs.map h)) K = R := by
  rw [lc_map hl H, ret_bnd, hK]
theorem bnd_lcr {α : Type} {env : Env} {tg : ITg} {elt : IE} {k : Nat} {h : Nat → D} {K : D → M α} {R : M α} (g : Nat → D) (hl : k ≤ sizeLine)
    (H : ∀ x, x < k → bnd (opt (tgE tg (h x).so (wipeE env tg.ix))) (fun env' => (evA P cl elt).v env') = ret (g x)) (hK : K (.lst .own ((List.range k).map g)) = R) : bnd (lcM P cl env tg elt ((List.range k).map h)) K = R :=
  bnd_lc g (by simpa using hl) (fun x hx => H x (List.mem_range.mp hx)) hK
/-- running sums -/
def accN (b : Int) (f : Nat → Int) : Nat → Int
  | 0 => b
  | n + 1 => accN b f n + f n
theorem accN_eq (b : Int) (f : Nat → Int) : ∀ n, accN b f n = b + sumN f n
  | 0 => by simp [accN, sumN]
  | n + 1 => by rw [accN, accN_eq b f n, sumN, Int.add_assoc]
theorem accN_0 (b : Int) (f : Nat → Int) : accN b f 0 = b := nr rfl
theorem accN_s (b : Int) (f : Nat → Int) (n : Nat) : accN b f (n + 1) = accN b f n + f n := nr rfl
theorem lastV_0 (g : Nat → D) : lastV g 0 = none := nr rfl
theorem lastV_s (g : Nat → D) (n : Nat) : lastV g (n + 1) = some (g n) := nr rfl
abbrev Ta := Nat → Nat → Int
/-- all entries are smaller than 2^k -/
def Tb (N k : Nat) (e : Ta) : Prop := ∀ r c, c ≤ r → r < N → (e r c).natAbs < 2 ^ k
/-- one, then other -/
def mulE (e f : Ta) : Ta := fun r c => accN (e r c + f r c) (fun j => f r (c + j + 1) * e (c + j) c) (r - c)
theorem accN_le {b : Int} {f : Nat → Int} {B M : Nat} (hb : b.natAbs ≤ B) : ∀ {n : Nat}, (∀ j, j < n → (f j).natAbs ≤ M) → (accN b f n).natAbs ≤ B + n * M
  | 0, _ => by simpa [accN] using hb
  | n + 1, h => by
    have h1 := accN_le hb (n := n) fun j hj => h j (by omega)
    have h2 := h n (by omega)
    rw [accN]
    have h3 := Int.natAbs_add_le (accN b f n) (f n)
    have h4 : (n + 1) * M = n * M + M := Nat.succ_mul n M
    omega
theorem accN_congr {b b' : Int} {f g : Nat → Int} (hb : b = b') : ∀ {n : Nat}, (∀ j, j < n → f j = g j) → accN b f n = accN b' g n
  | 0, _ => hb
  | n + 1, h => by rw [accN, accN, accN_congr hb fun j hj => h j (by omega), h n (by omega)]
theorem mul_lt {x y : Int} {a b : Nat} (hx : x.natAbs < 2 ^ a) (hy : y.natAbs < 2 ^ b) : (x * y).natAbs ≤ 2 ^ (a + b) := by
  rw [Int.natAbs_mul, Nat.pow_add]
  exact Nat.mul_le_mul (Nat.le_of_lt hx) (Nat.le_of_lt hy)
theorem Tb.mul {N a b : Nat} {e f : Ta} (hN : N ≤ 4) (he : Tb N a e) (hf : Tb N b f) : Tb N (a + b + 3) (mulE e f) := by
  intro r c hc hr
  have h1 := he r c hc hr
  have h2 := hf r c hc hr
  have h3 := accN_le (B := 2 ^ a + 2 ^ b) (M := 2 ^ (a + b)) (b := e r c + f r c) (f := fun j => f r (c + j + 1) * e (c + j) c) (n := r - c) (by have := Int.natAbs_add_le (e r c) (f r c); omega)
    fun j hj => by rw [Nat.add_comm a b]; exact mul_lt (hf _ _ (by omega) hr) (he _ _ (by omega) (by omega))
  have h4 : 2 ^ a ≤ 2 ^ (a + b) := Nat.pow_le_pow_right (by decide) (by omega)
  have h5 : 2 ^ b ≤ 2 ^ (a + b) := Nat.pow_le_pow_right (by decide) (by omega)
  have h6 : 2 ^ (a + b + 3) = 2 ^ (a + b) * 8 := by rw [Nat.pow_add]
  have h7 : 0 < 2 ^ (a + b) := Nat.pow_pos (by decide)
  have h8 : (r - c) * 2 ^ (a + b) ≤ 3 * 2 ^ (a + b) := Nat.mul_le_mul_right _ (by omega)
  have h9 : (mulE e f r c).natAbs ≤ 2 ^ a + 2 ^ b + (r - c) * 2 ^ (a + b) := h3
  omega
theorem Tb.mono {N a b : Nat} {e : Ta} (h : Tb N a e) (hl : a ≤ b) : Tb N b e := fun r c h1 h2 => Nat.lt_of_lt_of_le (h r c h1 h2) (Nat.pow_le_pow_right (by decide) hl)
theorem mulOk_of' {i j : Int} {a b : Nat} (h : i.natAbs < 2 ^ a) (h2 : j.natAbs < 2 ^ b) (ha : a ≤ 400000) (hb : b ≤ 400000) : mulOk i j = true := mulOk_of (small_of h ha) (small_of h2 hb)
theorem entry_ok [Has P d_entry_behind] {N r c a b : Nat} {e f : Ta} (hc : c ≤ r) (hr : r < N) (hN : N ≤ 4) (he : Tb N a e) (hf : Tb N b f) (ha : a ≤ 400000) (hb : b ≤ 400000) :
    callP P W noP (n + 1) "entry_behind" [tabT .sh .sh (tab N e), tabT .sh .sh (tab N f), .int (r : Int), .int (c : Int)] = ret (.int (mulE e f r c)) := by
  have h1 : c < r + 1 := by omega
  have hs : sizeLine = 2 ^ 24 := rfl
  rw [c_entry_behind]
  simp only [b_entry_behind, v_var, v_int, v_str, v_bl, v_non, v_bin, v_neg, v_not, v_bop, v_ife, v_cmp, v_cmp2, v_call, v_scall_s, v_meth, v_methk, v_attr, v_blt, v_isi, v_lst, v_tup, v_idx, v_sl, p_no, p_part, v_lc, v_lcif, v_lc2, i_seq, i_range1, i_range2, i_zip, i_enum, evs_nil, evs_cons, t_not, t_bop, t_ife, t_var, t_bl, t_cmp, t_cmp2, t_call, t_scall, t_meth, t_methk, t_attr, t_blt, t_isi, t_lc, t_idx, t_bin, bopT_and_t, bopT_and_f, bopT_or_t, bopT_or_f, bopM_and_t, bopM_and_f, bopM_or_t, bopM_or_f, tru_bl, tru_int, tru_lst, tru_tup, neg_int, part_int, add_int, sub_int, lt_int, le_int, gt_int, ge_int, eq_int, ne_int, eq_bl, ne_bl, cmpI_lt, cmpI_le, len_lst, len_tup, int_int, int_bl, list_lst, list_tup, tuple_lst, sum_ints, all_bls, any_bls, app_key, s_nil, s_cons, nx_nx, nx_rt, nx_bk, nx_ct, s_asg, s_unp, s_par, s_fld, s_app, s_bset, s_expr, s_ret, s_retN, s_ifs, s_for, s_while, s_pass, s_brk, s_cont, res_rt, res_nx, self_nx, ret_bnd, fail_bnd, bnd_assoc, seq_bnd, opt_s, opt_n, gV_0, gV_s, glo_c, fls_nil, fls_cons, hass_nil, hass_cons, fl_int, fl_bl, fl_str, fl_non, fl_bag, fl_lst, fl_tup, fl_ins, has_int, has_bl, has_str, has_non, has_bag, has_lst, has_tup, has_ins, fz_own, fz_sh, fz_brw, bw_own, bw_sh, bw_brw, ub_own, ub_sh, ub_brw, so_own, so_sh, so_brw, tt_own, tt_sh, tt_brw, keep_f, keeps_f, keep_t, keeps_t, attr_prop, attr_fld, meth_m, methk_m, mul_m, add_m, sub_m, eq_m, ne_m, tru_m, bool_m, fl_rowL, fl_rowT, has_rowL, has_rowT, fl_tabL, fl_tabT, has_tabLt, has_tabTt, hb_L_sh, hb_L_own, hb_T_sh, hb_T_own, ite_self, fls_ints, hass_ints, fls_im, hass_im, fls_rowL, fls_rowT, List.set_cons_zero, List.set_cons_succ, wipeE, setsE, tgE, ITg.ix, giveE, IE.vars, IEs.vars, reduceCtorEq, decide_false, decide_true, Bool.or_false, Bool.false_or, Bool.or_true, Bool.true_or, Bool.and_true, Bool.true_and, Bool.and_false, Bool.false_and, Bool.not_true, Bool.not_false, if_true, if_false, ite_true, ite_false, Bool.false_eq_true, ne_eq, not_false_eq_true, not_true_eq_false, List.cons_append, List.nil_append, List.append_nil, List.mem_cons, List.not_mem_nil, or_false, false_or, or_true, true_or, Nat.reduceEqDiff, Nat.reduceAdd, eq_self, and_self, and_true, true_and, Option.map_some, Option.map_none, List.getElem?_cons_zero, List.getElem?_cons_succ, idx_tabT, idx_rowT, hr, h1, range2_nat _ _ (show c ≤ sizeLine by omega) (show r ≤ sizeLine by omega)]
  refine bnd_for_range (fun i => [some (tabT .sh .sh (tab N e)), some (tabT .sh .sh (tab N f)), some (.int (r : Int)), some (.int (c : Int)), some (.int (accN (e r c + f r c) (fun j => f r (c + j + 1) * e (c + j) c) i)), lastV (fun i => .int ((c + i : Nat) : Int)) i]) rfl (fun i hi => ?_) ?_
  · have h2 : c + i < N := by omega
    have h3 : c + i + 1 < r + 1 := by omega
    have h4 : c < c + i + 1 := by omega
    have h5 : mulOk (f r (c + i + 1)) (e (c + i) c) = true := mulOk_of' (hf _ _ (by omega) hr) (he _ _ (by omega) h2) hb ha
    simp only [v_var, v_int, v_str, v_bl, v_non, v_bin, v_neg, v_not, v_bop, v_ife, v_cmp, v_cmp2, v_call, v_scall_s, v_meth, v_methk, v_attr, v_blt, v_isi, v_lst, v_tup, v_idx, v_sl, p_no, p_part, v_lc, v_lcif, v_lc2, i_seq, i_range1, i_range2, i_zip, i_enum, evs_nil, evs_cons, t_not, t_bop, t_ife, t_var, t_bl, t_cmp, t_cmp2, t_call, t_scall, t_meth, t_methk, t_attr, t_blt, t_isi, t_lc, t_idx, t_bin, bopT_and_t, bopT_and_f, bopT_or_t, bopT_or_f, bopM_and_t, bopM_and_f, bopM_or_t, bopM_or_f, tru_bl, tru_int, tru_lst, tru_tup, neg_int, part_int, add_int, sub_int, lt_int, le_int, gt_int, ge_int, eq_int, ne_int, eq_bl, ne_bl, cmpI_lt, cmpI_le, len_lst, len_tup, int_int, int_bl, list_lst, list_tup, tuple_lst, sum_ints, all_bls, any_bls, app_key, s_nil, s_cons, nx_nx, nx_rt, nx_bk, nx_ct, s_asg, s_unp, s_par, s_fld, s_app, s_bset, s_expr, s_ret, s_retN, s_ifs, s_for, s_while, s_pass, s_brk, s_cont, res_rt, res_nx, self_nx, ret_bnd, fail_bnd, bnd_assoc, seq_bnd, opt_s, opt_n, gV_0, gV_s, glo_c, fls_nil, fls_cons, hass_nil, hass_cons, fl_int, fl_bl, fl_str, fl_non, fl_bag, fl_lst, fl_tup, fl_ins, has_int, has_bl, has_str, has_non, has_bag, has_lst, has_tup, has_ins, fz_own, fz_sh, fz_brw, bw_own, bw_sh, bw_brw, ub_own, ub_sh, ub_brw, so_own, so_sh, so_brw, tt_own, tt_sh, tt_brw, keep_f, keeps_f, keep_t, keeps_t, attr_prop, attr_fld, meth_m, methk_m, mul_m, add_m, sub_m, eq_m, ne_m, tru_m, bool_m, fl_rowL, fl_rowT, has_rowL, has_rowT, fl_tabL, fl_tabT, has_tabLt, has_tabTt, hb_L_sh, hb_L_own, hb_T_sh, hb_T_own, ite_self, fls_ints, hass_ints, fls_im, hass_im, fls_rowL, fls_rowT, List.set_cons_zero, List.set_cons_succ, wipeE, setsE, tgE, ITg.ix, giveE, IE.vars, IEs.vars, reduceCtorEq, decide_false, decide_true, Bool.or_false, Bool.false_or, Bool.or_true, Bool.true_or, Bool.and_true, Bool.true_and, Bool.and_false, Bool.false_and, Bool.not_true, Bool.not_false, if_true, if_false, ite_true, ite_false, Bool.false_eq_true, ne_eq, not_false_eq_true, not_true_eq_false, List.cons_append, List.nil_append, List.append_nil, List.mem_cons, List.not_mem_nil, or_false, false_or, or_true, true_or, Nat.reduceEqDiff, Nat.reduceAdd, eq_self, and_self, and_true, true_and, Option.map_some, Option.map_none, List.getElem?_cons_zero, List.getElem?_cons_succ, idx_tabT, idx_rowT, hr, h1, h2, h3, h4, h5, cast1, mul_int, accN_s, lastV_s]
  · simp only [v_var, v_int, v_str, v_bl, v_non, v_bin, v_neg, v_not, v_bop, v_ife, v_cmp, v_cmp2, v_call, v_scall_s, v_meth, v_methk, v_attr, v_blt, v_isi, v_lst, v_tup, v_idx, v_sl, p_no, p_part, v_lc, v_lcif, v_lc2, i_seq, i_range1, i_range2, i_zip, i_enum, evs_nil, evs_cons, t_not, t_bop, t_ife, t_var, t_bl, t_cmp, t_cmp2, t_call, t_scall, t_meth, t_methk, t_attr, t_blt, t_isi, t_lc, t_idx, t_bin, bopT_and_t, bopT_and_f, bopT_or_t, bopT_or_f, bopM_and_t, bopM_and_f, bopM_or_t, bopM_or_f, tru_bl, tru_int, tru_lst, tru_tup, neg_int, part_int, add_int, sub_int, lt_int, le_int, gt_int, ge_int, eq_int, ne_int, eq_bl, ne_bl, cmpI_lt, cmpI_le, len_lst, len_tup, int_int, int_bl, list_lst, list_tup, tuple_lst, sum_ints, all_bls, any_bls, app_key, s_nil, s_cons, nx_nx, nx_rt, nx_bk, nx_ct, s_asg, s_unp, s_par, s_fld, s_app, s_bset, s_expr, s_ret, s_retN, s_ifs, s_for, s_while, s_pass, s_brk, s_cont, res_rt, res_nx, self_nx, ret_bnd, fail_bnd, bnd_assoc, seq_bnd, opt_s, opt_n, gV_0, gV_s, glo_c, fls_nil, fls_cons, hass_nil, hass_cons, fl_int, fl_bl, fl_str, fl_non, fl_bag, fl_lst, fl_tup, fl_ins, has_int, has_bl, has_str, has_non, has_bag, has_lst, has_tup, has_ins, fz_own, fz_sh, fz_brw, bw_own, bw_sh, bw_brw, ub_own, ub_sh, ub_brw, so_own, so_sh, so_brw, tt_own, tt_sh, tt_brw, keep_f, keeps_f, keep_t, keeps_t, attr_prop, attr_fld, meth_m, methk_m, mul_m, add_m, sub_m, eq_m, ne_m, tru_m, bool_m, fl_rowL, fl_rowT, has_rowL, has_rowT, fl_tabL, fl_tabT, has_tabLt, has_tabTt, hb_L_sh, hb_L_own, hb_T_sh, hb_T_own, ite_self, fls_ints, hass_ints, fls_im, hass_im, fls_rowL, fls_rowT, List.set_cons_zero, List.set_cons_succ, wipeE, setsE, tgE, ITg.ix, giveE, IE.vars, IEs.vars, reduceCtorEq, decide_false, decide_true, Bool.or_false, Bool.false_or, Bool.or_true, Bool.true_or, Bool.and_true, Bool.true_and, Bool.and_false, Bool.false_and, Bool.not_true, Bool.not_false, if_true, if_false, ite_true, ite_false, Bool.false_eq_true, ne_eq, not_false_eq_true, not_true_eq_false, List.cons_append, List.nil_append, List.append_nil, List.mem_cons, List.not_mem_nil, or_false, false_or, or_true, true_or, Nat.reduceEqDiff, Nat.reduceAdd, eq_self, and_self, and_true, true_and, Option.map_some, Option.map_none, List.getElem?_cons_zero, List.getElem?_cons_succ, mulE]
theorem tabL_def (f g : Fl) (n : Nat) (e : Ta) : tabL f g (tab n e) = .lst f ((List.range n).map fun r => rowL g ((List.range (r + 1)).map (e r))) := by
  unfold tabL tab
  rw [List.map_map]; rfl
theorem tabT_def (f g : Fl) (n : Nat) (e : Ta) : tabT f g (tab n e) = .tup f ((List.range n).map fun r => rowT g ((List.range (r + 1)).map (e r))) := by
  unfold tabT tab
  rw [List.map_map]; rfl
theorem rowL_def (f : Fl) (n : Nat) (h : Nat → Int) : rowL f ((List.range n).map h) = .lst f ((List.range n).map fun c => D.int (h c)) := by
  unfold rowL
  rw [List.map_map]; rfl
theorem rowT_def (f : Fl) (n : Nat) (h : Nat → Int) : rowT f ((List.range n).map h) = .tup f ((List.range n).map fun c => D.int (h c)) := by
  unfold rowT
  rw [List.map_map]; rfl
theorem lc_r {env : Env} {tg : ITg} {elt : IE} {k : Nat} {h : Nat → D} (g : Nat → D) {R : D} (hl : k ≤ sizeLine)
    (H : ∀ x, x < k → bnd (opt (tgE tg (h x).so (wipeE env tg.ix))) (fun env' => (evA P cl elt).v env') = ret (g x)) (hR : R = .lst .own ((List.range k).map g)) : lcM P cl env tg elt ((List.range k).map h) = ret R := by
  rw [hR]
  exact lc_map (by simpa using hl) (fun x hx => H x (List.mem_range.mp hx))
theorem len_tabT (f g : Fl) (N : Nat) (e : Ta) : bltM P cl "len" [tabT f g (tab N e)] = ret (.int (N : Int)) := by
  rw [tabT_def, len_tup, List.length_map, List.length_range]
theorem len_tabL (f g : Fl) (N : Nat) (e : Ta) : bltM P cl "len" [tabL f g (tab N e)] = ret (.int (N : Int)) := by
  rw [tabL_def, len_lst, List.length_map, List.length_range]
theorem len_rowL (f : Fl) (N : Nat) (h : Nat → Int) : bltM P cl "len" [rowL f ((List.range N).map h)] = ret (.int (N : Int)) := by
  rw [rowL_def, len_lst, List.length_map, List.length_range]
theorem len_rowT (f : Fl) (N : Nat) (h : Nat → Int) : bltM P cl "len" [rowT f ((List.range N).map h)] = ret (.int (N : Int)) := by
  rw [rowT_def, len_tup, List.length_map, List.length_range]
theorem behind_ok [Has P d_behind] [Has P d_entry_behind] {N a b : Nat} {e f : Ta} (hN : N ≤ 4) (he : Tb N a e) (hf : Tb N b f) (ha : a ≤ 400000) (hb : b ≤ 400000) :
    callP P W noP (n + 2) "behind" [tabT .sh .sh (tab N e), tabT .sh .sh (tab N f)] = ret (tabL .own .own (tab N (mulE e f))) := by
  have hs : sizeLine = 2 ^ 24 := rfl
  rw [c_behind]
  simp only [b_behind, v_var, v_int, v_str, v_bl, v_non, v_bin, v_neg, v_not, v_bop, v_ife, v_cmp, v_cmp2, v_call, v_scall_s, v_meth, v_methk, v_attr, v_blt, v_isi, v_lst, v_tup, v_idx, v_sl, p_no, p_part, v_lc, v_lcif, v_lc2, i_seq, i_range1, i_range2, i_zip, i_enum, evs_nil, evs_cons, t_not, t_bop, t_ife, t_var, t_bl, t_cmp, t_cmp2, t_call, t_scall, t_meth, t_methk, t_attr, t_blt, t_isi, t_lc, t_idx, t_bin, bopT_and_t, bopT_and_f, bopT_or_t, bopT_or_f, bopM_and_t, bopM_and_f, bopM_or_t, bopM_or_f, tru_bl, tru_int, tru_lst, tru_tup, neg_int, part_int, add_int, sub_int, lt_int, le_int, gt_int, ge_int, eq_int, ne_int, eq_bl, ne_bl, cmpI_lt, cmpI_le, len_lst, len_tup, int_int, int_bl, list_lst, list_tup, tuple_lst, sum_ints, all_bls, any_bls, app_key, s_nil, s_cons, nx_nx, nx_rt, nx_bk, nx_ct, s_asg, s_unp, s_par, s_fld, s_app, s_bset, s_expr, s_ret, s_retN, s_ifs, s_for, s_while, s_pass, s_brk, s_cont, res_rt, res_nx, self_nx, ret_bnd, fail_bnd, bnd_assoc, seq_bnd, opt_s, opt_n, gV_0, gV_s, glo_c, fls_nil, fls_cons, hass_nil, hass_cons, fl_int, fl_bl, fl_str, fl_non, fl_bag, fl_lst, fl_tup, fl_ins, has_int, has_bl, has_str, has_non, has_bag, has_lst, has_tup, has_ins, fz_own, fz_sh, fz_brw, bw_own, bw_sh, bw_brw, ub_own, ub_sh, ub_brw, so_own, so_sh, so_brw, tt_own, tt_sh, tt_brw, keep_f, keeps_f, keep_t, keeps_t, attr_prop, attr_fld, meth_m, methk_m, mul_m, add_m, sub_m, eq_m, ne_m, tru_m, bool_m, fl_rowL, fl_rowT, has_rowL, has_rowT, fl_tabL, fl_tabT, has_tabLt, has_tabTt, hb_L_sh, hb_L_own, hb_T_sh, hb_T_own, ite_self, fls_ints, hass_ints, fls_im, hass_im, fls_rowL, fls_rowT, List.set_cons_zero, List.set_cons_succ, wipeE, setsE, tgE, ITg.ix, giveE, IE.vars, IEs.vars, reduceCtorEq, decide_false, decide_true, Bool.or_false, Bool.false_or, Bool.or_true, Bool.true_or, Bool.and_true, Bool.true_and, Bool.and_false, Bool.false_and, Bool.not_true, Bool.not_false, if_true, if_false, ite_true, ite_false, Bool.false_eq_true, ne_eq, not_false_eq_true, not_true_eq_false, List.cons_append, List.nil_append, List.append_nil, List.mem_cons, List.not_mem_nil, or_false, false_or, or_true, true_or, Nat.reduceEqDiff, Nat.reduceAdd, eq_self, and_self, and_true, true_and, Option.map_some, Option.map_none, List.getElem?_cons_zero, List.getElem?_cons_succ, len_tabT, range1_nat _ (show N ≤ sizeLine by omega)]
  refine bnd_lcr (fun r => rowL .own ((List.range (r + 1)).map (mulE e f r))) (by omega) (fun r hr => ?_) (by simp only [v_var, v_int, v_str, v_bl, v_non, v_bin, v_neg, v_not, v_bop, v_ife, v_cmp, v_cmp2, v_call, v_scall_s, v_meth, v_methk, v_attr, v_blt, v_isi, v_lst, v_tup, v_idx, v_sl, p_no, p_part, v_lc, v_lcif, v_lc2, i_seq, i_range1, i_range2, i_zip, i_enum, evs_nil, evs_cons, t_not, t_bop, t_ife, t_var, t_bl, t_cmp, t_cmp2, t_call, t_scall, t_meth, t_methk, t_attr, t_blt, t_isi, t_lc, t_idx, t_bin, bopT_and_t, bopT_and_f, bopT_or_t, bopT_or_f, bopM_and_t, bopM_and_f, bopM_or_t, bopM_or_f, tru_bl, tru_int, tru_lst, tru_tup, neg_int, part_int, add_int, sub_int, lt_int, le_int, gt_int, ge_int, eq_int, ne_int, eq_bl, ne_bl, cmpI_lt, cmpI_le, len_lst, len_tup, int_int, int_bl, list_lst, list_tup, tuple_lst, sum_ints, all_bls, any_bls, app_key, s_nil, s_cons, nx_nx, nx_rt, nx_bk, nx_ct, s_asg, s_unp, s_par, s_fld, s_app, s_bset, s_expr, s_ret, s_retN, s_ifs, s_for, s_while, s_pass, s_brk, s_cont, res_rt, res_nx, self_nx, ret_bnd, fail_bnd, bnd_assoc, seq_bnd, opt_s, opt_n, gV_0, gV_s, glo_c, fls_nil, fls_cons, hass_nil, hass_cons, fl_int, fl_bl, fl_str, fl_non, fl_bag, fl_lst, fl_tup, fl_ins, has_int, has_bl, has_str, has_non, has_bag, has_lst, has_tup, has_ins, fz_own, fz_sh, fz_brw, bw_own, bw_sh, bw_brw, ub_own, ub_sh, ub_brw, so_own, so_sh, so_brw, tt_own, tt_sh, tt_brw, keep_f, keeps_f, keep_t, keeps_t, attr_prop, attr_fld, meth_m, methk_m, mul_m, add_m, sub_m, eq_m, ne_m, tru_m, bool_m, fl_rowL, fl_rowT, has_rowL, has_rowT, fl_tabL, fl_tabT, has_tabLt, has_tabTt, hb_L_sh, hb_L_own, hb_T_sh, hb_T_own, ite_self, fls_ints, hass_ints, fls_im, hass_im, fls_rowL, fls_rowT, List.set_cons_zero, List.set_cons_succ, wipeE, setsE, tgE, ITg.ix, giveE, IE.vars, IEs.vars, reduceCtorEq, decide_false, decide_true, Bool.or_false, Bool.false_or, Bool.or_true, Bool.true_or, Bool.and_true, Bool.true_and, Bool.and_false, Bool.false_and, Bool.not_true, Bool.not_false, if_true, if_false, ite_true, ite_false, Bool.false_eq_true, ne_eq, not_false_eq_true, not_true_eq_false, List.cons_append, List.nil_append, List.append_nil, List.mem_cons, List.not_mem_nil, or_false, false_or, or_true, true_or, Nat.reduceEqDiff, Nat.reduceAdd, eq_self, and_self, and_true, true_and, Option.map_some, Option.map_none, List.getElem?_cons_zero, List.getElem?_cons_succ, ← tabL_def])
  simp only [v_var, v_int, v_str, v_bl, v_non, v_bin, v_neg, v_not, v_bop, v_ife, v_cmp, v_cmp2, v_call, v_scall_s, v_meth, v_methk, v_attr, v_blt, v_isi, v_lst, v_tup, v_idx, v_sl, p_no, p_part, v_lc, v_lcif, v_lc2, i_seq, i_range1, i_range2, i_zip, i_enum, evs_nil, evs_cons, t_not, t_bop, t_ife, t_var, t_bl, t_cmp, t_cmp2, t_call, t_scall, t_meth, t_methk, t_attr, t_blt, t_isi, t_lc, t_idx, t_bin, bopT_and_t, bopT_and_f, bopT_or_t, bopT_or_f, bopM_and_t, bopM_and_f, bopM_or_t, bopM_or_f, tru_bl, tru_int, tru_lst, tru_tup, neg_int, part_int, add_int, sub_int, lt_int, le_int, gt_int, ge_int, eq_int, ne_int, eq_bl, ne_bl, cmpI_lt, cmpI_le, len_lst, len_tup, int_int, int_bl, list_lst, list_tup, tuple_lst, sum_ints, all_bls, any_bls, app_key, s_nil, s_cons, nx_nx, nx_rt, nx_bk, nx_ct, s_asg, s_unp, s_par, s_fld, s_app, s_bset, s_expr, s_ret, s_retN, s_ifs, s_for, s_while, s_pass, s_brk, s_cont, res_rt, res_nx, self_nx, ret_bnd, fail_bnd, bnd_assoc, seq_bnd, opt_s, opt_n, gV_0, gV_s, glo_c, fls_nil, fls_cons, hass_nil, hass_cons, fl_int, fl_bl, fl_str, fl_non, fl_bag, fl_lst, fl_tup, fl_ins, has_int, has_bl, has_str, has_non, has_bag, has_lst, has_tup, has_ins, fz_own, fz_sh, fz_brw, bw_own, bw_sh, bw_brw, ub_own, ub_sh, ub_brw, so_own, so_sh, so_brw, tt_own, tt_sh, tt_brw, keep_f, keeps_f, keep_t, keeps_t, attr_prop, attr_fld, meth_m, methk_m, mul_m, add_m, sub_m, eq_m, ne_m, tru_m, bool_m, fl_rowL, fl_rowT, has_rowL, has_rowT, fl_tabL, fl_tabT, has_tabLt, has_tabTt, hb_L_sh, hb_L_own, hb_T_sh, hb_T_own, ite_self, fls_ints, hass_ints, fls_im, hass_im, fls_rowL, fls_rowT, List.set_cons_zero, List.set_cons_succ, wipeE, setsE, tgE, ITg.ix, giveE, IE.vars, IEs.vars, reduceCtorEq, decide_false, decide_true, Bool.or_false, Bool.false_or, Bool.or_true, Bool.true_or, Bool.and_true, Bool.true_and, Bool.and_false, Bool.false_and, Bool.not_true, Bool.not_false, if_true, if_false, ite_true, ite_false, Bool.false_eq_true, ne_eq, not_false_eq_true, not_true_eq_false, List.cons_append, List.nil_append, List.append_nil, List.mem_cons, List.not_mem_nil, or_false, false_or, or_true, true_or, Nat.reduceEqDiff, Nat.reduceAdd, eq_self, and_self, and_true, true_and, Option.map_some, Option.map_none, List.getElem?_cons_zero, List.getElem?_cons_succ, cast1, range1_nat _ (show r + 1 ≤ sizeLine by omega)]
  refine lc_r (fun c => .int (mulE e f r c)) (by omega) (fun c hc => ?_) (rowL_def _ _ _)
  simp only [v_var, v_int, v_str, v_bl, v_non, v_bin, v_neg, v_not, v_bop, v_ife, v_cmp, v_cmp2, v_call, v_scall_s, v_meth, v_methk, v_attr, v_blt, v_isi, v_lst, v_tup, v_idx, v_sl, p_no, p_part, v_lc, v_lcif, v_lc2, i_seq, i_range1, i_range2, i_zip, i_enum, evs_nil, evs_cons, t_not, t_bop, t_ife, t_var, t_bl, t_cmp, t_cmp2, t_call, t_scall, t_meth, t_methk, t_attr, t_blt, t_isi, t_lc, t_idx, t_bin, bopT_and_t, bopT_and_f, bopT_or_t, bopT_or_f, bopM_and_t, bopM_and_f, bopM_or_t, bopM_or_f, tru_bl, tru_int, tru_lst, tru_tup, neg_int, part_int, add_int, sub_int, lt_int, le_int, gt_int, ge_int, eq_int, ne_int, eq_bl, ne_bl, cmpI_lt, cmpI_le, len_lst, len_tup, int_int, int_bl, list_lst, list_tup, tuple_lst, sum_ints, all_bls, any_bls, app_key, s_nil, s_cons, nx_nx, nx_rt, nx_bk, nx_ct, s_asg, s_unp, s_par, s_fld, s_app, s_bset, s_expr, s_ret, s_retN, s_ifs, s_for, s_while, s_pass, s_brk, s_cont, res_rt, res_nx, self_nx, ret_bnd, fail_bnd, bnd_assoc, seq_bnd, opt_s, opt_n, gV_0, gV_s, glo_c, fls_nil, fls_cons, hass_nil, hass_cons, fl_int, fl_bl, fl_str, fl_non, fl_bag, fl_lst, fl_tup, fl_ins, has_int, has_bl, has_str, has_non, has_bag, has_lst, has_tup, has_ins, fz_own, fz_sh, fz_brw, bw_own, bw_sh, bw_brw, ub_own, ub_sh, ub_brw, so_own, so_sh, so_brw, tt_own, tt_sh, tt_brw, keep_f, keeps_f, keep_t, keeps_t, attr_prop, attr_fld, meth_m, methk_m, mul_m, add_m, sub_m, eq_m, ne_m, tru_m, bool_m, fl_rowL, fl_rowT, has_rowL, has_rowT, fl_tabL, fl_tabT, has_tabLt, has_tabTt, hb_L_sh, hb_L_own, hb_T_sh, hb_T_own, ite_self, fls_ints, hass_ints, fls_im, hass_im, fls_rowL, fls_rowT, List.set_cons_zero, List.set_cons_succ, wipeE, setsE, tgE, ITg.ix, giveE, IE.vars, IEs.vars, reduceCtorEq, decide_false, decide_true, Bool.or_false, Bool.false_or, Bool.or_true, Bool.true_or, Bool.and_true, Bool.true_and, Bool.and_false, Bool.false_and, Bool.not_true, Bool.not_false, if_true, if_false, ite_true, ite_false, Bool.false_eq_true, ne_eq, not_false_eq_true, not_true_eq_false, List.cons_append, List.nil_append, List.append_nil, List.mem_cons, List.not_mem_nil, or_false, false_or, or_true, true_or, Nat.reduceEqDiff, Nat.reduceAdd, eq_self, and_self, and_true, true_and, Option.map_some, Option.map_none, List.getElem?_cons_zero, List.getElem?_cons_succ, entry_ok (n := n) (show c ≤ r by omega) hr hN he hf ha hb]
end
end TI.TL

set_option Elab.async false
set_option linter.all false
set_option maxRecDepth 100000
set_option maxHeartbeats 2000000
/-! runs without drawing, told by what they end in; inverses -/
namespace TI.TL
open PySem PySem.Spec PyProof.Rows L2
/-- ends with Q, without drawing -/
def Pu {α : Type} (m : M α) (Q : α → Prop) : Prop := ∃ a, m = ret a ∧ Q a
theorem pu_ret {α : Type} {a : α} {Q : α → Prop} (h : Q a) : Pu (ret a) Q := ⟨a, rfl, h⟩
theorem pu_bnd {α β : Type} {m : M α} {f : α → M β} {Q : α → Prop} {R : β → Prop} (h : Pu m Q) (k : ∀ a, Q a → Pu (f a) R) : Pu (bnd m f) R := by
  obtain ⟨a, e, q⟩ := h
  rw [e, ret_bnd]
  exact k a q
theorem pu_eq {α : Type} {m : M α} {a : α} (h : Pu m fun x => x = a) : m = ret a := by
  obtain ⟨x, e, q⟩ := h
  rw [e, q]
theorem pu_post {α : Type} {m : M α} {Q R : α → Prop} (h : Pu m Q) (hq : ∀ a, Q a → R a) : Pu m R := by
  obtain ⟨a, e, q⟩ := h
  exact ⟨a, e, hq a q⟩
theorem dr_pu {α : Type} {c : Nat} {m : M α} {Q : α → Prop} (h : Pu m Q) : Dr c m Q := by
  obtain ⟨a, e, q⟩ := h
  rw [e]
  exact dr_ret' q
/-- goes on -/
def Nx (I : Env → Prop) : Fw → Prop := fun r => ∃ e, r = .nx e ∧ I e
theorem pu_nx {I : Env → Prop} {env : Env} (h : I env) : Pu (ret (.nx env)) (Nx I) := pu_ret ⟨env, rfl, h⟩
theorem pu_loop {f : D → Env → M Fw} : ∀ {ds : List D} {env : Env} (I : Nat → Env → Prop), I 0 env → (∀ i (h : i < ds.length) env, I i env → Pu (f ds[i] env) (Nx (I (i + 1)))) → Pu (loopM f ds env) (Nx (I ds.length))
  | [], env, I, h0, _ => pu_ret ⟨env, rfl, h0⟩
  | d :: ds, env, I, h0, H => by
    rw [loopM, List.length_cons]
    have q := H 0 (Nat.succ_pos _) env h0
    rw [List.getElem_cons_zero] at q
    refine pu_bnd q fun r hr => ?_
    obtain ⟨env', rfl, h1⟩ := hr
    exact pu_loop (fun i => I (i + 1)) h1 fun i h env hi => by
      have := H (i + 1) (Nat.succ_lt_succ h) env hi
      rwa [List.getElem_cons_succ] at this
section
variable {P : Pg} {cl : Str → List D → M D} {W n : Nat}
theorem pu_for {ι : Type} {tg : ITg} {body : ISs} {xs : List ι} {g : ι → D} {env : Env} (I : Nat → Env → Prop) (h0 : I 0 env)
    (H : ∀ i (h : i < xs.length) env, I i env → Pu (bnd (opt (tgE tg (g xs[i]).ub.so env)) (exSs P cl W body)) (Nx (I (i + 1)))) :
    Pu (forM P cl W tg body (xs.map g) env) (Nx (I xs.length)) := by
  have q := pu_loop (f := fun d env' => bnd (opt (tgE tg d.ub.so env')) fun env2 => exSs P cl W body env2) (ds := xs.map g) I h0 (fun i h env hi => by
    rw [List.getElem_map]
    exact H i (by simpa using h) env hi)
  rwa [List.length_map] at q
theorem pu_forr {tg : ITg} {body : ISs} {k : Nat} {g : Nat → D} {env : Env} (I : Nat → Env → Prop) (h0 : I 0 env)
    (H : ∀ i (h : i < k) env, I i env → Pu (bnd (opt (tgE tg (g i).ub.so env)) (exSs P cl W body)) (Nx (I (i + 1)))) :
    Pu (forM P cl W tg body ((List.range k).map g) env) (Nx (I k)) := by
  have q := pu_for (P := P) (cl := cl) (W := W) (tg := tg) (body := body) (xs := List.range k) (g := g) I h0 (fun i h env hi => by
    rw [List.getElem_range]
    exact H i (by simpa using h) env hi)
  rwa [List.length_range] at q
/-! enumerate, all, any, sum over told lists -/
theorem enum_tup (f : Fl) (k : Nat) (g : Nat → D) : enumD (.tup f ((List.range k).map g)) = some ((List.range k).map fun (i : Nat) => pairD (.int (i : Int)) (g i).so) := by
  show some (List.zipWith _ (List.range (D.fls Fl.so ((List.range k).map g)).length) (D.fls Fl.so ((List.range k).map g))) = _
  rw [fls_map, List.length_map, List.length_range, List.zipWith_map_right]
  congr 1
  refine List.ext_getElem (by simp) fun i h1 h2 => ?_
  simp [D.so]
theorem enum_lst (f : Fl) (k : Nat) (g : Nat → D) : enumD (.lst f ((List.range k).map g)) = some ((List.range k).map fun (i : Nat) => pairD (.int (i : Int)) (g i).so) := enum_tup f k g
theorem enum_tabT (f g : Fl) (N : Nat) (e : Ta) : enumD (tabT f g (tab N e)) = some ((List.range N).map fun (r : Nat) => pairD (.int (r : Int)) (rowT (Fl.so g) ((List.range (r + 1)).map (e r)))) := by
  rw [tabT_def, enum_tup]
  simp only [D.so, fl_rowT]
theorem enum_tabL (f g : Fl) (N : Nat) (e : Ta) : enumD (tabL f g (tab N e)) = some ((List.range N).map fun (r : Nat) => pairD (.int (r : Int)) (rowL (Fl.so g) ((List.range (r + 1)).map (e r)))) := by
  rw [tabL_def, enum_lst]
  simp only [D.so, fl_rowL]
theorem idx_lst (f : Fl) (xs : List D) (j : Int) : idxD (.lst f xs) (.int j) = L2.atI xs j := nr rfl
theorem idx_tup (f : Fl) (xs : List D) (j : Int) : idxD (.tup f xs) (.int j) = L2.atI xs j := nr rfl
theorem items_tup (f : Fl) (xs : List D) : itemsD (.tup f xs) = some (D.fls Fl.so xs) := nr rfl
theorem items_lst (f : Fl) (xs : List D) : itemsD (.lst f xs) = some (D.fls Fl.so xs) := nr rfl
theorem items_tabT (f g : Fl) (N : Nat) (e : Ta) : itemsD (tabT f g (tab N e)) = some ((List.range N).map fun r => rowT (Fl.so g) ((List.range (r + 1)).map (e r))) := by
  rw [tabT_def, items_tup, fls_map]
  simp only [fl_rowT]
theorem items_tabL (f g : Fl) (N : Nat) (e : Ta) : itemsD (tabL f g (tab N e)) = some ((List.range N).map fun r => rowL (Fl.so g) ((List.range (r + 1)).map (e r))) := by
  rw [tabL_def, items_lst, fls_map]
  simp only [fl_rowL]
theorem items_rowT (f : Fl) (k : Nat) (h : Nat → Int) : itemsD (rowT f ((List.range k).map h)) = some ((List.range k).map fun c => D.int (h c)) := by
  rw [rowT_def, items_tup, fls_map]; rfl
theorem items_rowL (f : Fl) (k : Nat) (h : Nat → Int) : itemsD (rowL f ((List.range k).map h)) = some ((List.range k).map fun c => D.int (h c)) := by
  rw [rowL_def, items_lst, fls_map]; rfl
theorem bls_of {ι : Type} (p : ι → Bool) (xs : List ι) : xs.map (fun x => D.bl (p x)) = (xs.map p).map D.bl := by rw [List.map_map]; rfl
theorem all_map {ι : Type} (f : Fl) (p : ι → Bool) (xs : List ι) : bltM P cl "all" [.lst f (xs.map fun x => D.bl (p x))] = ret (.bl (xs.all p)) := by
  rw [bls_of, all_bls, List.all_map]; rfl
theorem any_map {ι : Type} (f : Fl) (p : ι → Bool) (xs : List ι) : bltM P cl "any" [.lst f (xs.map fun x => D.bl (p x))] = ret (.bl (xs.any p)) := by
  rw [bls_of, any_bls, List.any_map]; rfl
theorem all_t {ι : Type} (f : Fl) (xs : List ι) : bltM P cl "all" [.lst f (xs.map fun x => D.bl true)] = ret (.bl true) := by
  rw [all_map]
  congr 2
  simp
theorem ints_of {ι : Type} (p : ι → Int) (xs : List ι) : xs.map (fun x => D.int (p x)) = (xs.map p).map D.int := by rw [List.map_map]; rfl
theorem sum_map {ι : Type} (f : Fl) (p : ι → Int) (xs : List ι) : bltM P cl "sum" [.lst f (xs.map fun x => D.int (p x))] = ret (.int (xs.map p).sum) := by
  rw [ints_of, sum_ints]
/-! the inverse -/
/-- the rows below k of the table that undoes e -/
def invT (e : Ta) : Nat → Ta
  | 0 => fun _ _ => 0
  | k + 1 => fun r c => if r = k then -(accN (e k c) (fun j => e k (c + j + 1) * invT e k (c + j) c) (k - c)) else invT e k r c
theorem invT_s (e : Ta) (k r c : Nat) : invT e (k + 1) r c = if r = k then -(accN (e k c) (fun j => e k (c + j + 1) * invT e k (c + j) c) (k - c)) else invT e k r c := nr rfl
def invE (e : Ta) : Ta := fun r c => invT e (r + 1) r c
theorem invT_lt (e : Ta) : ∀ {k r c : Nat}, r < k → invT e k r c = invE e r c
  | 0, _, _, h => by omega
  | k + 1, r, c, h => by
    by_cases q : r = k
    · subst q; rfl
    · rw [invT_s, if_neg q]
      exact invT_lt e (by omega)
theorem invE_eq (e : Ta) (r c : Nat) : invE e r c = -(accN (e r c) (fun j => e r (c + j + 1) * invE e (c + j) c) (r - c)) := by
  show invT e (r + 1) r c = _
  rw [invT_s, if_pos rfl]
  congr 1
  exact accN_congr rfl fun j hj => by rw [invT_lt e (by omega)]
theorem invE_lt {N a : Nat} {e : Ta} (hN : N ≤ 4) (he : Tb N a e) : ∀ (r : Nat), r < N → ∀ c, c ≤ r → (accN (e r c) (fun j => e r (c + j + 1) * invE e (c + j) c) (r - c)).natAbs < 2 ^ ((r + 1) * (a + 2)) ∧ ∀ j, j < r - c → (e r (c + j + 1) * invE e (c + j) c).natAbs ≤ 2 ^ (a + r * (a + 2)) := by
  intro r
  induction r using Nat.strongRecOn with
  | ind r ih =>
    intro hr c hc
    have hM : ∀ j, j < r - c → (e r (c + j + 1) * invE e (c + j) c).natAbs ≤ 2 ^ (a + r * (a + 2)) := fun j hj => by
      have h1 := he r (c + j + 1) (by omega) hr
      have h2 := (ih (c + j) (by omega) (by omega) c (by omega)).1
      rw [← Int.natAbs_neg, ← invE_eq] at h2
      refine Nat.le_trans (mul_lt h1 h2) (Nat.pow_le_pow_right (by decide) (Nat.add_le_add_left (Nat.mul_le_mul_right _ (by omega)) _))
    refine ⟨?_, hM⟩
    have h3 := accN_le (B := 2 ^ a) (b := e r c) (n := r - c) (Nat.le_of_lt (he r c hc hr)) hM
    have h0 := he r c hc hr
    have h4 : 2 ^ a ≤ 2 ^ (a + r * (a + 2)) := Nat.pow_le_pow_right (by decide) (by omega)
    have h5 : 2 ^ ((r + 1) * (a + 2)) = 2 ^ (a + r * (a + 2)) * 4 := by
      rw [show (r + 1) * (a + 2) = (a + r * (a + 2)) + 2 by rw [Nat.add_mul]; omega, Nat.pow_add]
    have h6 : (r - c) * 2 ^ (a + r * (a + 2)) ≤ 3 * 2 ^ (a + r * (a + 2)) := Nat.mul_le_mul_right _ (by omega)
    by_cases hz : r - c = 0
    · rw [hz, accN]
      omega
    · by_cases hz2 : 2 ^ a < 2 ^ (a + r * (a + 2))
      · omega
      · exact absurd (Nat.pow_lt_pow_right (by decide : 1 < 2) (show a < a + r * (a + 2) by
          have : 0 < r * (a + 2) := Nat.mul_pos (by omega) (by omega)
          omega)) hz2
theorem Tb.inv {N a : Nat} {e : Ta} (hN : N ≤ 4) (he : Tb N a e) : Tb N (4 * (a + 2)) (invE e) := fun r c hc hr => by
  have h := (invE_lt hN he r hr c hc).1
  rw [← Int.natAbs_neg, ← invE_eq] at h
  exact Nat.lt_of_lt_of_le h (Nat.pow_le_pow_right (by decide) (Nat.mul_le_mul_right _ (by omega)))
theorem range_snoc {α : Type} (g : Nat → α) (k : Nat) : (List.range k).map g ++ [g k] = (List.range (k + 1)).map g := by
  rw [List.range_succ, List.map_append]; rfl
theorem accN_sub {b : Int} {f : Nat → Int} {B M n : Nat} (hb : b.natAbs ≤ B) (h : ∀ j, j < n → (f j).natAbs ≤ M) {i : Nat} (hi : i ≤ n) : (accN b f i).natAbs ≤ B + n * M :=
  Nat.le_trans (accN_le hb fun j hj => h j (by omega)) (Nat.add_le_add_left (Nat.mul_le_mul_right _ hi) _)
theorem inverse_ok [Has P d_inverse] {N a : Nat} {e : Ta} (hN : N ≤ 4) (he : Tb N a e) (ha : 4 * (a + 2) ≤ 400000) :
    callP P W noP (n + 1) "inverse" [tabT .sh .sh (tab N e)] = ret (tabL .sh .sh (tab N (invE e))) := by
  have hs : sizeLine = 2 ^ 24 := rfl
  rw [c_inverse]
  refine pu_eq ?_
  simp only [b_inverse, v_var, v_int, v_str, v_bl, v_non, v_bin, v_neg, v_not, v_bop, v_ife, v_cmp, v_cmp2, v_call, v_scall_s, v_meth, v_methk, v_attr, v_blt, v_isi, v_lst, v_tup, v_idx, v_sl, p_no, p_part, v_lc, v_lcif, v_lc2, i_seq, i_range1, i_range2, i_zip, i_enum, evs_nil, evs_cons, t_not, t_bop, t_ife, t_var, t_bl, t_cmp, t_cmp2, t_call, t_scall, t_meth, t_methk, t_attr, t_blt, t_isi, t_lc, t_idx, t_bin, bopT_and_t, bopT_and_f, bopT_or_t, bopT_or_f, bopM_and_t, bopM_and_f, bopM_or_t, bopM_or_f, tru_bl, tru_int, tru_lst, tru_tup, neg_int, part_int, add_int, sub_int, lt_int, le_int, gt_int, ge_int, eq_int, ne_int, eq_bl, ne_bl, cmpI_lt, cmpI_le, len_lst, len_tup, int_int, int_bl, list_lst, list_tup, tuple_lst, sum_ints, all_bls, any_bls, app_key, s_nil, s_cons, nx_nx, nx_rt, nx_bk, nx_ct, s_asg, s_unp, s_par, s_fld, s_app, s_bset, s_expr, s_ret, s_retN, s_ifs, s_for, s_while, s_pass, s_brk, s_cont, res_rt, res_nx, self_nx, ret_bnd, fail_bnd, bnd_assoc, seq_bnd, opt_s, opt_n, gV_0, gV_s, glo_c, fls_nil, fls_cons, hass_nil, hass_cons, fl_int, fl_bl, fl_str, fl_non, fl_bag, fl_lst, fl_tup, fl_ins, has_int, has_bl, has_str, has_non, has_bag, has_lst, has_tup, has_ins, fz_own, fz_sh, fz_brw, bw_own, bw_sh, bw_brw, ub_own, ub_sh, ub_brw, so_own, so_sh, so_brw, tt_own, tt_sh, tt_brw, keep_f, keeps_f, keep_t, keeps_t, attr_prop, attr_fld, meth_m, methk_m, mul_m, add_m, sub_m, eq_m, ne_m, tru_m, bool_m, fl_rowL, fl_rowT, has_rowL, has_rowT, fl_tabL, fl_tabT, has_tabLt, has_tabTt, hb_L_sh, hb_L_own, hb_T_sh, hb_T_own, ite_self, fls_ints, hass_ints, fls_im, hass_im, fls_rowL, fls_rowT, List.set_cons_zero, List.set_cons_succ, wipeE, setsE, tgE, ITg.ix, giveE, IE.vars, IEs.vars, reduceCtorEq, decide_false, decide_true, Bool.or_false, Bool.false_or, Bool.or_true, Bool.true_or, Bool.and_true, Bool.true_and, Bool.and_false, Bool.false_and, Bool.not_true, Bool.not_false, if_true, if_false, ite_true, ite_false, Bool.false_eq_true, ne_eq, not_false_eq_true, not_true_eq_false, List.cons_append, List.nil_append, List.append_nil, List.mem_cons, List.not_mem_nil, or_false, false_or, or_true, true_or, Nat.reduceEqDiff, Nat.reduceAdd, eq_self, and_self, and_true, true_and, Option.map_some, Option.map_none, List.getElem?_cons_zero, List.getElem?_cons_succ, seq_ret, List.length_nil, Nat.zero_le, enum_tabT]
  refine pu_bnd (pu_forr (fun r env => ∃ z2 z3 z4 z5 z6 z7, env = [some (tabT .sh .sh (tab N e)), some (.lst .own ((List.range r).map fun i => rowL .sh ((List.range (i + 1)).map (invE e i)))), z2, z3, z4, z5, z6, z7]) ⟨none, none, none, none, none, none, rfl⟩ ?_) ?_
  · rintro r hr env ⟨z2, z3, z4, z5, z6, z7, rfl⟩
    simp only [pairD, v_var, v_int, v_str, v_bl, v_non, v_bin, v_neg, v_not, v_bop, v_ife, v_cmp, v_cmp2, v_call, v_scall_s, v_meth, v_methk, v_attr, v_blt, v_isi, v_lst, v_tup, v_idx, v_sl, p_no, p_part, v_lc, v_lcif, v_lc2, i_seq, i_range1, i_range2, i_zip, i_enum, evs_nil, evs_cons, t_not, t_bop, t_ife, t_var, t_bl, t_cmp, t_cmp2, t_call, t_scall, t_meth, t_methk, t_attr, t_blt, t_isi, t_lc, t_idx, t_bin, bopT_and_t, bopT_and_f, bopT_or_t, bopT_or_f, bopM_and_t, bopM_and_f, bopM_or_t, bopM_or_f, tru_bl, tru_int, tru_lst, tru_tup, neg_int, part_int, add_int, sub_int, lt_int, le_int, gt_int, ge_int, eq_int, ne_int, eq_bl, ne_bl, cmpI_lt, cmpI_le, len_lst, len_tup, int_int, int_bl, list_lst, list_tup, tuple_lst, sum_ints, all_bls, any_bls, app_key, s_nil, s_cons, nx_nx, nx_rt, nx_bk, nx_ct, s_asg, s_unp, s_par, s_fld, s_app, s_bset, s_expr, s_ret, s_retN, s_ifs, s_for, s_while, s_pass, s_brk, s_cont, res_rt, res_nx, self_nx, ret_bnd, fail_bnd, bnd_assoc, seq_bnd, opt_s, opt_n, gV_0, gV_s, glo_c, fls_nil, fls_cons, hass_nil, hass_cons, fl_int, fl_bl, fl_str, fl_non, fl_bag, fl_lst, fl_tup, fl_ins, has_int, has_bl, has_str, has_non, has_bag, has_lst, has_tup, has_ins, fz_own, fz_sh, fz_brw, bw_own, bw_sh, bw_brw, ub_own, ub_sh, ub_brw, so_own, so_sh, so_brw, tt_own, tt_sh, tt_brw, keep_f, keeps_f, keep_t, keeps_t, attr_prop, attr_fld, meth_m, methk_m, mul_m, add_m, sub_m, eq_m, ne_m, tru_m, bool_m, fl_rowL, fl_rowT, has_rowL, has_rowT, fl_tabL, fl_tabT, has_tabLt, has_tabTt, hb_L_sh, hb_L_own, hb_T_sh, hb_T_own, ite_self, fls_ints, hass_ints, fls_im, hass_im, fls_rowL, fls_rowT, List.set_cons_zero, List.set_cons_succ, wipeE, setsE, tgE, ITg.ix, giveE, IE.vars, IEs.vars, reduceCtorEq, decide_false, decide_true, Bool.or_false, Bool.false_or, Bool.or_true, Bool.true_or, Bool.and_true, Bool.true_and, Bool.and_false, Bool.false_and, Bool.not_true, Bool.not_false, if_true, if_false, ite_true, ite_false, Bool.false_eq_true, ne_eq, not_false_eq_true, not_true_eq_false, List.cons_append, List.nil_append, List.append_nil, List.mem_cons, List.not_mem_nil, or_false, false_or, or_true, true_or, Nat.reduceEqDiff, Nat.reduceAdd, eq_self, and_self, and_true, true_and, Option.map_some, Option.map_none, List.getElem?_cons_zero, List.getElem?_cons_succ, seq_ret, List.length_nil, Nat.zero_le, cast1, range1_nat _ (show r + 1 ≤ sizeLine by omega)]
    refine pu_bnd (pu_forr (fun c env => ∃ z5 z6 z7, env = [some (tabT .sh .sh (tab N e)), some (.lst .own ((List.range r).map fun i => rowL .sh ((List.range (i + 1)).map (invE e i)))), some (.int (r : Int)), some (rowT .sh ((List.range (r + 1)).map (e r))), some (rowL .own ((List.range c).map (invE e r))), z5, z6, z7]) ⟨z5, z6, z7, rfl⟩ ?_) ?_
    · rintro c hc env ⟨z5, z6, z7, rfl⟩
      have hb := invE_lt hN he r hr c (by omega)
      simp only [v_var, v_int, v_str, v_bl, v_non, v_bin, v_neg, v_not, v_bop, v_ife, v_cmp, v_cmp2, v_call, v_scall_s, v_meth, v_methk, v_attr, v_blt, v_isi, v_lst, v_tup, v_idx, v_sl, p_no, p_part, v_lc, v_lcif, v_lc2, i_seq, i_range1, i_range2, i_zip, i_enum, evs_nil, evs_cons, t_not, t_bop, t_ife, t_var, t_bl, t_cmp, t_cmp2, t_call, t_scall, t_meth, t_methk, t_attr, t_blt, t_isi, t_lc, t_idx, t_bin, bopT_and_t, bopT_and_f, bopT_or_t, bopT_or_f, bopM_and_t, bopM_and_f, bopM_or_t, bopM_or_f, tru_bl, tru_int, tru_lst, tru_tup, neg_int, part_int, add_int, sub_int, lt_int, le_int, gt_int, ge_int, eq_int, ne_int, eq_bl, ne_bl, cmpI_lt, cmpI_le, len_lst, len_tup, int_int, int_bl, list_lst, list_tup, tuple_lst, sum_ints, all_bls, any_bls, app_key, s_nil, s_cons, nx_nx, nx_rt, nx_bk, nx_ct, s_asg, s_unp, s_par, s_fld, s_app, s_bset, s_expr, s_ret, s_retN, s_ifs, s_for, s_while, s_pass, s_brk, s_cont, res_rt, res_nx, self_nx, ret_bnd, fail_bnd, bnd_assoc, seq_bnd, opt_s, opt_n, gV_0, gV_s, glo_c, fls_nil, fls_cons, hass_nil, hass_cons, fl_int, fl_bl, fl_str, fl_non, fl_bag, fl_lst, fl_tup, fl_ins, has_int, has_bl, has_str, has_non, has_bag, has_lst, has_tup, has_ins, fz_own, fz_sh, fz_brw, bw_own, bw_sh, bw_brw, ub_own, ub_sh, ub_brw, so_own, so_sh, so_brw, tt_own, tt_sh, tt_brw, keep_f, keeps_f, keep_t, keeps_t, attr_prop, attr_fld, meth_m, methk_m, mul_m, add_m, sub_m, eq_m, ne_m, tru_m, bool_m, fl_rowL, fl_rowT, has_rowL, has_rowT, fl_tabL, fl_tabT, has_tabLt, has_tabTt, hb_L_sh, hb_L_own, hb_T_sh, hb_T_own, ite_self, fls_ints, hass_ints, fls_im, hass_im, fls_rowL, fls_rowT, List.set_cons_zero, List.set_cons_succ, wipeE, setsE, tgE, ITg.ix, giveE, IE.vars, IEs.vars, reduceCtorEq, decide_false, decide_true, Bool.or_false, Bool.false_or, Bool.or_true, Bool.true_or, Bool.and_true, Bool.true_and, Bool.and_false, Bool.false_and, Bool.not_true, Bool.not_false, if_true, if_false, ite_true, ite_false, Bool.false_eq_true, ne_eq, not_false_eq_true, not_true_eq_false, List.cons_append, List.nil_append, List.append_nil, List.mem_cons, List.not_mem_nil, or_false, false_or, or_true, true_or, Nat.reduceEqDiff, Nat.reduceAdd, eq_self, and_self, and_true, true_and, Option.map_some, Option.map_none, List.getElem?_cons_zero, List.getElem?_cons_succ, idx_rowT, hc, range2_nat _ _ (show c ≤ sizeLine by omega) (show r ≤ sizeLine by omega)]
      refine pu_bnd (pu_forr (fun i env => ∃ z7, env = [some (tabT .sh .sh (tab N e)), some (.lst .own ((List.range r).map fun i => rowL .sh ((List.range (i + 1)).map (invE e i)))), some (.int (r : Int)), some (rowT .sh ((List.range (r + 1)).map (e r))), some (rowL .own ((List.range c).map (invE e r))), some (.int (c : Int)), some (.int (accN (e r c) (fun j => e r (c + j + 1) * invE e (c + j) c) i)), z7]) ⟨z7, rfl⟩ ?_) ?_
      · rintro i hi env ⟨z7, rfl⟩
        have h2 : c + i < r := by omega
        have h3 : c + i + 1 < r + 1 := by omega
        have h4 : c < c + i + 1 := by omega
        have h5 : mulOk (e r (c + i + 1)) (invE e (c + i) c) = true := by
          have q := (invE_lt hN he (c + i) (by omega) c (by omega)).1
          rw [← Int.natAbs_neg, ← invE_eq] at q
          exact mulOk_of' (he _ _ (by omega) hr) (Nat.lt_of_lt_of_le q (Nat.pow_le_pow_right (by decide) (Nat.mul_le_mul_right _ (show c + i + 1 ≤ 4 by omega)))) (by omega) ha
        simp only [v_var, v_int, v_str, v_bl, v_non, v_bin, v_neg, v_not, v_bop, v_ife, v_cmp, v_cmp2, v_call, v_scall_s, v_meth, v_methk, v_attr, v_blt, v_isi, v_lst, v_tup, v_idx, v_sl, p_no, p_part, v_lc, v_lcif, v_lc2, i_seq, i_range1, i_range2, i_zip, i_enum, evs_nil, evs_cons, t_not, t_bop, t_ife, t_var, t_bl, t_cmp, t_cmp2, t_call, t_scall, t_meth, t_methk, t_attr, t_blt, t_isi, t_lc, t_idx, t_bin, bopT_and_t, bopT_and_f, bopT_or_t, bopT_or_f, bopM_and_t, bopM_and_f, bopM_or_t, bopM_or_f, tru_bl, tru_int, tru_lst, tru_tup, neg_int, part_int, add_int, sub_int, lt_int, le_int, gt_int, ge_int, eq_int, ne_int, eq_bl, ne_bl, cmpI_lt, cmpI_le, len_lst, len_tup, int_int, int_bl, list_lst, list_tup, tuple_lst, sum_ints, all_bls, any_bls, app_key, s_nil, s_cons, nx_nx, nx_rt, nx_bk, nx_ct, s_asg, s_unp, s_par, s_fld, s_app, s_bset, s_expr, s_ret, s_retN, s_ifs, s_for, s_while, s_pass, s_brk, s_cont, res_rt, res_nx, self_nx, ret_bnd, fail_bnd, bnd_assoc, seq_bnd, opt_s, opt_n, gV_0, gV_s, glo_c, fls_nil, fls_cons, hass_nil, hass_cons, fl_int, fl_bl, fl_str, fl_non, fl_bag, fl_lst, fl_tup, fl_ins, has_int, has_bl, has_str, has_non, has_bag, has_lst, has_tup, has_ins, fz_own, fz_sh, fz_brw, bw_own, bw_sh, bw_brw, ub_own, ub_sh, ub_brw, so_own, so_sh, so_brw, tt_own, tt_sh, tt_brw, keep_f, keeps_f, keep_t, keeps_t, attr_prop, attr_fld, meth_m, methk_m, mul_m, add_m, sub_m, eq_m, ne_m, tru_m, bool_m, fl_rowL, fl_rowT, has_rowL, has_rowT, fl_tabL, fl_tabT, has_tabLt, has_tabTt, hb_L_sh, hb_L_own, hb_T_sh, hb_T_own, ite_self, fls_ints, hass_ints, fls_im, hass_im, fls_rowL, fls_rowT, List.set_cons_zero, List.set_cons_succ, wipeE, setsE, tgE, ITg.ix, giveE, IE.vars, IEs.vars, reduceCtorEq, decide_false, decide_true, Bool.or_false, Bool.false_or, Bool.or_true, Bool.true_or, Bool.and_true, Bool.true_and, Bool.and_false, Bool.false_and, Bool.not_true, Bool.not_false, if_true, if_false, ite_true, ite_false, Bool.false_eq_true, ne_eq, not_false_eq_true, not_true_eq_false, List.cons_append, List.nil_append, List.append_nil, List.mem_cons, List.not_mem_nil, or_false, false_or, or_true, true_or, Nat.reduceEqDiff, Nat.reduceAdd, eq_self, and_self, and_true, true_and, Option.map_some, Option.map_none, List.getElem?_cons_zero, List.getElem?_cons_succ, idx_lst, fls_map, fl_rowL, atI_range, idx_rowT, idx_rowL, h2, h3, h4, h5, cast1, mul_int, accN_s]
        exact pu_nx ⟨_, rfl⟩
      · rintro _ ⟨env, rfl, z7, rfl⟩
        have h5 : mulOk (accN (e r c) (fun j => e r (c + j + 1) * invE e (c + j) c) (r - c)) (-1) = true := mulOk_of' (b := 2) (Nat.lt_of_lt_of_le hb.1 (Nat.pow_le_pow_right (by decide) (Nat.mul_le_mul_right _ (show r + 1 ≤ 4 by omega)))) (by decide) ha (by decide)
        have h6 : accN (e r c) (fun j => e r (c + j + 1) * invE e (c + j) c) (r - c) * -1 = invE e r c := by rw [invE_eq]; omega
        simp only [v_var, v_int, v_str, v_bl, v_non, v_bin, v_neg, v_not, v_bop, v_ife, v_cmp, v_cmp2, v_call, v_scall_s, v_meth, v_methk, v_attr, v_blt, v_isi, v_lst, v_tup, v_idx, v_sl, p_no, p_part, v_lc, v_lcif, v_lc2, i_seq, i_range1, i_range2, i_zip, i_enum, evs_nil, evs_cons, t_not, t_bop, t_ife, t_var, t_bl, t_cmp, t_cmp2, t_call, t_scall, t_meth, t_methk, t_attr, t_blt, t_isi, t_lc, t_idx, t_bin, bopT_and_t, bopT_and_f, bopT_or_t, bopT_or_f, bopM_and_t, bopM_and_f, bopM_or_t, bopM_or_f, tru_bl, tru_int, tru_lst, tru_tup, neg_int, part_int, add_int, sub_int, lt_int, le_int, gt_int, ge_int, eq_int, ne_int, eq_bl, ne_bl, cmpI_lt, cmpI_le, len_lst, len_tup, int_int, int_bl, list_lst, list_tup, tuple_lst, sum_ints, all_bls, any_bls, app_key, s_nil, s_cons, nx_nx, nx_rt, nx_bk, nx_ct, s_asg, s_unp, s_par, s_fld, s_app, s_bset, s_expr, s_ret, s_retN, s_ifs, s_for, s_while, s_pass, s_brk, s_cont, res_rt, res_nx, self_nx, ret_bnd, fail_bnd, bnd_assoc, seq_bnd, opt_s, opt_n, gV_0, gV_s, glo_c, fls_nil, fls_cons, hass_nil, hass_cons, fl_int, fl_bl, fl_str, fl_non, fl_bag, fl_lst, fl_tup, fl_ins, has_int, has_bl, has_str, has_non, has_bag, has_lst, has_tup, has_ins, fz_own, fz_sh, fz_brw, bw_own, bw_sh, bw_brw, ub_own, ub_sh, ub_brw, so_own, so_sh, so_brw, tt_own, tt_sh, tt_brw, keep_f, keeps_f, keep_t, keeps_t, attr_prop, attr_fld, meth_m, methk_m, mul_m, add_m, sub_m, eq_m, ne_m, tru_m, bool_m, fl_rowL, fl_rowT, has_rowL, has_rowT, fl_tabL, fl_tabT, has_tabLt, has_tabTt, hb_L_sh, hb_L_own, hb_T_sh, hb_T_own, ite_self, fls_ints, hass_ints, fls_im, hass_im, fls_rowL, fls_rowT, List.set_cons_zero, List.set_cons_succ, wipeE, setsE, tgE, ITg.ix, giveE, IE.vars, IEs.vars, reduceCtorEq, decide_false, decide_true, Bool.or_false, Bool.false_or, Bool.or_true, Bool.true_or, Bool.and_true, Bool.true_and, Bool.and_false, Bool.false_and, Bool.not_true, Bool.not_false, if_true, if_false, ite_true, ite_false, Bool.false_eq_true, ne_eq, not_false_eq_true, not_true_eq_false, List.cons_append, List.nil_append, List.append_nil, List.mem_cons, List.not_mem_nil, or_false, false_or, or_true, true_or, Nat.reduceEqDiff, Nat.reduceAdd, eq_self, and_self, and_true, true_and, Option.map_some, Option.map_none, List.getElem?_cons_zero, List.getElem?_cons_succ, h5, h6, mul_int, rowL_def, appE, List.length_map, List.length_range, show c < sizeLine by omega, range_snoc (fun c => D.int (invE e r c)) c]
        exact pu_nx ⟨_, _, _, rfl⟩
    · rintro _ ⟨env, rfl, z5, z6, z7, rfl⟩
      simp only [v_var, v_int, v_str, v_bl, v_non, v_bin, v_neg, v_not, v_bop, v_ife, v_cmp, v_cmp2, v_call, v_scall_s, v_meth, v_methk, v_attr, v_blt, v_isi, v_lst, v_tup, v_idx, v_sl, p_no, p_part, v_lc, v_lcif, v_lc2, i_seq, i_range1, i_range2, i_zip, i_enum, evs_nil, evs_cons, t_not, t_bop, t_ife, t_var, t_bl, t_cmp, t_cmp2, t_call, t_scall, t_meth, t_methk, t_attr, t_blt, t_isi, t_lc, t_idx, t_bin, bopT_and_t, bopT_and_f, bopT_or_t, bopT_or_f, bopM_and_t, bopM_and_f, bopM_or_t, bopM_or_f, tru_bl, tru_int, tru_lst, tru_tup, neg_int, part_int, add_int, sub_int, lt_int, le_int, gt_int, ge_int, eq_int, ne_int, eq_bl, ne_bl, cmpI_lt, cmpI_le, len_lst, len_tup, int_int, int_bl, list_lst, list_tup, tuple_lst, sum_ints, all_bls, any_bls, app_key, s_nil, s_cons, nx_nx, nx_rt, nx_bk, nx_ct, s_asg, s_unp, s_par, s_fld, s_app, s_bset, s_expr, s_ret, s_retN, s_ifs, s_for, s_while, s_pass, s_brk, s_cont, res_rt, res_nx, self_nx, ret_bnd, fail_bnd, bnd_assoc, seq_bnd, opt_s, opt_n, gV_0, gV_s, glo_c, fls_nil, fls_cons, hass_nil, hass_cons, fl_int, fl_bl, fl_str, fl_non, fl_bag, fl_lst, fl_tup, fl_ins, has_int, has_bl, has_str, has_non, has_bag, has_lst, has_tup, has_ins, fz_own, fz_sh, fz_brw, bw_own, bw_sh, bw_brw, ub_own, ub_sh, ub_brw, so_own, so_sh, so_brw, tt_own, tt_sh, tt_brw, keep_f, keeps_f, keep_t, keeps_t, attr_prop, attr_fld, meth_m, methk_m, mul_m, add_m, sub_m, eq_m, ne_m, tru_m, bool_m, fl_rowL, fl_rowT, has_rowL, has_rowT, fl_tabL, fl_tabT, has_tabLt, has_tabTt, hb_L_sh, hb_L_own, hb_T_sh, hb_T_own, ite_self, fls_ints, hass_ints, fls_im, hass_im, fls_rowL, fls_rowT, List.set_cons_zero, List.set_cons_succ, wipeE, setsE, tgE, ITg.ix, giveE, IE.vars, IEs.vars, reduceCtorEq, decide_false, decide_true, Bool.or_false, Bool.false_or, Bool.or_true, Bool.true_or, Bool.and_true, Bool.true_and, Bool.and_false, Bool.false_and, Bool.not_true, Bool.not_false, if_true, if_false, ite_true, ite_false, Bool.false_eq_true, ne_eq, not_false_eq_true, not_true_eq_false, List.cons_append, List.nil_append, List.append_nil, List.mem_cons, List.not_mem_nil, or_false, false_or, or_true, true_or, Nat.reduceEqDiff, Nat.reduceAdd, eq_self, and_self, and_true, true_and, Option.map_some, Option.map_none, List.getElem?_cons_zero, List.getElem?_cons_succ, appE, List.length_map, List.length_range, show r < sizeLine by omega, range_snoc (fun i => rowL .sh ((List.range (i + 1)).map (invE e i))) r]
      exact pu_nx ⟨_, _, _, _, _, _, rfl⟩
  · rintro _ ⟨env, rfl, z2, z3, z4, z5, z6, z7, rfl⟩
    simp only [v_var, v_int, v_str, v_bl, v_non, v_bin, v_neg, v_not, v_bop, v_ife, v_cmp, v_cmp2, v_call, v_scall_s, v_meth, v_methk, v_attr, v_blt, v_isi, v_lst, v_tup, v_idx, v_sl, p_no, p_part, v_lc, v_lcif, v_lc2, i_seq, i_range1, i_range2, i_zip, i_enum, evs_nil, evs_cons, t_not, t_bop, t_ife, t_var, t_bl, t_cmp, t_cmp2, t_call, t_scall, t_meth, t_methk, t_attr, t_blt, t_isi, t_lc, t_idx, t_bin, bopT_and_t, bopT_and_f, bopT_or_t, bopT_or_f, bopM_and_t, bopM_and_f, bopM_or_t, bopM_or_f, tru_bl, tru_int, tru_lst, tru_tup, neg_int, part_int, add_int, sub_int, lt_int, le_int, gt_int, ge_int, eq_int, ne_int, eq_bl, ne_bl, cmpI_lt, cmpI_le, len_lst, len_tup, int_int, int_bl, list_lst, list_tup, tuple_lst, sum_ints, all_bls, any_bls, app_key, s_nil, s_cons, nx_nx, nx_rt, nx_bk, nx_ct, s_asg, s_unp, s_par, s_fld, s_app, s_bset, s_expr, s_ret, s_retN, s_ifs, s_for, s_while, s_pass, s_brk, s_cont, res_rt, res_nx, self_nx, ret_bnd, fail_bnd, bnd_assoc, seq_bnd, opt_s, opt_n, gV_0, gV_s, glo_c, fls_nil, fls_cons, hass_nil, hass_cons, fl_int, fl_bl, fl_str, fl_non, fl_bag, fl_lst, fl_tup, fl_ins, has_int, has_bl, has_str, has_non, has_bag, has_lst, has_tup, has_ins, fz_own, fz_sh, fz_brw, bw_own, bw_sh, bw_brw, ub_own, ub_sh, ub_brw, so_own, so_sh, so_brw, tt_own, tt_sh, tt_brw, keep_f, keeps_f, keep_t, keeps_t, attr_prop, attr_fld, meth_m, methk_m, mul_m, add_m, sub_m, eq_m, ne_m, tru_m, bool_m, fl_rowL, fl_rowT, has_rowL, has_rowT, fl_tabL, fl_tabT, has_tabLt, has_tabTt, hb_L_sh, hb_L_own, hb_T_sh, hb_T_own, ite_self, fls_ints, hass_ints, fls_im, hass_im, fls_rowL, fls_rowT, List.set_cons_zero, List.set_cons_succ, wipeE, setsE, tgE, ITg.ix, giveE, IE.vars, IEs.vars, reduceCtorEq, decide_false, decide_true, Bool.or_false, Bool.false_or, Bool.or_true, Bool.true_or, Bool.and_true, Bool.true_and, Bool.and_false, Bool.false_and, Bool.not_true, Bool.not_false, if_true, if_false, ite_true, ite_false, Bool.false_eq_true, ne_eq, not_false_eq_true, not_true_eq_false, List.cons_append, List.nil_append, List.append_nil, List.mem_cons, List.not_mem_nil, or_false, false_or, or_true, true_or, Nat.reduceEqDiff, Nat.reduceAdd, eq_self, and_self, and_true, true_and, Option.map_some, Option.map_none, List.getElem?_cons_zero, List.getElem?_cons_succ, fls_map, fl_rowL, tabL_def]
    exact pu_ret rfl
end
end TI.TL

set_option Elab.async false
set_option linter.all false
set_option maxRecDepth 100000
set_option maxHeartbeats 2000000
/-! deeds -/
namespace TI.TL
open PySem PySem.Spec PyProof.Rows L2
section
variable {P : Pg}
theorem isi_int_int (i : Int) : isiA P (.int i) ["int"] = some true := nr rfl
theorem isi_int_bool (i : Int) : isiA P (.int i) ["bool"] = some false := nr rfl
theorem isi_int_lt (i : Int) : isiA P (.int i) ["list", "tuple"] = some false := nr rfl
theorem isi_lst_lt (f : Fl) (xs : List D) : isiA P (.lst f xs) ["list", "tuple"] = some true := nr rfl
theorem isi_tup_lt (f : Fl) (xs : List D) : isiA P (.tup f xs) ["list", "tuple"] = some true := nr rfl
theorem isi_tabL_lt (f g : Fl) (t : List (List Int)) : isiA P (tabL f g t) ["list", "tuple"] = some true := nr rfl
theorem isi_tabT_lt (f g : Fl) (t : List (List Int)) : isiA P (tabT f g t) ["list", "tuple"] = some true := nr rfl
theorem isi_rowL_lt (f : Fl) (t : List Int) : isiA P (rowL f t) ["list", "tuple"] = some true := nr rfl
theorem isi_rowT_lt (f : Fl) (t : List Int) : isiA P (rowT f t) ["list", "tuple"] = some true := nr rfl
end
section
variable {P : Pg} {cl : Str → List D → M D} {W n : Nat}
theorem is_number_ok [Has P d_is_number] (i : Int) : callP P W noP (n + 1) "is_number" [.int i] = ret (.bl true) := by
  rw [c_is_number]
  simp only [b_is_number, v_var, v_int, v_str, v_bl, v_non, v_bin, v_neg, v_not, v_bop, v_ife, v_cmp, v_cmp2, v_call, v_scall_s, v_meth, v_methk, v_attr, v_blt, v_isi, v_lst, v_tup, v_idx, v_sl, p_no, p_part, v_lc, v_lcif, v_lc2, i_seq, i_range1, i_range2, i_zip, i_enum, evs_nil, evs_cons, t_not, t_bop, t_ife, t_var, t_bl, t_cmp, t_cmp2, t_call, t_scall, t_meth, t_methk, t_attr, t_blt, t_isi, t_lc, t_idx, t_bin, bopT_and_t, bopT_and_f, bopT_or_t, bopT_or_f, bopM_and_t, bopM_and_f, bopM_or_t, bopM_or_f, tru_bl, tru_int, tru_lst, tru_tup, neg_int, part_int, add_int, sub_int, lt_int, le_int, gt_int, ge_int, eq_int, ne_int, eq_bl, ne_bl, cmpI_lt, cmpI_le, len_lst, len_tup, int_int, int_bl, list_lst, list_tup, tuple_lst, sum_ints, all_bls, any_bls, app_key, s_nil, s_cons, nx_nx, nx_rt, nx_bk, nx_ct, s_asg, s_unp, s_par, s_fld, s_app, s_bset, s_expr, s_ret, s_retN, s_ifs, s_for, s_while, s_pass, s_brk, s_cont, res_rt, res_nx, self_nx, ret_bnd, fail_bnd, bnd_assoc, seq_bnd, opt_s, opt_n, gV_0, gV_s, glo_c, fls_nil, fls_cons, hass_nil, hass_cons, fl_int, fl_bl, fl_str, fl_non, fl_bag, fl_lst, fl_tup, fl_ins, has_int, has_bl, has_str, has_non, has_bag, has_lst, has_tup, has_ins, fz_own, fz_sh, fz_brw, bw_own, bw_sh, bw_brw, ub_own, ub_sh, ub_brw, so_own, so_sh, so_brw, tt_own, tt_sh, tt_brw, keep_f, keeps_f, keep_t, keeps_t, attr_prop, attr_fld, meth_m, methk_m, mul_m, add_m, sub_m, eq_m, ne_m, tru_m, bool_m, fl_rowL, fl_rowT, has_rowL, has_rowT, fl_tabL, fl_tabT, has_tabLt, has_tabTt, hb_L_sh, hb_L_own, hb_T_sh, hb_T_own, ite_self, fls_ints, hass_ints, fls_im, hass_im, fls_rowL, fls_rowT, List.set_cons_zero, List.set_cons_succ, wipeE, setsE, tgE, ITg.ix, giveE, IE.vars, IEs.vars, reduceCtorEq, decide_false, decide_true, Bool.or_false, Bool.false_or, Bool.or_true, Bool.true_or, Bool.and_true, Bool.true_and, Bool.and_false, Bool.false_and, Bool.not_true, Bool.not_false, if_true, if_false, ite_true, ite_false, Bool.false_eq_true, ne_eq, not_false_eq_true, not_true_eq_false, List.cons_append, List.nil_append, List.append_nil, List.mem_cons, List.not_mem_nil, or_false, false_or, or_true, true_or, Nat.reduceEqDiff, Nat.reduceAdd, eq_self, and_self, and_true, true_and, Option.map_some, Option.map_none, List.getElem?_cons_zero, List.getElem?_cons_succ, isi_int_int, isi_int_bool]
theorem is_within_ok [Has P d_is_within] [Has P d_is_number] (i lo hi : Int) : callP P W noP (n + 2) "is_within" [.int i, .int lo, .int hi] = ret (.bl (decide (lo ≤ i) && decide (i ≤ hi))) := by
  rw [c_is_within]
  by_cases h : lo ≤ i
  · simp only [b_is_within, v_var, v_int, v_str, v_bl, v_non, v_bin, v_neg, v_not, v_bop, v_ife, v_cmp, v_cmp2, v_call, v_scall_s, v_meth, v_methk, v_attr, v_blt, v_isi, v_lst, v_tup, v_idx, v_sl, p_no, p_part, v_lc, v_lcif, v_lc2, i_seq, i_range1, i_range2, i_zip, i_enum, evs_nil, evs_cons, t_not, t_bop, t_ife, t_var, t_bl, t_cmp, t_cmp2, t_call, t_scall, t_meth, t_methk, t_attr, t_blt, t_isi, t_lc, t_idx, t_bin, bopT_and_t, bopT_and_f, bopT_or_t, bopT_or_f, bopM_and_t, bopM_and_f, bopM_or_t, bopM_or_f, tru_bl, tru_int, tru_lst, tru_tup, neg_int, part_int, add_int, sub_int, lt_int, le_int, gt_int, ge_int, eq_int, ne_int, eq_bl, ne_bl, cmpI_lt, cmpI_le, len_lst, len_tup, int_int, int_bl, list_lst, list_tup, tuple_lst, sum_ints, all_bls, any_bls, app_key, s_nil, s_cons, nx_nx, nx_rt, nx_bk, nx_ct, s_asg, s_unp, s_par, s_fld, s_app, s_bset, s_expr, s_ret, s_retN, s_ifs, s_for, s_while, s_pass, s_brk, s_cont, res_rt, res_nx, self_nx, ret_bnd, fail_bnd, bnd_assoc, seq_bnd, opt_s, opt_n, gV_0, gV_s, glo_c, fls_nil, fls_cons, hass_nil, hass_cons, fl_int, fl_bl, fl_str, fl_non, fl_bag, fl_lst, fl_tup, fl_ins, has_int, has_bl, has_str, has_non, has_bag, has_lst, has_tup, has_ins, fz_own, fz_sh, fz_brw, bw_own, bw_sh, bw_brw, ub_own, ub_sh, ub_brw, so_own, so_sh, so_brw, tt_own, tt_sh, tt_brw, keep_f, keeps_f, keep_t, keeps_t, attr_prop, attr_fld, meth_m, methk_m, mul_m, add_m, sub_m, eq_m, ne_m, tru_m, bool_m, fl_rowL, fl_rowT, has_rowL, has_rowT, fl_tabL, fl_tabT, has_tabLt, has_tabTt, hb_L_sh, hb_L_own, hb_T_sh, hb_T_own, ite_self, fls_ints, hass_ints, fls_im, hass_im, fls_rowL, fls_rowT, List.set_cons_zero, List.set_cons_succ, wipeE, setsE, tgE, ITg.ix, giveE, IE.vars, IEs.vars, reduceCtorEq, decide_false, decide_true, Bool.or_false, Bool.false_or, Bool.or_true, Bool.true_or, Bool.and_true, Bool.true_and, Bool.and_false, Bool.false_and, Bool.not_true, Bool.not_false, if_true, if_false, ite_true, ite_false, Bool.false_eq_true, ne_eq, not_false_eq_true, not_true_eq_false, List.cons_append, List.nil_append, List.append_nil, List.mem_cons, List.not_mem_nil, or_false, false_or, or_true, true_or, Nat.reduceEqDiff, Nat.reduceAdd, eq_self, and_self, and_true, true_and, Option.map_some, Option.map_none, List.getElem?_cons_zero, List.getElem?_cons_succ, is_number_ok, h]
  · simp only [b_is_within, v_var, v_int, v_str, v_bl, v_non, v_bin, v_neg, v_not, v_bop, v_ife, v_cmp, v_cmp2, v_call, v_scall_s, v_meth, v_methk, v_attr, v_blt, v_isi, v_lst, v_tup, v_idx, v_sl, p_no, p_part, v_lc, v_lcif, v_lc2, i_seq, i_range1, i_range2, i_zip, i_enum, evs_nil, evs_cons, t_not, t_bop, t_ife, t_var, t_bl, t_cmp, t_cmp2, t_call, t_scall, t_meth, t_methk, t_attr, t_blt, t_isi, t_lc, t_idx, t_bin, bopT_and_t, bopT_and_f, bopT_or_t, bopT_or_f, bopM_and_t, bopM_and_f, bopM_or_t, bopM_or_f, tru_bl, tru_int, tru_lst, tru_tup, neg_int, part_int, add_int, sub_int, lt_int, le_int, gt_int, ge_int, eq_int, ne_int, eq_bl, ne_bl, cmpI_lt, cmpI_le, len_lst, len_tup, int_int, int_bl, list_lst, list_tup, tuple_lst, sum_ints, all_bls, any_bls, app_key, s_nil, s_cons, nx_nx, nx_rt, nx_bk, nx_ct, s_asg, s_unp, s_par, s_fld, s_app, s_bset, s_expr, s_ret, s_retN, s_ifs, s_for, s_while, s_pass, s_brk, s_cont, res_rt, res_nx, self_nx, ret_bnd, fail_bnd, bnd_assoc, seq_bnd, opt_s, opt_n, gV_0, gV_s, glo_c, fls_nil, fls_cons, hass_nil, hass_cons, fl_int, fl_bl, fl_str, fl_non, fl_bag, fl_lst, fl_tup, fl_ins, has_int, has_bl, has_str, has_non, has_bag, has_lst, has_tup, has_ins, fz_own, fz_sh, fz_brw, bw_own, bw_sh, bw_brw, ub_own, ub_sh, ub_brw, so_own, so_sh, so_brw, tt_own, tt_sh, tt_brw, keep_f, keeps_f, keep_t, keeps_t, attr_prop, attr_fld, meth_m, methk_m, mul_m, add_m, sub_m, eq_m, ne_m, tru_m, bool_m, fl_rowL, fl_rowT, has_rowL, has_rowT, fl_tabL, fl_tabT, has_tabLt, has_tabTt, hb_L_sh, hb_L_own, hb_T_sh, hb_T_own, ite_self, fls_ints, hass_ints, fls_im, hass_im, fls_rowL, fls_rowT, List.set_cons_zero, List.set_cons_succ, wipeE, setsE, tgE, ITg.ix, giveE, IE.vars, IEs.vars, reduceCtorEq, decide_false, decide_true, Bool.or_false, Bool.false_or, Bool.or_true, Bool.true_or, Bool.and_true, Bool.true_and, Bool.and_false, Bool.false_and, Bool.not_true, Bool.not_false, if_true, if_false, ite_true, ite_false, Bool.false_eq_true, ne_eq, not_false_eq_true, not_true_eq_false, List.cons_append, List.nil_append, List.append_nil, List.mem_cons, List.not_mem_nil, or_false, false_or, or_true, true_or, Nat.reduceEqDiff, Nat.reduceAdd, eq_self, and_self, and_true, true_and, Option.map_some, Option.map_none, List.getElem?_cons_zero, List.getElem?_cons_succ, is_number_ok, h]
theorem is_list_lst [Has P d_is_list] (f : Fl) (xs : List D) : callP P W noP (n + 1) "is_list" [.lst f xs] = ret (.bl true) := by
  rw [c_is_list]
  simp only [b_is_list, v_var, v_int, v_str, v_bl, v_non, v_bin, v_neg, v_not, v_bop, v_ife, v_cmp, v_cmp2, v_call, v_scall_s, v_meth, v_methk, v_attr, v_blt, v_isi, v_lst, v_tup, v_idx, v_sl, p_no, p_part, v_lc, v_lcif, v_lc2, i_seq, i_range1, i_range2, i_zip, i_enum, evs_nil, evs_cons, t_not, t_bop, t_ife, t_var, t_bl, t_cmp, t_cmp2, t_call, t_scall, t_meth, t_methk, t_attr, t_blt, t_isi, t_lc, t_idx, t_bin, bopT_and_t, bopT_and_f, bopT_or_t, bopT_or_f, bopM_and_t, bopM_and_f, bopM_or_t, bopM_or_f, tru_bl, tru_int, tru_lst, tru_tup, neg_int, part_int, add_int, sub_int, lt_int, le_int, gt_int, ge_int, eq_int, ne_int, eq_bl, ne_bl, cmpI_lt, cmpI_le, len_lst, len_tup, int_int, int_bl, list_lst, list_tup, tuple_lst, sum_ints, all_bls, any_bls, app_key, s_nil, s_cons, nx_nx, nx_rt, nx_bk, nx_ct, s_asg, s_unp, s_par, s_fld, s_app, s_bset, s_expr, s_ret, s_retN, s_ifs, s_for, s_while, s_pass, s_brk, s_cont, res_rt, res_nx, self_nx, ret_bnd, fail_bnd, bnd_assoc, seq_bnd, opt_s, opt_n, gV_0, gV_s, glo_c, fls_nil, fls_cons, hass_nil, hass_cons, fl_int, fl_bl, fl_str, fl_non, fl_bag, fl_lst, fl_tup, fl_ins, has_int, has_bl, has_str, has_non, has_bag, has_lst, has_tup, has_ins, fz_own, fz_sh, fz_brw, bw_own, bw_sh, bw_brw, ub_own, ub_sh, ub_brw, so_own, so_sh, so_brw, tt_own, tt_sh, tt_brw, keep_f, keeps_f, keep_t, keeps_t, attr_prop, attr_fld, meth_m, methk_m, mul_m, add_m, sub_m, eq_m, ne_m, tru_m, bool_m, fl_rowL, fl_rowT, has_rowL, has_rowT, fl_tabL, fl_tabT, has_tabLt, has_tabTt, hb_L_sh, hb_L_own, hb_T_sh, hb_T_own, ite_self, fls_ints, hass_ints, fls_im, hass_im, fls_rowL, fls_rowT, List.set_cons_zero, List.set_cons_succ, wipeE, setsE, tgE, ITg.ix, giveE, IE.vars, IEs.vars, reduceCtorEq, decide_false, decide_true, Bool.or_false, Bool.false_or, Bool.or_true, Bool.true_or, Bool.and_true, Bool.true_and, Bool.and_false, Bool.false_and, Bool.not_true, Bool.not_false, if_true, if_false, ite_true, ite_false, Bool.false_eq_true, ne_eq, not_false_eq_true, not_true_eq_false, List.cons_append, List.nil_append, List.append_nil, List.mem_cons, List.not_mem_nil, or_false, false_or, or_true, true_or, Nat.reduceEqDiff, Nat.reduceAdd, eq_self, and_self, and_true, true_and, Option.map_some, Option.map_none, List.getElem?_cons_zero, List.getElem?_cons_succ, isi_lst_lt]
theorem is_list_tup [Has P d_is_list] (f : Fl) (xs : List D) : callP P W noP (n + 1) "is_list" [.tup f xs] = ret (.bl true) := by
  rw [c_is_list]
  simp only [b_is_list, v_var, v_int, v_str, v_bl, v_non, v_bin, v_neg, v_not, v_bop, v_ife, v_cmp, v_cmp2, v_call, v_scall_s, v_meth, v_methk, v_attr, v_blt, v_isi, v_lst, v_tup, v_idx, v_sl, p_no, p_part, v_lc, v_lcif, v_lc2, i_seq, i_range1, i_range2, i_zip, i_enum, evs_nil, evs_cons, t_not, t_bop, t_ife, t_var, t_bl, t_cmp, t_cmp2, t_call, t_scall, t_meth, t_methk, t_attr, t_blt, t_isi, t_lc, t_idx, t_bin, bopT_and_t, bopT_and_f, bopT_or_t, bopT_or_f, bopM_and_t, bopM_and_f, bopM_or_t, bopM_or_f, tru_bl, tru_int, tru_lst, tru_tup, neg_int, part_int, add_int, sub_int, lt_int, le_int, gt_int, ge_int, eq_int, ne_int, eq_bl, ne_bl, cmpI_lt, cmpI_le, len_lst, len_tup, int_int, int_bl, list_lst, list_tup, tuple_lst, sum_ints, all_bls, any_bls, app_key, s_nil, s_cons, nx_nx, nx_rt, nx_bk, nx_ct, s_asg, s_unp, s_par, s_fld, s_app, s_bset, s_expr, s_ret, s_retN, s_ifs, s_for, s_while, s_pass, s_brk, s_cont, res_rt, res_nx, self_nx, ret_bnd, fail_bnd, bnd_assoc, seq_bnd, opt_s, opt_n, gV_0, gV_s, glo_c, fls_nil, fls_cons, hass_nil, hass_cons, fl_int, fl_bl, fl_str, fl_non, fl_bag, fl_lst, fl_tup, fl_ins, has_int, has_bl, has_str, has_non, has_bag, has_lst, has_tup, has_ins, fz_own, fz_sh, fz_brw, bw_own, bw_sh, bw_brw, ub_own, ub_sh, ub_brw, so_own, so_sh, so_brw, tt_own, tt_sh, tt_brw, keep_f, keeps_f, keep_t, keeps_t, attr_prop, attr_fld, meth_m, methk_m, mul_m, add_m, sub_m, eq_m, ne_m, tru_m, bool_m, fl_rowL, fl_rowT, has_rowL, has_rowT, fl_tabL, fl_tabT, has_tabLt, has_tabTt, hb_L_sh, hb_L_own, hb_T_sh, hb_T_own, ite_self, fls_ints, hass_ints, fls_im, hass_im, fls_rowL, fls_rowT, List.set_cons_zero, List.set_cons_succ, wipeE, setsE, tgE, ITg.ix, giveE, IE.vars, IEs.vars, reduceCtorEq, decide_false, decide_true, Bool.or_false, Bool.false_or, Bool.or_true, Bool.true_or, Bool.and_true, Bool.true_and, Bool.and_false, Bool.false_and, Bool.not_true, Bool.not_false, if_true, if_false, ite_true, ite_false, Bool.false_eq_true, ne_eq, not_false_eq_true, not_true_eq_false, List.cons_append, List.nil_append, List.append_nil, List.mem_cons, List.not_mem_nil, or_false, false_or, or_true, true_or, Nat.reduceEqDiff, Nat.reduceAdd, eq_self, and_self, and_true, true_and, Option.map_some, Option.map_none, List.getElem?_cons_zero, List.getElem?_cons_succ, isi_tup_lt]
theorem is_list_tabL [Has P d_is_list] (f g : Fl) (t : List (List Int)) : callP P W noP (n + 1) "is_list" [tabL f g t] = ret (.bl true) := is_list_lst _ _
theorem is_list_rowL [Has P d_is_list] (f : Fl) (t : List Int) : callP P W noP (n + 1) "is_list" [rowL f t] = ret (.bl true) := is_list_lst _ _
theorem need_size_ok [Has P d_need_size] [Has P d_is_within] [Has P d_is_number] [HasC P "MOST_SIZE" (.int 4)] {N : Nat} (h1 : 1 ≤ N) (h4 : N ≤ 4) : callP P W noP (n + 3) "need_size" [.int (N : Int)] = ret .non := by
  rw [c_need_size]
  simp only [b_need_size, v_var, v_int, v_str, v_bl, v_non, v_bin, v_neg, v_not, v_bop, v_ife, v_cmp, v_cmp2, v_call, v_scall_s, v_meth, v_methk, v_attr, v_blt, v_isi, v_lst, v_tup, v_idx, v_sl, p_no, p_part, v_lc, v_lcif, v_lc2, i_seq, i_range1, i_range2, i_zip, i_enum, evs_nil, evs_cons, t_not, t_bop, t_ife, t_var, t_bl, t_cmp, t_cmp2, t_call, t_scall, t_meth, t_methk, t_attr, t_blt, t_isi, t_lc, t_idx, t_bin, bopT_and_t, bopT_and_f, bopT_or_t, bopT_or_f, bopM_and_t, bopM_and_f, bopM_or_t, bopM_or_f, tru_bl, tru_int, tru_lst, tru_tup, neg_int, part_int, add_int, sub_int, lt_int, le_int, gt_int, ge_int, eq_int, ne_int, eq_bl, ne_bl, cmpI_lt, cmpI_le, len_lst, len_tup, int_int, int_bl, list_lst, list_tup, tuple_lst, sum_ints, all_bls, any_bls, app_key, s_nil, s_cons, nx_nx, nx_rt, nx_bk, nx_ct, s_asg, s_unp, s_par, s_fld, s_app, s_bset, s_expr, s_ret, s_retN, s_ifs, s_for, s_while, s_pass, s_brk, s_cont, res_rt, res_nx, self_nx, ret_bnd, fail_bnd, bnd_assoc, seq_bnd, opt_s, opt_n, gV_0, gV_s, glo_c, fls_nil, fls_cons, hass_nil, hass_cons, fl_int, fl_bl, fl_str, fl_non, fl_bag, fl_lst, fl_tup, fl_ins, has_int, has_bl, has_str, has_non, has_bag, has_lst, has_tup, has_ins, fz_own, fz_sh, fz_brw, bw_own, bw_sh, bw_brw, ub_own, ub_sh, ub_brw, so_own, so_sh, so_brw, tt_own, tt_sh, tt_brw, keep_f, keeps_f, keep_t, keeps_t, attr_prop, attr_fld, meth_m, methk_m, mul_m, add_m, sub_m, eq_m, ne_m, tru_m, bool_m, fl_rowL, fl_rowT, has_rowL, has_rowT, fl_tabL, fl_tabT, has_tabLt, has_tabTt, hb_L_sh, hb_L_own, hb_T_sh, hb_T_own, ite_self, fls_ints, hass_ints, fls_im, hass_im, fls_rowL, fls_rowT, List.set_cons_zero, List.set_cons_succ, wipeE, setsE, tgE, ITg.ix, giveE, IE.vars, IEs.vars, reduceCtorEq, decide_false, decide_true, Bool.or_false, Bool.false_or, Bool.or_true, Bool.true_or, Bool.and_true, Bool.true_and, Bool.and_false, Bool.false_and, Bool.not_true, Bool.not_false, if_true, if_false, ite_true, ite_false, Bool.false_eq_true, ne_eq, not_false_eq_true, not_true_eq_false, List.cons_append, List.nil_append, List.append_nil, List.mem_cons, List.not_mem_nil, or_false, false_or, or_true, true_or, Nat.reduceEqDiff, Nat.reduceAdd, eq_self, and_self, and_true, true_and, Option.map_some, Option.map_none, List.getElem?_cons_zero, List.getElem?_cons_succ, is_within_ok, show (1 : Int) ≤ (N : Int) by omega, show (N : Int) ≤ 4 by omega]
theorem is_rows_ok [Has P d_is_rows] [Has P d_is_list] [HasC P "MOST_SIZE" (.int 4)] {N : Nat} {e : Ta} (h1 : 1 ≤ N) (h4 : N ≤ 4) : callP P W noP (n + 2) "is_rows" [tabL .sh .sh (tab N e)] = ret (.bl true) := by
  have hs : sizeLine = 2 ^ 24 := rfl
  rw [c_is_rows]
  simp only [b_is_rows, v_var, v_int, v_str, v_bl, v_non, v_bin, v_neg, v_not, v_bop, v_ife, v_cmp, v_cmp2, v_call, v_scall_s, v_meth, v_methk, v_attr, v_blt, v_isi, v_lst, v_tup, v_idx, v_sl, p_no, p_part, v_lc, v_lcif, v_lc2, i_seq, i_range1, i_range2, i_zip, i_enum, evs_nil, evs_cons, t_not, t_bop, t_ife, t_var, t_bl, t_cmp, t_cmp2, t_call, t_scall, t_meth, t_methk, t_attr, t_blt, t_isi, t_lc, t_idx, t_bin, bopT_and_t, bopT_and_f, bopT_or_t, bopT_or_f, bopM_and_t, bopM_and_f, bopM_or_t, bopM_or_f, tru_bl, tru_int, tru_lst, tru_tup, neg_int, part_int, add_int, sub_int, lt_int, le_int, gt_int, ge_int, eq_int, ne_int, eq_bl, ne_bl, cmpI_lt, cmpI_le, len_lst, len_tup, int_int, int_bl, list_lst, list_tup, tuple_lst, sum_ints, all_bls, any_bls, app_key, s_nil, s_cons, nx_nx, nx_rt, nx_bk, nx_ct, s_asg, s_unp, s_par, s_fld, s_app, s_bset, s_expr, s_ret, s_retN, s_ifs, s_for, s_while, s_pass, s_brk, s_cont, res_rt, res_nx, self_nx, ret_bnd, fail_bnd, bnd_assoc, seq_bnd, opt_s, opt_n, gV_0, gV_s, glo_c, fls_nil, fls_cons, hass_nil, hass_cons, fl_int, fl_bl, fl_str, fl_non, fl_bag, fl_lst, fl_tup, fl_ins, has_int, has_bl, has_str, has_non, has_bag, has_lst, has_tup, has_ins, fz_own, fz_sh, fz_brw, bw_own, bw_sh, bw_brw, ub_own, ub_sh, ub_brw, so_own, so_sh, so_brw, tt_own, tt_sh, tt_brw, keep_f, keeps_f, keep_t, keeps_t, attr_prop, attr_fld, meth_m, methk_m, mul_m, add_m, sub_m, eq_m, ne_m, tru_m, bool_m, fl_rowL, fl_rowT, has_rowL, has_rowT, fl_tabL, fl_tabT, has_tabLt, has_tabTt, hb_L_sh, hb_L_own, hb_T_sh, hb_T_own, ite_self, fls_ints, hass_ints, fls_im, hass_im, fls_rowL, fls_rowT, List.set_cons_zero, List.set_cons_succ, wipeE, setsE, tgE, ITg.ix, giveE, IE.vars, IEs.vars, reduceCtorEq, decide_false, decide_true, Bool.or_false, Bool.false_or, Bool.or_true, Bool.true_or, Bool.and_true, Bool.true_and, Bool.and_false, Bool.false_and, Bool.not_true, Bool.not_false, if_true, if_false, ite_true, ite_false, Bool.false_eq_true, ne_eq, not_false_eq_true, not_true_eq_false, List.cons_append, List.nil_append, List.append_nil, List.mem_cons, List.not_mem_nil, or_false, false_or, or_true, true_or, Nat.reduceEqDiff, Nat.reduceAdd, eq_self, and_self, and_true, true_and, Option.map_some, Option.map_none, List.getElem?_cons_zero, List.getElem?_cons_succ, is_list_tabL, len_tabL, show (1 : Int) ≤ (N : Int) by omega, show (N : Int) ≤ 4 by omega, enum_tabL]
  refine bnd_lcr (fun r => .bl true) (by omega) (fun r hr => ?_) (by simp only [all_t, v_var, v_int, v_str, v_bl, v_non, v_bin, v_neg, v_not, v_bop, v_ife, v_cmp, v_cmp2, v_call, v_scall_s, v_meth, v_methk, v_attr, v_blt, v_isi, v_lst, v_tup, v_idx, v_sl, p_no, p_part, v_lc, v_lcif, v_lc2, i_seq, i_range1, i_range2, i_zip, i_enum, evs_nil, evs_cons, t_not, t_bop, t_ife, t_var, t_bl, t_cmp, t_cmp2, t_call, t_scall, t_meth, t_methk, t_attr, t_blt, t_isi, t_lc, t_idx, t_bin, bopT_and_t, bopT_and_f, bopT_or_t, bopT_or_f, bopM_and_t, bopM_and_f, bopM_or_t, bopM_or_f, tru_bl, tru_int, tru_lst, tru_tup, neg_int, part_int, add_int, sub_int, lt_int, le_int, gt_int, ge_int, eq_int, ne_int, eq_bl, ne_bl, cmpI_lt, cmpI_le, len_lst, len_tup, int_int, int_bl, list_lst, list_tup, tuple_lst, sum_ints, all_bls, any_bls, app_key, s_nil, s_cons, nx_nx, nx_rt, nx_bk, nx_ct, s_asg, s_unp, s_par, s_fld, s_app, s_bset, s_expr, s_ret, s_retN, s_ifs, s_for, s_while, s_pass, s_brk, s_cont, res_rt, res_nx, self_nx, ret_bnd, fail_bnd, bnd_assoc, seq_bnd, opt_s, opt_n, gV_0, gV_s, glo_c, fls_nil, fls_cons, hass_nil, hass_cons, fl_int, fl_bl, fl_str, fl_non, fl_bag, fl_lst, fl_tup, fl_ins, has_int, has_bl, has_str, has_non, has_bag, has_lst, has_tup, has_ins, fz_own, fz_sh, fz_brw, bw_own, bw_sh, bw_brw, ub_own, ub_sh, ub_brw, so_own, so_sh, so_brw, tt_own, tt_sh, tt_brw, keep_f, keeps_f, keep_t, keeps_t, attr_prop, attr_fld, meth_m, methk_m, mul_m, add_m, sub_m, eq_m, ne_m, tru_m, bool_m, fl_rowL, fl_rowT, has_rowL, has_rowT, fl_tabL, fl_tabT, has_tabLt, has_tabTt, hb_L_sh, hb_L_own, hb_T_sh, hb_T_own, ite_self, fls_ints, hass_ints, fls_im, hass_im, fls_rowL, fls_rowT, List.set_cons_zero, List.set_cons_succ, wipeE, setsE, tgE, ITg.ix, giveE, IE.vars, IEs.vars, reduceCtorEq, decide_false, decide_true, Bool.or_false, Bool.false_or, Bool.or_true, Bool.true_or, Bool.and_true, Bool.true_and, Bool.and_false, Bool.false_and, Bool.not_true, Bool.not_false, if_true, if_false, ite_true, ite_false, Bool.false_eq_true, ne_eq, not_false_eq_true, not_true_eq_false, List.cons_append, List.nil_append, List.append_nil, List.mem_cons, List.not_mem_nil, or_false, false_or, or_true, true_or, Nat.reduceEqDiff, Nat.reduceAdd, eq_self, and_self, and_true, true_and, Option.map_some, Option.map_none, List.getElem?_cons_zero, List.getElem?_cons_succ])
  simp only [pairD, v_var, v_int, v_str, v_bl, v_non, v_bin, v_neg, v_not, v_bop, v_ife, v_cmp, v_cmp2, v_call, v_scall_s, v_meth, v_methk, v_attr, v_blt, v_isi, v_lst, v_tup, v_idx, v_sl, p_no, p_part, v_lc, v_lcif, v_lc2, i_seq, i_range1, i_range2, i_zip, i_enum, evs_nil, evs_cons, t_not, t_bop, t_ife, t_var, t_bl, t_cmp, t_cmp2, t_call, t_scall, t_meth, t_methk, t_attr, t_blt, t_isi, t_lc, t_idx, t_bin, bopT_and_t, bopT_and_f, bopT_or_t, bopT_or_f, bopM_and_t, bopM_and_f, bopM_or_t, bopM_or_f, tru_bl, tru_int, tru_lst, tru_tup, neg_int, part_int, add_int, sub_int, lt_int, le_int, gt_int, ge_int, eq_int, ne_int, eq_bl, ne_bl, cmpI_lt, cmpI_le, len_lst, len_tup, int_int, int_bl, list_lst, list_tup, tuple_lst, sum_ints, all_bls, any_bls, app_key, s_nil, s_cons, nx_nx, nx_rt, nx_bk, nx_ct, s_asg, s_unp, s_par, s_fld, s_app, s_bset, s_expr, s_ret, s_retN, s_ifs, s_for, s_while, s_pass, s_brk, s_cont, res_rt, res_nx, self_nx, ret_bnd, fail_bnd, bnd_assoc, seq_bnd, opt_s, opt_n, gV_0, gV_s, glo_c, fls_nil, fls_cons, hass_nil, hass_cons, fl_int, fl_bl, fl_str, fl_non, fl_bag, fl_lst, fl_tup, fl_ins, has_int, has_bl, has_str, has_non, has_bag, has_lst, has_tup, has_ins, fz_own, fz_sh, fz_brw, bw_own, bw_sh, bw_brw, ub_own, ub_sh, ub_brw, so_own, so_sh, so_brw, tt_own, tt_sh, tt_brw, keep_f, keeps_f, keep_t, keeps_t, attr_prop, attr_fld, meth_m, methk_m, mul_m, add_m, sub_m, eq_m, ne_m, tru_m, bool_m, fl_rowL, fl_rowT, has_rowL, has_rowT, fl_tabL, fl_tabT, has_tabLt, has_tabTt, hb_L_sh, hb_L_own, hb_T_sh, hb_T_own, ite_self, fls_ints, hass_ints, fls_im, hass_im, fls_rowL, fls_rowT, List.set_cons_zero, List.set_cons_succ, wipeE, setsE, tgE, ITg.ix, giveE, IE.vars, IEs.vars, reduceCtorEq, decide_false, decide_true, Bool.or_false, Bool.false_or, Bool.or_true, Bool.true_or, Bool.and_true, Bool.true_and, Bool.and_false, Bool.false_and, Bool.not_true, Bool.not_false, if_true, if_false, ite_true, ite_false, Bool.false_eq_true, ne_eq, not_false_eq_true, not_true_eq_false, List.cons_append, List.nil_append, List.append_nil, List.mem_cons, List.not_mem_nil, or_false, false_or, or_true, true_or, Nat.reduceEqDiff, Nat.reduceAdd, eq_self, and_self, and_true, true_and, Option.map_some, Option.map_none, List.getElem?_cons_zero, List.getElem?_cons_succ, is_list_rowL, len_rowL, cast1]
/-- a deed -/
def deedD (f : Fl) (N : Nat) (e : Ta) : D := .ins f "Deed" ["table"] [tabT f f (tab N e)]
theorem fl_deed (g : Fl → Fl) (f : Fl) (N : Nat) (e : Ta) : (deedD f N e).fl g = deedD (g f) N e := by
  unfold deedD
  rw [fl_ins, fls_cons, fls_nil, fl_tabT]
theorem hb_deed_own (N : Nat) (e : Ta) : (deedD .own N e).has .brw = false := by
  unfold deedD
  rw [has_ins, hass_cons, hass_nil, hb_T_own]; rfl
theorem hb_deed_sh (N : Nat) (e : Ta) : (deedD .sh N e).has .brw = false := by
  unfold deedD
  rw [has_ins, hass_cons, hass_nil, hb_T_sh]; rfl
theorem hb_deed_brw (N : Nat) (e : Ta) : (deedD .brw N e).has .brw = true := by
  unfold deedD
  rw [has_ins]; rfl
theorem bnd_lc2 {ι κ α : Type} {env : Env} {tg tg2 : ITg} {it2 elt : IE} {xs : List ι} {h : ι → D} {K : D → M α} {R : M α} (ys : ι → List κ) (h2 g : ι → κ → D) (hl : (xs.flatMap fun x => (ys x).map (g x)).length ≤ sizeLine)
    (H : ∀ x ∈ xs, ∃ env', tgE tg (h x).so (wipeE env (tg.ix ++ tg2.ix)) = some env' ∧ (evA P cl it2).i env' = ret ((ys x).map (h2 x)) ∧
      ∀ y ∈ ys x, bnd (opt (tgE tg2 (h2 x y).so (wipeE env' tg2.ix))) (fun env2 => (evA P cl elt).v env2) = ret (g x y)) (hK : K (.lst .own (xs.flatMap fun x => (ys x).map (g x))) = R) : bnd (lc2M P cl env tg tg2 it2 elt (xs.map h)) K = R := by
  rw [lc2_map hl H, ret_bnd, hK]
theorem flatMap_len {ι κ : Type} (xs : List ι) (f : ι → List κ) (B : Nat) (h : ∀ x ∈ xs, (f x).length ≤ B) : (xs.flatMap f).length ≤ xs.length * B := by
  induction xs with
  | nil => simp
  | cons x xs ih =>
    rw [List.flatMap_cons, List.length_append, List.length_cons, Nat.succ_mul]
    have h1 := h x List.mem_cons_self
    have h2 := ih fun y hy => h y (List.mem_cons_of_mem _ hy)
    omega
theorem flatMap_bl {ι κ : Type} (xs : List ι) (ys : ι → List κ) (p : ι → κ → Bool) : (xs.flatMap fun x => (ys x).map fun y => D.bl (p x y)) = (xs.flatMap fun x => (ys x).map (p x)).map D.bl := by
  rw [List.map_flatMap]
  congr 1
  funext x
  rw [List.map_map]; rfl
theorem deed_new [Has P d_Deed] [Has P d_is_rows] [Has P d_is_list] [Has P d_is_number] [HasC P "MOST_SIZE" (.int 4)] [HasA P "Deed" "table" .fld] {N : Nat} {e : Ta} (h1 : 1 ≤ N) (h4 : N ≤ 4) :
    callP P W noP (n + 3) "Deed" [tabL .sh .sh (tab N e)] = ret (deedD .own N e) := by
  have hs : sizeLine = 2 ^ 24 := rfl
  rw [c_Deed]
  simp only [b_Deed, v_var, v_int, v_str, v_bl, v_non, v_bin, v_neg, v_not, v_bop, v_ife, v_cmp, v_cmp2, v_call, v_scall_s, v_meth, v_methk, v_attr, v_blt, v_isi, v_lst, v_tup, v_idx, v_sl, p_no, p_part, v_lc, v_lcif, v_lc2, i_seq, i_range1, i_range2, i_zip, i_enum, evs_nil, evs_cons, t_not, t_bop, t_ife, t_var, t_bl, t_cmp, t_cmp2, t_call, t_scall, t_meth, t_methk, t_attr, t_blt, t_isi, t_lc, t_idx, t_bin, bopT_and_t, bopT_and_f, bopT_or_t, bopT_or_f, bopM_and_t, bopM_and_f, bopM_or_t, bopM_or_f, tru_bl, tru_int, tru_lst, tru_tup, neg_int, part_int, add_int, sub_int, lt_int, le_int, gt_int, ge_int, eq_int, ne_int, eq_bl, ne_bl, cmpI_lt, cmpI_le, len_lst, len_tup, int_int, int_bl, list_lst, list_tup, tuple_lst, sum_ints, all_bls, any_bls, app_key, s_nil, s_cons, nx_nx, nx_rt, nx_bk, nx_ct, s_asg, s_unp, s_par, s_fld, s_app, s_bset, s_expr, s_ret, s_retN, s_ifs, s_for, s_while, s_pass, s_brk, s_cont, res_rt, res_nx, self_nx, ret_bnd, fail_bnd, bnd_assoc, seq_bnd, opt_s, opt_n, gV_0, gV_s, glo_c, fls_nil, fls_cons, hass_nil, hass_cons, fl_int, fl_bl, fl_str, fl_non, fl_bag, fl_lst, fl_tup, fl_ins, has_int, has_bl, has_str, has_non, has_bag, has_lst, has_tup, has_ins, fz_own, fz_sh, fz_brw, bw_own, bw_sh, bw_brw, ub_own, ub_sh, ub_brw, so_own, so_sh, so_brw, tt_own, tt_sh, tt_brw, keep_f, keeps_f, keep_t, keeps_t, attr_prop, attr_fld, meth_m, methk_m, mul_m, add_m, sub_m, eq_m, ne_m, tru_m, bool_m, fl_rowL, fl_rowT, has_rowL, has_rowT, fl_tabL, fl_tabT, has_tabLt, has_tabTt, hb_L_sh, hb_L_own, hb_T_sh, hb_T_own, ite_self, fls_ints, hass_ints, fls_im, hass_im, fls_rowL, fls_rowT, List.set_cons_zero, List.set_cons_succ, wipeE, setsE, tgE, ITg.ix, giveE, IE.vars, IEs.vars, reduceCtorEq, decide_false, decide_true, Bool.or_false, Bool.false_or, Bool.or_true, Bool.true_or, Bool.and_true, Bool.true_and, Bool.and_false, Bool.false_and, Bool.not_true, Bool.not_false, if_true, if_false, ite_true, ite_false, Bool.false_eq_true, ne_eq, not_false_eq_true, not_true_eq_false, List.cons_append, List.nil_append, List.append_nil, List.mem_cons, List.not_mem_nil, or_false, false_or, or_true, true_or, Nat.reduceEqDiff, Nat.reduceAdd, eq_self, and_self, and_true, true_and, Option.map_some, Option.map_none, List.getElem?_cons_zero, List.getElem?_cons_succ, is_rows_ok h1 h4, items_tabL]
  refine bnd_lc2 (fun r => List.range (r + 1)) (fun r c => .int (e r c)) (fun _ _ => .bl true) ?_ (fun r hr => ?_) ?_
  · refine Nat.le_trans (flatMap_len _ _ 4 fun r hr => ?_) (by simp; omega)
    have := List.mem_range.mp hr
    simp; omega
  · refine ⟨_, rfl, ?_, fun c hc => ?_⟩
    · simp only [v_var, v_int, v_str, v_bl, v_non, v_bin, v_neg, v_not, v_bop, v_ife, v_cmp, v_cmp2, v_call, v_scall_s, v_meth, v_methk, v_attr, v_blt, v_isi, v_lst, v_tup, v_idx, v_sl, p_no, p_part, v_lc, v_lcif, v_lc2, i_seq, i_range1, i_range2, i_zip, i_enum, evs_nil, evs_cons, t_not, t_bop, t_ife, t_var, t_bl, t_cmp, t_cmp2, t_call, t_scall, t_meth, t_methk, t_attr, t_blt, t_isi, t_lc, t_idx, t_bin, bopT_and_t, bopT_and_f, bopT_or_t, bopT_or_f, bopM_and_t, bopM_and_f, bopM_or_t, bopM_or_f, tru_bl, tru_int, tru_lst, tru_tup, neg_int, part_int, add_int, sub_int, lt_int, le_int, gt_int, ge_int, eq_int, ne_int, eq_bl, ne_bl, cmpI_lt, cmpI_le, len_lst, len_tup, int_int, int_bl, list_lst, list_tup, tuple_lst, sum_ints, all_bls, any_bls, app_key, s_nil, s_cons, nx_nx, nx_rt, nx_bk, nx_ct, s_asg, s_unp, s_par, s_fld, s_app, s_bset, s_expr, s_ret, s_retN, s_ifs, s_for, s_while, s_pass, s_brk, s_cont, res_rt, res_nx, self_nx, ret_bnd, fail_bnd, bnd_assoc, seq_bnd, opt_s, opt_n, gV_0, gV_s, glo_c, fls_nil, fls_cons, hass_nil, hass_cons, fl_int, fl_bl, fl_str, fl_non, fl_bag, fl_lst, fl_tup, fl_ins, has_int, has_bl, has_str, has_non, has_bag, has_lst, has_tup, has_ins, fz_own, fz_sh, fz_brw, bw_own, bw_sh, bw_brw, ub_own, ub_sh, ub_brw, so_own, so_sh, so_brw, tt_own, tt_sh, tt_brw, keep_f, keeps_f, keep_t, keeps_t, attr_prop, attr_fld, meth_m, methk_m, mul_m, add_m, sub_m, eq_m, ne_m, tru_m, bool_m, fl_rowL, fl_rowT, has_rowL, has_rowT, fl_tabL, fl_tabT, has_tabLt, has_tabTt, hb_L_sh, hb_L_own, hb_T_sh, hb_T_own, ite_self, fls_ints, hass_ints, fls_im, hass_im, fls_rowL, fls_rowT, List.set_cons_zero, List.set_cons_succ, wipeE, setsE, tgE, ITg.ix, giveE, IE.vars, IEs.vars, reduceCtorEq, decide_false, decide_true, Bool.or_false, Bool.false_or, Bool.or_true, Bool.true_or, Bool.and_true, Bool.true_and, Bool.and_false, Bool.false_and, Bool.not_true, Bool.not_false, if_true, if_false, ite_true, ite_false, Bool.false_eq_true, ne_eq, not_false_eq_true, not_true_eq_false, List.cons_append, List.nil_append, List.append_nil, List.mem_cons, List.not_mem_nil, or_false, false_or, or_true, true_or, Nat.reduceEqDiff, Nat.reduceAdd, eq_self, and_self, and_true, true_and, Option.map_some, Option.map_none, List.getElem?_cons_zero, List.getElem?_cons_succ, items_rowL]
    · simp only [v_var, v_int, v_str, v_bl, v_non, v_bin, v_neg, v_not, v_bop, v_ife, v_cmp, v_cmp2, v_call, v_scall_s, v_meth, v_methk, v_attr, v_blt, v_isi, v_lst, v_tup, v_idx, v_sl, p_no, p_part, v_lc, v_lcif, v_lc2, i_seq, i_range1, i_range2, i_zip, i_enum, evs_nil, evs_cons, t_not, t_bop, t_ife, t_var, t_bl, t_cmp, t_cmp2, t_call, t_scall, t_meth, t_methk, t_attr, t_blt, t_isi, t_lc, t_idx, t_bin, bopT_and_t, bopT_and_f, bopT_or_t, bopT_or_f, bopM_and_t, bopM_and_f, bopM_or_t, bopM_or_f, tru_bl, tru_int, tru_lst, tru_tup, neg_int, part_int, add_int, sub_int, lt_int, le_int, gt_int, ge_int, eq_int, ne_int, eq_bl, ne_bl, cmpI_lt, cmpI_le, len_lst, len_tup, int_int, int_bl, list_lst, list_tup, tuple_lst, sum_ints, all_bls, any_bls, app_key, s_nil, s_cons, nx_nx, nx_rt, nx_bk, nx_ct, s_asg, s_unp, s_par, s_fld, s_app, s_bset, s_expr, s_ret, s_retN, s_ifs, s_for, s_while, s_pass, s_brk, s_cont, res_rt, res_nx, self_nx, ret_bnd, fail_bnd, bnd_assoc, seq_bnd, opt_s, opt_n, gV_0, gV_s, glo_c, fls_nil, fls_cons, hass_nil, hass_cons, fl_int, fl_bl, fl_str, fl_non, fl_bag, fl_lst, fl_tup, fl_ins, has_int, has_bl, has_str, has_non, has_bag, has_lst, has_tup, has_ins, fz_own, fz_sh, fz_brw, bw_own, bw_sh, bw_brw, ub_own, ub_sh, ub_brw, so_own, so_sh, so_brw, tt_own, tt_sh, tt_brw, keep_f, keeps_f, keep_t, keeps_t, attr_prop, attr_fld, meth_m, methk_m, mul_m, add_m, sub_m, eq_m, ne_m, tru_m, bool_m, fl_rowL, fl_rowT, has_rowL, has_rowT, fl_tabL, fl_tabT, has_tabLt, has_tabTt, hb_L_sh, hb_L_own, hb_T_sh, hb_T_own, ite_self, fls_ints, hass_ints, fls_im, hass_im, fls_rowL, fls_rowT, List.set_cons_zero, List.set_cons_succ, wipeE, setsE, tgE, ITg.ix, giveE, IE.vars, IEs.vars, reduceCtorEq, decide_false, decide_true, Bool.or_false, Bool.false_or, Bool.or_true, Bool.true_or, Bool.and_true, Bool.true_and, Bool.and_false, Bool.false_and, Bool.not_true, Bool.not_false, if_true, if_false, ite_true, ite_false, Bool.false_eq_true, ne_eq, not_false_eq_true, not_true_eq_false, List.cons_append, List.nil_append, List.append_nil, List.mem_cons, List.not_mem_nil, or_false, false_or, or_true, true_or, Nat.reduceEqDiff, Nat.reduceAdd, eq_self, and_self, and_true, true_and, Option.map_some, Option.map_none, List.getElem?_cons_zero, List.getElem?_cons_succ, is_number_ok]
  · rw [flatMap_bl]
    have hall : (((List.range N).flatMap fun x => (List.range (x + 1)).map fun _ => true).all id) = true := by simp
    simp only [all_bls, hall, v_var, v_int, v_str, v_bl, v_non, v_bin, v_neg, v_not, v_bop, v_ife, v_cmp, v_cmp2, v_call, v_scall_s, v_meth, v_methk, v_attr, v_blt, v_isi, v_lst, v_tup, v_idx, v_sl, p_no, p_part, v_lc, v_lcif, v_lc2, i_seq, i_range1, i_range2, i_zip, i_enum, evs_nil, evs_cons, t_not, t_bop, t_ife, t_var, t_bl, t_cmp, t_cmp2, t_call, t_scall, t_meth, t_methk, t_attr, t_blt, t_isi, t_lc, t_idx, t_bin, bopT_and_t, bopT_and_f, bopT_or_t, bopT_or_f, bopM_and_t, bopM_and_f, bopM_or_t, bopM_or_f, tru_bl, tru_int, tru_lst, tru_tup, neg_int, part_int, add_int, sub_int, lt_int, le_int, gt_int, ge_int, eq_int, ne_int, eq_bl, ne_bl, cmpI_lt, cmpI_le, len_lst, len_tup, int_int, int_bl, list_lst, list_tup, tuple_lst, sum_ints, all_bls, any_bls, app_key, s_nil, s_cons, nx_nx, nx_rt, nx_bk, nx_ct, s_asg, s_unp, s_par, s_fld, s_app, s_bset, s_expr, s_ret, s_retN, s_ifs, s_for, s_while, s_pass, s_brk, s_cont, res_rt, res_nx, self_nx, ret_bnd, fail_bnd, bnd_assoc, seq_bnd, opt_s, opt_n, gV_0, gV_s, glo_c, fls_nil, fls_cons, hass_nil, hass_cons, fl_int, fl_bl, fl_str, fl_non, fl_bag, fl_lst, fl_tup, fl_ins, has_int, has_bl, has_str, has_non, has_bag, has_lst, has_tup, has_ins, fz_own, fz_sh, fz_brw, bw_own, bw_sh, bw_brw, ub_own, ub_sh, ub_brw, so_own, so_sh, so_brw, tt_own, tt_sh, tt_brw, keep_f, keeps_f, keep_t, keeps_t, attr_prop, attr_fld, meth_m, methk_m, mul_m, add_m, sub_m, eq_m, ne_m, tru_m, bool_m, fl_rowL, fl_rowT, has_rowL, has_rowT, fl_tabL, fl_tabT, has_tabLt, has_tabTt, hb_L_sh, hb_L_own, hb_T_sh, hb_T_own, ite_self, fls_ints, hass_ints, fls_im, hass_im, fls_rowL, fls_rowT, List.set_cons_zero, List.set_cons_succ, wipeE, setsE, tgE, ITg.ix, giveE, IE.vars, IEs.vars, reduceCtorEq, decide_false, decide_true, Bool.or_false, Bool.false_or, Bool.or_true, Bool.true_or, Bool.and_true, Bool.true_and, Bool.and_false, Bool.false_and, Bool.not_true, Bool.not_false, if_true, if_false, ite_true, ite_false, Bool.false_eq_true, ne_eq, not_false_eq_true, not_true_eq_false, List.cons_append, List.nil_append, List.append_nil, List.mem_cons, List.not_mem_nil, or_false, false_or, or_true, true_or, Nat.reduceEqDiff, Nat.reduceAdd, eq_self, and_self, and_true, true_and, Option.map_some, Option.map_none, List.getElem?_cons_zero, List.getElem?_cons_succ, items_tabL]
    refine bnd_lcr (fun r => rowT .own ((List.range (r + 1)).map (e r))) (by omega) (fun r hr => ?_) ?_
    · simp only [v_var, v_int, v_str, v_bl, v_non, v_bin, v_neg, v_not, v_bop, v_ife, v_cmp, v_cmp2, v_call, v_scall_s, v_meth, v_methk, v_attr, v_blt, v_isi, v_lst, v_tup, v_idx, v_sl, p_no, p_part, v_lc, v_lcif, v_lc2, i_seq, i_range1, i_range2, i_zip, i_enum, evs_nil, evs_cons, t_not, t_bop, t_ife, t_var, t_bl, t_cmp, t_cmp2, t_call, t_scall, t_meth, t_methk, t_attr, t_blt, t_isi, t_lc, t_idx, t_bin, bopT_and_t, bopT_and_f, bopT_or_t, bopT_or_f, bopM_and_t, bopM_and_f, bopM_or_t, bopM_or_f, tru_bl, tru_int, tru_lst, tru_tup, neg_int, part_int, add_int, sub_int, lt_int, le_int, gt_int, ge_int, eq_int, ne_int, eq_bl, ne_bl, cmpI_lt, cmpI_le, len_lst, len_tup, int_int, int_bl, list_lst, list_tup, tuple_lst, sum_ints, all_bls, any_bls, app_key, s_nil, s_cons, nx_nx, nx_rt, nx_bk, nx_ct, s_asg, s_unp, s_par, s_fld, s_app, s_bset, s_expr, s_ret, s_retN, s_ifs, s_for, s_while, s_pass, s_brk, s_cont, res_rt, res_nx, self_nx, ret_bnd, fail_bnd, bnd_assoc, seq_bnd, opt_s, opt_n, gV_0, gV_s, glo_c, fls_nil, fls_cons, hass_nil, hass_cons, fl_int, fl_bl, fl_str, fl_non, fl_bag, fl_lst, fl_tup, fl_ins, has_int, has_bl, has_str, has_non, has_bag, has_lst, has_tup, has_ins, fz_own, fz_sh, fz_brw, bw_own, bw_sh, bw_brw, ub_own, ub_sh, ub_brw, so_own, so_sh, so_brw, tt_own, tt_sh, tt_brw, keep_f, keeps_f, keep_t, keeps_t, attr_prop, attr_fld, meth_m, methk_m, mul_m, add_m, sub_m, eq_m, ne_m, tru_m, bool_m, fl_rowL, fl_rowT, has_rowL, has_rowT, fl_tabL, fl_tabT, has_tabLt, has_tabTt, hb_L_sh, hb_L_own, hb_T_sh, hb_T_own, ite_self, fls_ints, hass_ints, fls_im, hass_im, fls_rowL, fls_rowT, List.set_cons_zero, List.set_cons_succ, wipeE, setsE, tgE, ITg.ix, giveE, IE.vars, IEs.vars, reduceCtorEq, decide_false, decide_true, Bool.or_false, Bool.false_or, Bool.or_true, Bool.true_or, Bool.and_true, Bool.true_and, Bool.and_false, Bool.false_and, Bool.not_true, Bool.not_false, if_true, if_false, ite_true, ite_false, Bool.false_eq_true, ne_eq, not_false_eq_true, not_true_eq_false, List.cons_append, List.nil_append, List.append_nil, List.mem_cons, List.not_mem_nil, or_false, false_or, or_true, true_or, Nat.reduceEqDiff, Nat.reduceAdd, eq_self, and_self, and_true, true_and, Option.map_some, Option.map_none, List.getElem?_cons_zero, List.getElem?_cons_succ, rowL_def, tuple_lst, rowT_def]
    · simp only [v_var, v_int, v_str, v_bl, v_non, v_bin, v_neg, v_not, v_bop, v_ife, v_cmp, v_cmp2, v_call, v_scall_s, v_meth, v_methk, v_attr, v_blt, v_isi, v_lst, v_tup, v_idx, v_sl, p_no, p_part, v_lc, v_lcif, v_lc2, i_seq, i_range1, i_range2, i_zip, i_enum, evs_nil, evs_cons, t_not, t_bop, t_ife, t_var, t_bl, t_cmp, t_cmp2, t_call, t_scall, t_meth, t_methk, t_attr, t_blt, t_isi, t_lc, t_idx, t_bin, bopT_and_t, bopT_and_f, bopT_or_t, bopT_or_f, bopM_and_t, bopM_and_f, bopM_or_t, bopM_or_f, tru_bl, tru_int, tru_lst, tru_tup, neg_int, part_int, add_int, sub_int, lt_int, le_int, gt_int, ge_int, eq_int, ne_int, eq_bl, ne_bl, cmpI_lt, cmpI_le, len_lst, len_tup, int_int, int_bl, list_lst, list_tup, tuple_lst, sum_ints, all_bls, any_bls, app_key, s_nil, s_cons, nx_nx, nx_rt, nx_bk, nx_ct, s_asg, s_unp, s_par, s_fld, s_app, s_bset, s_expr, s_ret, s_retN, s_ifs, s_for, s_while, s_pass, s_brk, s_cont, res_rt, res_nx, self_nx, ret_bnd, fail_bnd, bnd_assoc, seq_bnd, opt_s, opt_n, gV_0, gV_s, glo_c, fls_nil, fls_cons, hass_nil, hass_cons, fl_int, fl_bl, fl_str, fl_non, fl_bag, fl_lst, fl_tup, fl_ins, has_int, has_bl, has_str, has_non, has_bag, has_lst, has_tup, has_ins, fz_own, fz_sh, fz_brw, bw_own, bw_sh, bw_brw, ub_own, ub_sh, ub_brw, so_own, so_sh, so_brw, tt_own, tt_sh, tt_brw, keep_f, keeps_f, keep_t, keeps_t, attr_prop, attr_fld, meth_m, methk_m, mul_m, add_m, sub_m, eq_m, ne_m, tru_m, bool_m, fl_rowL, fl_rowT, has_rowL, has_rowT, fl_tabL, fl_tabT, has_tabLt, has_tabTt, hb_L_sh, hb_L_own, hb_T_sh, hb_T_own, ite_self, fls_ints, hass_ints, fls_im, hass_im, fls_rowL, fls_rowT, List.set_cons_zero, List.set_cons_succ, wipeE, setsE, tgE, ITg.ix, giveE, IE.vars, IEs.vars, reduceCtorEq, decide_false, decide_true, Bool.or_false, Bool.false_or, Bool.or_true, Bool.true_or, Bool.and_true, Bool.true_and, Bool.and_false, Bool.false_and, Bool.not_true, Bool.not_false, if_true, if_false, ite_true, ite_false, Bool.false_eq_true, ne_eq, not_false_eq_true, not_true_eq_false, List.cons_append, List.nil_append, List.append_nil, List.mem_cons, List.not_mem_nil, or_false, false_or, or_true, true_or, Nat.reduceEqDiff, Nat.reduceAdd, eq_self, and_self, and_true, true_and, Option.map_some, Option.map_none, List.getElem?_cons_zero, List.getElem?_cons_succ, ← tabT_def, putE, HasA.at_, List.length_nil, putFl, show 0 < 900 by decide]
      rfl
theorem mul_l1 (f : Fl) (a : Int) (k : Nat) (hk : k ≤ 1000) : binM P cl .Mult (.lst f [.int a]) (.int (k : Int)) = ret (.lst .own ((List.range k).map fun _ => D.int a)) := by
  have hs : sizeLine = 2 ^ 24 := rfl
  have h1 : (decide (-(2 ^ 63) ≤ (k : Int)) && decide ((k : Int) < 2 ^ 63) && decide ([D.int a].length * (k : Int).toNat ≤ sizeLine)) = true := by
    simp only [Bool.and_eq_true, decide_eq_true_eq, Int.toNat_natCast, List.length_cons, List.length_nil]
    exact ⟨⟨by omega, by omega⟩, by omega⟩
  have e : (List.replicate k [D.int a]).flatten = (List.range k).map fun _ => D.int a := by
    clear h1 hs hk
    induction k with
    | zero => rfl
    | succ k ih => rw [List.replicate_succ', List.flatten_append, ih, List.range_succ, List.map_append]; rfl
  simp only [binM, binD]
  rw [if_pos h1, Int.toNat_natCast, show D.fls Fl.so [D.int a] = [D.int a] from rfl, e, opt_s]
theorem size_ok [Has P d_Deed_size] [HasA P "Deed" "table" .fld] {N : Nat} {e : Ta} : callP P W noP (n + 1) "Deed.size" [deedD .sh N e] = ret (.int (N : Int)) := by
  rw [c_Deed_size]
  unfold deedD
  simp only [b_Deed_size, v_var, v_int, v_str, v_bl, v_non, v_bin, v_neg, v_not, v_bop, v_ife, v_cmp, v_cmp2, v_call, v_scall_s, v_meth, v_methk, v_attr, v_blt, v_isi, v_lst, v_tup, v_idx, v_sl, p_no, p_part, v_lc, v_lcif, v_lc2, i_seq, i_range1, i_range2, i_zip, i_enum, evs_nil, evs_cons, t_not, t_bop, t_ife, t_var, t_bl, t_cmp, t_cmp2, t_call, t_scall, t_meth, t_methk, t_attr, t_blt, t_isi, t_lc, t_idx, t_bin, bopT_and_t, bopT_and_f, bopT_or_t, bopT_or_f, bopM_and_t, bopM_and_f, bopM_or_t, bopM_or_f, tru_bl, tru_int, tru_lst, tru_tup, neg_int, part_int, add_int, sub_int, lt_int, le_int, gt_int, ge_int, eq_int, ne_int, eq_bl, ne_bl, cmpI_lt, cmpI_le, len_lst, len_tup, int_int, int_bl, list_lst, list_tup, tuple_lst, sum_ints, all_bls, any_bls, app_key, s_nil, s_cons, nx_nx, nx_rt, nx_bk, nx_ct, s_asg, s_unp, s_par, s_fld, s_app, s_bset, s_expr, s_ret, s_retN, s_ifs, s_for, s_while, s_pass, s_brk, s_cont, res_rt, res_nx, self_nx, ret_bnd, fail_bnd, bnd_assoc, seq_bnd, opt_s, opt_n, gV_0, gV_s, glo_c, fls_nil, fls_cons, hass_nil, hass_cons, fl_int, fl_bl, fl_str, fl_non, fl_bag, fl_lst, fl_tup, fl_ins, has_int, has_bl, has_str, has_non, has_bag, has_lst, has_tup, has_ins, fz_own, fz_sh, fz_brw, bw_own, bw_sh, bw_brw, ub_own, ub_sh, ub_brw, so_own, so_sh, so_brw, tt_own, tt_sh, tt_brw, keep_f, keeps_f, keep_t, keeps_t, attr_prop, attr_fld, meth_m, methk_m, mul_m, add_m, sub_m, eq_m, ne_m, tru_m, bool_m, fl_rowL, fl_rowT, has_rowL, has_rowT, fl_tabL, fl_tabT, has_tabLt, has_tabTt, hb_L_sh, hb_L_own, hb_T_sh, hb_T_own, ite_self, fls_ints, hass_ints, fls_im, hass_im, fls_rowL, fls_rowT, List.set_cons_zero, List.set_cons_succ, wipeE, setsE, tgE, ITg.ix, giveE, IE.vars, IEs.vars, reduceCtorEq, decide_false, decide_true, Bool.or_false, Bool.false_or, Bool.or_true, Bool.true_or, Bool.and_true, Bool.true_and, Bool.and_false, Bool.false_and, Bool.not_true, Bool.not_false, if_true, if_false, ite_true, ite_false, Bool.false_eq_true, ne_eq, not_false_eq_true, not_true_eq_false, List.cons_append, List.nil_append, List.append_nil, List.mem_cons, List.not_mem_nil, or_false, false_or, or_true, true_or, Nat.reduceEqDiff, Nat.reduceAdd, eq_self, and_self, and_true, true_and, Option.map_some, Option.map_none, List.getElem?_cons_zero, List.getElem?_cons_succ, fldOf, len_tabT]
theorem rows_ok [Has P d_Deed_rows] [HasA P "Deed" "table" .fld] {N : Nat} {e : Ta} (h4 : N ≤ 4) : callP P W noP (n + 1) "Deed.rows" [deedD .sh N e] = ret (tabL .own .own (tab N e)) := by
  have hs : sizeLine = 2 ^ 24 := rfl
  rw [c_Deed_rows]
  unfold deedD
  simp only [b_Deed_rows, v_var, v_int, v_str, v_bl, v_non, v_bin, v_neg, v_not, v_bop, v_ife, v_cmp, v_cmp2, v_call, v_scall_s, v_meth, v_methk, v_attr, v_blt, v_isi, v_lst, v_tup, v_idx, v_sl, p_no, p_part, v_lc, v_lcif, v_lc2, i_seq, i_range1, i_range2, i_zip, i_enum, evs_nil, evs_cons, t_not, t_bop, t_ife, t_var, t_bl, t_cmp, t_cmp2, t_call, t_scall, t_meth, t_methk, t_attr, t_blt, t_isi, t_lc, t_idx, t_bin, bopT_and_t, bopT_and_f, bopT_or_t, bopT_or_f, bopM_and_t, bopM_and_f, bopM_or_t, bopM_or_f, tru_bl, tru_int, tru_lst, tru_tup, neg_int, part_int, add_int, sub_int, lt_int, le_int, gt_int, ge_int, eq_int, ne_int, eq_bl, ne_bl, cmpI_lt, cmpI_le, len_lst, len_tup, int_int, int_bl, list_lst, list_tup, tuple_lst, sum_ints, all_bls, any_bls, app_key, s_nil, s_cons, nx_nx, nx_rt, nx_bk, nx_ct, s_asg, s_unp, s_par, s_fld, s_app, s_bset, s_expr, s_ret, s_retN, s_ifs, s_for, s_while, s_pass, s_brk, s_cont, res_rt, res_nx, self_nx, ret_bnd, fail_bnd, bnd_assoc, seq_bnd, opt_s, opt_n, gV_0, gV_s, glo_c, fls_nil, fls_cons, hass_nil, hass_cons, fl_int, fl_bl, fl_str, fl_non, fl_bag, fl_lst, fl_tup, fl_ins, has_int, has_bl, has_str, has_non, has_bag, has_lst, has_tup, has_ins, fz_own, fz_sh, fz_brw, bw_own, bw_sh, bw_brw, ub_own, ub_sh, ub_brw, so_own, so_sh, so_brw, tt_own, tt_sh, tt_brw, keep_f, keeps_f, keep_t, keeps_t, attr_prop, attr_fld, meth_m, methk_m, mul_m, add_m, sub_m, eq_m, ne_m, tru_m, bool_m, fl_rowL, fl_rowT, has_rowL, has_rowT, fl_tabL, fl_tabT, has_tabLt, has_tabTt, hb_L_sh, hb_L_own, hb_T_sh, hb_T_own, ite_self, fls_ints, hass_ints, fls_im, hass_im, fls_rowL, fls_rowT, List.set_cons_zero, List.set_cons_succ, wipeE, setsE, tgE, ITg.ix, giveE, IE.vars, IEs.vars, reduceCtorEq, decide_false, decide_true, Bool.or_false, Bool.false_or, Bool.or_true, Bool.true_or, Bool.and_true, Bool.true_and, Bool.and_false, Bool.false_and, Bool.not_true, Bool.not_false, if_true, if_false, ite_true, ite_false, Bool.false_eq_true, ne_eq, not_false_eq_true, not_true_eq_false, List.cons_append, List.nil_append, List.append_nil, List.mem_cons, List.not_mem_nil, or_false, false_or, or_true, true_or, Nat.reduceEqDiff, Nat.reduceAdd, eq_self, and_self, and_true, true_and, Option.map_some, Option.map_none, List.getElem?_cons_zero, List.getElem?_cons_succ, fldOf, items_tabT]
  refine bnd_lcr (fun r => rowL .own ((List.range (r + 1)).map (e r))) (by omega) (fun r hr => ?_) ?_
  · simp only [v_var, v_int, v_str, v_bl, v_non, v_bin, v_neg, v_not, v_bop, v_ife, v_cmp, v_cmp2, v_call, v_scall_s, v_meth, v_methk, v_attr, v_blt, v_isi, v_lst, v_tup, v_idx, v_sl, p_no, p_part, v_lc, v_lcif, v_lc2, i_seq, i_range1, i_range2, i_zip, i_enum, evs_nil, evs_cons, t_not, t_bop, t_ife, t_var, t_bl, t_cmp, t_cmp2, t_call, t_scall, t_meth, t_methk, t_attr, t_blt, t_isi, t_lc, t_idx, t_bin, bopT_and_t, bopT_and_f, bopT_or_t, bopT_or_f, bopM_and_t, bopM_and_f, bopM_or_t, bopM_or_f, tru_bl, tru_int, tru_lst, tru_tup, neg_int, part_int, add_int, sub_int, lt_int, le_int, gt_int, ge_int, eq_int, ne_int, eq_bl, ne_bl, cmpI_lt, cmpI_le, len_lst, len_tup, int_int, int_bl, list_lst, list_tup, tuple_lst, sum_ints, all_bls, any_bls, app_key, s_nil, s_cons, nx_nx, nx_rt, nx_bk, nx_ct, s_asg, s_unp, s_par, s_fld, s_app, s_bset, s_expr, s_ret, s_retN, s_ifs, s_for, s_while, s_pass, s_brk, s_cont, res_rt, res_nx, self_nx, ret_bnd, fail_bnd, bnd_assoc, seq_bnd, opt_s, opt_n, gV_0, gV_s, glo_c, fls_nil, fls_cons, hass_nil, hass_cons, fl_int, fl_bl, fl_str, fl_non, fl_bag, fl_lst, fl_tup, fl_ins, has_int, has_bl, has_str, has_non, has_bag, has_lst, has_tup, has_ins, fz_own, fz_sh, fz_brw, bw_own, bw_sh, bw_brw, ub_own, ub_sh, ub_brw, so_own, so_sh, so_brw, tt_own, tt_sh, tt_brw, keep_f, keeps_f, keep_t, keeps_t, attr_prop, attr_fld, meth_m, methk_m, mul_m, add_m, sub_m, eq_m, ne_m, tru_m, bool_m, fl_rowL, fl_rowT, has_rowL, has_rowT, fl_tabL, fl_tabT, has_tabLt, has_tabTt, hb_L_sh, hb_L_own, hb_T_sh, hb_T_own, ite_self, fls_ints, hass_ints, fls_im, hass_im, fls_rowL, fls_rowT, List.set_cons_zero, List.set_cons_succ, wipeE, setsE, tgE, ITg.ix, giveE, IE.vars, IEs.vars, reduceCtorEq, decide_false, decide_true, Bool.or_false, Bool.false_or, Bool.or_true, Bool.true_or, Bool.and_true, Bool.true_and, Bool.and_false, Bool.false_and, Bool.not_true, Bool.not_false, if_true, if_false, ite_true, ite_false, Bool.false_eq_true, ne_eq, not_false_eq_true, not_true_eq_false, List.cons_append, List.nil_append, List.append_nil, List.mem_cons, List.not_mem_nil, or_false, false_or, or_true, true_or, Nat.reduceEqDiff, Nat.reduceAdd, eq_self, and_self, and_true, true_and, Option.map_some, Option.map_none, List.getElem?_cons_zero, List.getElem?_cons_succ, rowT_def, list_tup, rowL_def]
  · simp only [v_var, v_int, v_str, v_bl, v_non, v_bin, v_neg, v_not, v_bop, v_ife, v_cmp, v_cmp2, v_call, v_scall_s, v_meth, v_methk, v_attr, v_blt, v_isi, v_lst, v_tup, v_idx, v_sl, p_no, p_part, v_lc, v_lcif, v_lc2, i_seq, i_range1, i_range2, i_zip, i_enum, evs_nil, evs_cons, t_not, t_bop, t_ife, t_var, t_bl, t_cmp, t_cmp2, t_call, t_scall, t_meth, t_methk, t_attr, t_blt, t_isi, t_lc, t_idx, t_bin, bopT_and_t, bopT_and_f, bopT_or_t, bopT_or_f, bopM_and_t, bopM_and_f, bopM_or_t, bopM_or_f, tru_bl, tru_int, tru_lst, tru_tup, neg_int, part_int, add_int, sub_int, lt_int, le_int, gt_int, ge_int, eq_int, ne_int, eq_bl, ne_bl, cmpI_lt, cmpI_le, len_lst, len_tup, int_int, int_bl, list_lst, list_tup, tuple_lst, sum_ints, all_bls, any_bls, app_key, s_nil, s_cons, nx_nx, nx_rt, nx_bk, nx_ct, s_asg, s_unp, s_par, s_fld, s_app, s_bset, s_expr, s_ret, s_retN, s_ifs, s_for, s_while, s_pass, s_brk, s_cont, res_rt, res_nx, self_nx, ret_bnd, fail_bnd, bnd_assoc, seq_bnd, opt_s, opt_n, gV_0, gV_s, glo_c, fls_nil, fls_cons, hass_nil, hass_cons, fl_int, fl_bl, fl_str, fl_non, fl_bag, fl_lst, fl_tup, fl_ins, has_int, has_bl, has_str, has_non, has_bag, has_lst, has_tup, has_ins, fz_own, fz_sh, fz_brw, bw_own, bw_sh, bw_brw, ub_own, ub_sh, ub_brw, so_own, so_sh, so_brw, tt_own, tt_sh, tt_brw, keep_f, keeps_f, keep_t, keeps_t, attr_prop, attr_fld, meth_m, methk_m, mul_m, add_m, sub_m, eq_m, ne_m, tru_m, bool_m, fl_rowL, fl_rowT, has_rowL, has_rowT, fl_tabL, fl_tabT, has_tabLt, has_tabTt, hb_L_sh, hb_L_own, hb_T_sh, hb_T_own, ite_self, fls_ints, hass_ints, fls_im, hass_im, fls_rowL, fls_rowT, List.set_cons_zero, List.set_cons_succ, wipeE, setsE, tgE, ITg.ix, giveE, IE.vars, IEs.vars, reduceCtorEq, decide_false, decide_true, Bool.or_false, Bool.false_or, Bool.or_true, Bool.true_or, Bool.and_true, Bool.true_and, Bool.and_false, Bool.false_and, Bool.not_true, Bool.not_false, if_true, if_false, ite_true, ite_false, Bool.false_eq_true, ne_eq, not_false_eq_true, not_true_eq_false, List.cons_append, List.nil_append, List.append_nil, List.mem_cons, List.not_mem_nil, or_false, false_or, or_true, true_or, Nat.reduceEqDiff, Nat.reduceAdd, eq_self, and_self, and_true, true_and, Option.map_some, Option.map_none, List.getElem?_cons_zero, List.getElem?_cons_succ, ← tabL_def]
theorem rest_ok [Has P d_Deed_rest] [Has P d_need_size] [Has P d_is_within] [Has P d_Deed] [Has P d_is_rows] [Has P d_is_list] [Has P d_is_number] [HasC P "MOST_SIZE" (.int 4)] [HasA P "Deed" "table" .fld] {N : Nat} (h1 : 1 ≤ N) (h4 : N ≤ 4) :
    callP P W noP (n + 4) "Deed.rest" [.int (N : Int)] = ret (deedD .own N fun _ _ => 0) := by
  have hs : sizeLine = 2 ^ 24 := rfl
  rw [c_Deed_rest]
  simp only [b_Deed_rest, v_var, v_int, v_str, v_bl, v_non, v_bin, v_neg, v_not, v_bop, v_ife, v_cmp, v_cmp2, v_call, v_scall_s, v_meth, v_methk, v_attr, v_blt, v_isi, v_lst, v_tup, v_idx, v_sl, p_no, p_part, v_lc, v_lcif, v_lc2, i_seq, i_range1, i_range2, i_zip, i_enum, evs_nil, evs_cons, t_not, t_bop, t_ife, t_var, t_bl, t_cmp, t_cmp2, t_call, t_scall, t_meth, t_methk, t_attr, t_blt, t_isi, t_lc, t_idx, t_bin, bopT_and_t, bopT_and_f, bopT_or_t, bopT_or_f, bopM_and_t, bopM_and_f, bopM_or_t, bopM_or_f, tru_bl, tru_int, tru_lst, tru_tup, neg_int, part_int, add_int, sub_int, lt_int, le_int, gt_int, ge_int, eq_int, ne_int, eq_bl, ne_bl, cmpI_lt, cmpI_le, len_lst, len_tup, int_int, int_bl, list_lst, list_tup, tuple_lst, sum_ints, all_bls, any_bls, app_key, s_nil, s_cons, nx_nx, nx_rt, nx_bk, nx_ct, s_asg, s_unp, s_par, s_fld, s_app, s_bset, s_expr, s_ret, s_retN, s_ifs, s_for, s_while, s_pass, s_brk, s_cont, res_rt, res_nx, self_nx, ret_bnd, fail_bnd, bnd_assoc, seq_bnd, opt_s, opt_n, gV_0, gV_s, glo_c, fls_nil, fls_cons, hass_nil, hass_cons, fl_int, fl_bl, fl_str, fl_non, fl_bag, fl_lst, fl_tup, fl_ins, has_int, has_bl, has_str, has_non, has_bag, has_lst, has_tup, has_ins, fz_own, fz_sh, fz_brw, bw_own, bw_sh, bw_brw, ub_own, ub_sh, ub_brw, so_own, so_sh, so_brw, tt_own, tt_sh, tt_brw, keep_f, keeps_f, keep_t, keeps_t, attr_prop, attr_fld, meth_m, methk_m, mul_m, add_m, sub_m, eq_m, ne_m, tru_m, bool_m, fl_rowL, fl_rowT, has_rowL, has_rowT, fl_tabL, fl_tabT, has_tabLt, has_tabTt, hb_L_sh, hb_L_own, hb_T_sh, hb_T_own, ite_self, fls_ints, hass_ints, fls_im, hass_im, fls_rowL, fls_rowT, List.set_cons_zero, List.set_cons_succ, wipeE, setsE, tgE, ITg.ix, giveE, IE.vars, IEs.vars, reduceCtorEq, decide_false, decide_true, Bool.or_false, Bool.false_or, Bool.or_true, Bool.true_or, Bool.and_true, Bool.true_and, Bool.and_false, Bool.false_and, Bool.not_true, Bool.not_false, if_true, if_false, ite_true, ite_false, Bool.false_eq_true, ne_eq, not_false_eq_true, not_true_eq_false, List.cons_append, List.nil_append, List.append_nil, List.mem_cons, List.not_mem_nil, or_false, false_or, or_true, true_or, Nat.reduceEqDiff, Nat.reduceAdd, eq_self, and_self, and_true, true_and, Option.map_some, Option.map_none, List.getElem?_cons_zero, List.getElem?_cons_succ, need_size_ok h1 h4, range1_nat _ (show N ≤ sizeLine by omega)]
  refine bnd_lcr (fun r => rowL .own ((List.range (r + 1)).map fun _ => 0)) (by omega) (fun r hr => ?_) ?_
  · simp only [v_var, v_int, v_str, v_bl, v_non, v_bin, v_neg, v_not, v_bop, v_ife, v_cmp, v_cmp2, v_call, v_scall_s, v_meth, v_methk, v_attr, v_blt, v_isi, v_lst, v_tup, v_idx, v_sl, p_no, p_part, v_lc, v_lcif, v_lc2, i_seq, i_range1, i_range2, i_zip, i_enum, evs_nil, evs_cons, t_not, t_bop, t_ife, t_var, t_bl, t_cmp, t_cmp2, t_call, t_scall, t_meth, t_methk, t_attr, t_blt, t_isi, t_lc, t_idx, t_bin, bopT_and_t, bopT_and_f, bopT_or_t, bopT_or_f, bopM_and_t, bopM_and_f, bopM_or_t, bopM_or_f, tru_bl, tru_int, tru_lst, tru_tup, neg_int, part_int, add_int, sub_int, lt_int, le_int, gt_int, ge_int, eq_int, ne_int, eq_bl, ne_bl, cmpI_lt, cmpI_le, len_lst, len_tup, int_int, int_bl, list_lst, list_tup, tuple_lst, sum_ints, all_bls, any_bls, app_key, s_nil, s_cons, nx_nx, nx_rt, nx_bk, nx_ct, s_asg, s_unp, s_par, s_fld, s_app, s_bset, s_expr, s_ret, s_retN, s_ifs, s_for, s_while, s_pass, s_brk, s_cont, res_rt, res_nx, self_nx, ret_bnd, fail_bnd, bnd_assoc, seq_bnd, opt_s, opt_n, gV_0, gV_s, glo_c, fls_nil, fls_cons, hass_nil, hass_cons, fl_int, fl_bl, fl_str, fl_non, fl_bag, fl_lst, fl_tup, fl_ins, has_int, has_bl, has_str, has_non, has_bag, has_lst, has_tup, has_ins, fz_own, fz_sh, fz_brw, bw_own, bw_sh, bw_brw, ub_own, ub_sh, ub_brw, so_own, so_sh, so_brw, tt_own, tt_sh, tt_brw, keep_f, keeps_f, keep_t, keeps_t, attr_prop, attr_fld, meth_m, methk_m, mul_m, add_m, sub_m, eq_m, ne_m, tru_m, bool_m, fl_rowL, fl_rowT, has_rowL, has_rowT, fl_tabL, fl_tabT, has_tabLt, has_tabTt, hb_L_sh, hb_L_own, hb_T_sh, hb_T_own, ite_self, fls_ints, hass_ints, fls_im, hass_im, fls_rowL, fls_rowT, List.set_cons_zero, List.set_cons_succ, wipeE, setsE, tgE, ITg.ix, giveE, IE.vars, IEs.vars, reduceCtorEq, decide_false, decide_true, Bool.or_false, Bool.false_or, Bool.or_true, Bool.true_or, Bool.and_true, Bool.true_and, Bool.and_false, Bool.false_and, Bool.not_true, Bool.not_false, if_true, if_false, ite_true, ite_false, Bool.false_eq_true, ne_eq, not_false_eq_true, not_true_eq_false, List.cons_append, List.nil_append, List.append_nil, List.mem_cons, List.not_mem_nil, or_false, false_or, or_true, true_or, Nat.reduceEqDiff, Nat.reduceAdd, eq_self, and_self, and_true, true_and, Option.map_some, Option.map_none, List.getElem?_cons_zero, List.getElem?_cons_succ, cast1, seq_ret, List.length_cons, List.length_nil, show 0 + 1 ≤ sizeLine by omega, mul_l1 .own 0 (r + 1) (by omega), rowL_def]
  · simp only [v_var, v_int, v_str, v_bl, v_non, v_bin, v_neg, v_not, v_bop, v_ife, v_cmp, v_cmp2, v_call, v_scall_s, v_meth, v_methk, v_attr, v_blt, v_isi, v_lst, v_tup, v_idx, v_sl, p_no, p_part, v_lc, v_lcif, v_lc2, i_seq, i_range1, i_range2, i_zip, i_enum, evs_nil, evs_cons, t_not, t_bop, t_ife, t_var, t_bl, t_cmp, t_cmp2, t_call, t_scall, t_meth, t_methk, t_attr, t_blt, t_isi, t_lc, t_idx, t_bin, bopT_and_t, bopT_and_f, bopT_or_t, bopT_or_f, bopM_and_t, bopM_and_f, bopM_or_t, bopM_or_f, tru_bl, tru_int, tru_lst, tru_tup, neg_int, part_int, add_int, sub_int, lt_int, le_int, gt_int, ge_int, eq_int, ne_int, eq_bl, ne_bl, cmpI_lt, cmpI_le, len_lst, len_tup, int_int, int_bl, list_lst, list_tup, tuple_lst, sum_ints, all_bls, any_bls, app_key, s_nil, s_cons, nx_nx, nx_rt, nx_bk, nx_ct, s_asg, s_unp, s_par, s_fld, s_app, s_bset, s_expr, s_ret, s_retN, s_ifs, s_for, s_while, s_pass, s_brk, s_cont, res_rt, res_nx, self_nx, ret_bnd, fail_bnd, bnd_assoc, seq_bnd, opt_s, opt_n, gV_0, gV_s, glo_c, fls_nil, fls_cons, hass_nil, hass_cons, fl_int, fl_bl, fl_str, fl_non, fl_bag, fl_lst, fl_tup, fl_ins, has_int, has_bl, has_str, has_non, has_bag, has_lst, has_tup, has_ins, fz_own, fz_sh, fz_brw, bw_own, bw_sh, bw_brw, ub_own, ub_sh, ub_brw, so_own, so_sh, so_brw, tt_own, tt_sh, tt_brw, keep_f, keeps_f, keep_t, keeps_t, attr_prop, attr_fld, meth_m, methk_m, mul_m, add_m, sub_m, eq_m, ne_m, tru_m, bool_m, fl_rowL, fl_rowT, has_rowL, has_rowT, fl_tabL, fl_tabT, has_tabLt, has_tabTt, hb_L_sh, hb_L_own, hb_T_sh, hb_T_own, ite_self, fls_ints, hass_ints, fls_im, hass_im, fls_rowL, fls_rowT, List.set_cons_zero, List.set_cons_succ, wipeE, setsE, tgE, ITg.ix, giveE, IE.vars, IEs.vars, reduceCtorEq, decide_false, decide_true, Bool.or_false, Bool.false_or, Bool.or_true, Bool.true_or, Bool.and_true, Bool.true_and, Bool.and_false, Bool.false_and, Bool.not_true, Bool.not_false, if_true, if_false, ite_true, ite_false, Bool.false_eq_true, ne_eq, not_false_eq_true, not_true_eq_false, List.cons_append, List.nil_append, List.append_nil, List.mem_cons, List.not_mem_nil, or_false, false_or, or_true, true_or, Nat.reduceEqDiff, Nat.reduceAdd, eq_self, and_self, and_true, true_and, Option.map_some, Option.map_none, List.getElem?_cons_zero, List.getElem?_cons_succ, ← tabL_def (e := fun _ _ => 0), deed_new h1 h4, fl_deed]
section
variable [HasC P "MOST_SIZE" (.int 4)] [HasA P "Deed" "table" .fld] [Has P d_Deed] [Has P d_is_rows] [Has P d_is_list] [Has P d_is_number]
theorem back_ok [Has P d_Deed_back] [Has P d_inverse] {N a : Nat} {e : Ta} (h1 : 1 ≤ N) (h4 : N ≤ 4) (he : Tb N a e) (ha : 4 * (a + 2) ≤ 400000) :
    callP P W noP (n + 4) "Deed.back" [deedD .sh N e] = ret (deedD .own N (invE e)) := by
  rw [c_Deed_back]
  conv => lhs; unfold deedD
  simp only [b_Deed_back, v_var, v_int, v_str, v_bl, v_non, v_bin, v_neg, v_not, v_bop, v_ife, v_cmp, v_cmp2, v_call, v_scall_s, v_meth, v_methk, v_attr, v_blt, v_isi, v_lst, v_tup, v_idx, v_sl, p_no, p_part, v_lc, v_lcif, v_lc2, i_seq, i_range1, i_range2, i_zip, i_enum, evs_nil, evs_cons, t_not, t_bop, t_ife, t_var, t_bl, t_cmp, t_cmp2, t_call, t_scall, t_meth, t_methk, t_attr, t_blt, t_isi, t_lc, t_idx, t_bin, bopT_and_t, bopT_and_f, bopT_or_t, bopT_or_f, bopM_and_t, bopM_and_f, bopM_or_t, bopM_or_f, tru_bl, tru_int, tru_lst, tru_tup, neg_int, part_int, add_int, sub_int, lt_int, le_int, gt_int, ge_int, eq_int, ne_int, eq_bl, ne_bl, cmpI_lt, cmpI_le, len_lst, len_tup, int_int, int_bl, list_lst, list_tup, tuple_lst, sum_ints, all_bls, any_bls, app_key, s_nil, s_cons, nx_nx, nx_rt, nx_bk, nx_ct, s_asg, s_unp, s_par, s_fld, s_app, s_bset, s_expr, s_ret, s_retN, s_ifs, s_for, s_while, s_pass, s_brk, s_cont, res_rt, res_nx, self_nx, ret_bnd, fail_bnd, bnd_assoc, seq_bnd, opt_s, opt_n, gV_0, gV_s, glo_c, fls_nil, fls_cons, hass_nil, hass_cons, fl_int, fl_bl, fl_str, fl_non, fl_bag, fl_lst, fl_tup, fl_ins, has_int, has_bl, has_str, has_non, has_bag, has_lst, has_tup, has_ins, fz_own, fz_sh, fz_brw, bw_own, bw_sh, bw_brw, ub_own, ub_sh, ub_brw, so_own, so_sh, so_brw, tt_own, tt_sh, tt_brw, keep_f, keeps_f, keep_t, keeps_t, attr_prop, attr_fld, meth_m, methk_m, mul_m, add_m, sub_m, eq_m, ne_m, tru_m, bool_m, fl_rowL, fl_rowT, has_rowL, has_rowT, fl_tabL, fl_tabT, has_tabLt, has_tabTt, hb_L_sh, hb_L_own, hb_T_sh, hb_T_own, ite_self, fls_ints, hass_ints, fls_im, hass_im, fls_rowL, fls_rowT, List.set_cons_zero, List.set_cons_succ, wipeE, setsE, tgE, ITg.ix, giveE, IE.vars, IEs.vars, reduceCtorEq, decide_false, decide_true, Bool.or_false, Bool.false_or, Bool.or_true, Bool.true_or, Bool.and_true, Bool.true_and, Bool.and_false, Bool.false_and, Bool.not_true, Bool.not_false, if_true, if_false, ite_true, ite_false, Bool.false_eq_true, ne_eq, not_false_eq_true, not_true_eq_false, List.cons_append, List.nil_append, List.append_nil, List.mem_cons, List.not_mem_nil, or_false, false_or, or_true, true_or, Nat.reduceEqDiff, Nat.reduceAdd, eq_self, and_self, and_true, true_and, Option.map_some, Option.map_none, List.getElem?_cons_zero, List.getElem?_cons_succ, fldOf, inverse_ok h4 he ha, deed_new h1 h4, fl_deed, hb_deed_own]
theorem deed_mul [Has P d_Deed__mul] [Has P d_behind] [Has P d_entry_behind] [Has P d_Deed_size] [HasA P "Deed" "size" (.prop "Deed.size")] {N a b : Nat} {e f : Ta} (h1 : 1 ≤ N) (h4 : N ≤ 4) (he : Tb N a e) (hf : Tb N b f) (ha : a ≤ 400000) (hb : b ≤ 400000) :
    callP P W noP (n + 4) "Deed.__mul__" [deedD .sh N e, deedD .sh N f] = ret (deedD .own N (mulE e f)) := by
  have s1 : ∀ e, callP P W noP (n + 3) "Deed.size" [.ins .sh "Deed" ["table"] [tabT .sh .sh (tab N e)]] = ret (.int (N : Int)) := fun e => size_ok
  rw [c_Deed__mul]
  conv => lhs; unfold deedD
  simp only [b_Deed__mul, v_var, v_int, v_str, v_bl, v_non, v_bin, v_neg, v_not, v_bop, v_ife, v_cmp, v_cmp2, v_call, v_scall_s, v_meth, v_methk, v_attr, v_blt, v_isi, v_lst, v_tup, v_idx, v_sl, p_no, p_part, v_lc, v_lcif, v_lc2, i_seq, i_range1, i_range2, i_zip, i_enum, evs_nil, evs_cons, t_not, t_bop, t_ife, t_var, t_bl, t_cmp, t_cmp2, t_call, t_scall, t_meth, t_methk, t_attr, t_blt, t_isi, t_lc, t_idx, t_bin, bopT_and_t, bopT_and_f, bopT_or_t, bopT_or_f, bopM_and_t, bopM_and_f, bopM_or_t, bopM_or_f, tru_bl, tru_int, tru_lst, tru_tup, neg_int, part_int, add_int, sub_int, lt_int, le_int, gt_int, ge_int, eq_int, ne_int, eq_bl, ne_bl, cmpI_lt, cmpI_le, len_lst, len_tup, int_int, int_bl, list_lst, list_tup, tuple_lst, sum_ints, all_bls, any_bls, app_key, s_nil, s_cons, nx_nx, nx_rt, nx_bk, nx_ct, s_asg, s_unp, s_par, s_fld, s_app, s_bset, s_expr, s_ret, s_retN, s_ifs, s_for, s_while, s_pass, s_brk, s_cont, res_rt, res_nx, self_nx, ret_bnd, fail_bnd, bnd_assoc, seq_bnd, opt_s, opt_n, gV_0, gV_s, glo_c, fls_nil, fls_cons, hass_nil, hass_cons, fl_int, fl_bl, fl_str, fl_non, fl_bag, fl_lst, fl_tup, fl_ins, has_int, has_bl, has_str, has_non, has_bag, has_lst, has_tup, has_ins, fz_own, fz_sh, fz_brw, bw_own, bw_sh, bw_brw, ub_own, ub_sh, ub_brw, so_own, so_sh, so_brw, tt_own, tt_sh, tt_brw, keep_f, keeps_f, keep_t, keeps_t, attr_prop, attr_fld, meth_m, methk_m, mul_m, add_m, sub_m, eq_m, ne_m, tru_m, bool_m, fl_rowL, fl_rowT, has_rowL, has_rowT, fl_tabL, fl_tabT, has_tabLt, has_tabTt, hb_L_sh, hb_L_own, hb_T_sh, hb_T_own, ite_self, fls_ints, hass_ints, fls_im, hass_im, fls_rowL, fls_rowT, List.set_cons_zero, List.set_cons_succ, wipeE, setsE, tgE, ITg.ix, giveE, IE.vars, IEs.vars, reduceCtorEq, decide_false, decide_true, Bool.or_false, Bool.false_or, Bool.or_true, Bool.true_or, Bool.and_true, Bool.true_and, Bool.and_false, Bool.false_and, Bool.not_true, Bool.not_false, if_true, if_false, ite_true, ite_false, Bool.false_eq_true, ne_eq, not_false_eq_true, not_true_eq_false, List.cons_append, List.nil_append, List.append_nil, List.mem_cons, List.not_mem_nil, or_false, false_or, or_true, true_or, Nat.reduceEqDiff, Nat.reduceAdd, eq_self, and_self, and_true, true_and, Option.map_some, Option.map_none, List.getElem?_cons_zero, List.getElem?_cons_succ, s1, fldOf, behind_ok (n := n + 1) h4 he hf ha hb, deed_new h1 h4, fl_deed, hb_deed_own]
end
end
end TI.TL

set_option Elab.async false
set_option linter.all false
set_option maxRecDepth 100000
set_option maxHeartbeats 2000000
/-! deeds compared, turned, crossed -/
namespace TI.TL
open PySem PySem.Spec PyProof.Rows L2
theorem datas_map {ι : Type} {h : ι → D} {k : ι → PyData} (H : ∀ x, (h x).data = some (k x)) : ∀ xs : List ι, D.datas (xs.map h) = some (xs.map k)
  | [] => rfl
  | x :: xs => by
    rw [List.map_cons, D.datas, H, datas_map H xs]; rfl
theorem data_rowT (f : Fl) (r : List Int) : (rowT f r).data = some (.tuple (r.map PyData.int)) := by
  unfold rowT
  rw [D.data, datas_map (k := PyData.int) fun _ => rfl]; rfl
theorem data_rowL (f : Fl) (r : List Int) : (rowL f r).data = some (.list (r.map PyData.int)) := by
  unfold rowL
  rw [D.data, datas_map (k := PyData.int) fun _ => rfl]; rfl
theorem data_tabT (f g : Fl) (t : List (List Int)) : (tabT f g t).data = some (.tuple (t.map fun r => .tuple (r.map PyData.int))) := by
  unfold tabT
  rw [D.data, datas_map fun x => data_rowT g x]; rfl
theorem data_tabL (f g : Fl) (t : List (List Int)) : (tabL f g t).data = some (.list (t.map fun r => .list (r.map PyData.int))) := by
  unfold tabL
  rw [D.data, datas_map fun x => data_rowL g x]; rfl
theorem lay_map {ι : Type} {k : ι → PyData} (H : ∀ x, (k x).canLay0 = true) : ∀ xs : List ι, PyData.canLayAll0 (xs.map k) = true
  | [] => by simp [PyData.canLayAll0]
  | x :: xs => by rw [List.map_cons, PyData.canLayAll0, H, lay_map H xs]; rfl
theorem dep_map {ι : Type} {k : ι → PyData} {n : Nat} (H : ∀ x, (k x).depth ≤ n) : ∀ xs : List ι, PyData.depthAll (xs.map k) ≤ n
  | [] => by simp [PyData.depthAll]
  | x :: xs => by
    rw [List.map_cons, PyData.depthAll]
    have h1 := H x
    have h2 := dep_map H xs
    omega
theorem lay_int (i : Int) : (PyData.int i).canLay0 = true := by simp [PyData.canLay0]
theorem dep_int (i : Int) : (PyData.int i).depth ≤ 0 := by simp [PyData.depth]
theorem sh_ints (r : List Int) : (PyData.tuple (r.map PyData.int)).canLay0 = true ∧ (PyData.tuple (r.map PyData.int)).depth ≤ 1 := by
  refine ⟨by rw [PyData.canLay0]; exact lay_map lay_int r, ?_⟩
  rw [PyData.depth]
  have := dep_map dep_int r
  omega
theorem shL_ints (r : List Int) : (PyData.list (r.map PyData.int)).canLay0 = true ∧ (PyData.list (r.map PyData.int)).depth ≤ 1 := by
  refine ⟨by rw [PyData.canLay0]; exact lay_map lay_int r, ?_⟩
  rw [PyData.depth]
  have := dep_map dep_int r
  omega
theorem shaped_of {d : PyData} (h : d.canLay0 = true) (h2 : d.depth ≤ 64) : SeqAt.shaped d = true := by
  unfold SeqAt.shaped
  rw [h, decide_eq_true h2]; rfl
theorem shaped_ints (r : List Int) : SeqAt.shaped (.tuple (r.map PyData.int)) = true := shaped_of (sh_ints r).1 (by have := (sh_ints r).2; omega)
theorem shapedL_ints (r : List Int) : SeqAt.shaped (.list (r.map PyData.int)) = true := shaped_of (shL_ints r).1 (by have := (shL_ints r).2; omega)
theorem shaped_tab (t : List (List Int)) : SeqAt.shaped (.tuple (t.map fun r => .tuple (r.map PyData.int))) = true := by
  refine shaped_of ?_ ?_
  · rw [PyData.canLay0]; exact lay_map (fun r => (sh_ints r).1) t
  · rw [PyData.depth]
    have := dep_map (n := 1) (fun r => (sh_ints r).2) t
    omega
theorem shapedL_tab (t : List (List Int)) : SeqAt.shaped (.list (t.map fun r => .list (r.map PyData.int))) = true := by
  refine shaped_of ?_ ?_
  · rw [PyData.canLay0]; exact lay_map (fun r => (shL_ints r).1) t
  · rw [PyData.depth]
    have := dep_map (n := 1) (fun r => (shL_ints r).2) t
    omega
theorem eqvAll_map {ι : Type} [DecidableEq ι] {k : ι → PyData} (H : ∀ x y, PyData.eqv (k x) (k y) = decide (x = y)) : ∀ xs ys : List ι, PyData.eqvAll (xs.map k) (ys.map k) = decide (xs = ys)
  | [], [] => by simp [PyData.eqvAll]
  | [], y :: ys => by simp [PyData.eqvAll]
  | x :: xs, [] => by simp [PyData.eqvAll]
  | x :: xs, y :: ys => by
    rw [List.map_cons, List.map_cons, PyData.eqvAll, H, eqvAll_map H xs ys]
    simp
theorem eqv_int (x y : Int) : PyData.eqv (.int x) (.int y) = decide (x = y) := by
  rw [PyData.eqv]; rfl
theorem eqv_rowT (x y : List Int) : PyData.eqv (.tuple (x.map PyData.int)) (.tuple (y.map PyData.int)) = decide (x = y) := by
  rw [PyData.eqv]; exact eqvAll_map eqv_int x y
theorem eqv_rowL (x y : List Int) : PyData.eqv (.list (x.map PyData.int)) (.list (y.map PyData.int)) = decide (x = y) := by
  rw [PyData.eqv]; exact eqvAll_map eqv_int x y
theorem eqD_of {x y : D} {a b : PyData} {k : Bool} (hx : x.data = some a) (hy : y.data = some b) (sa : SeqAt.shaped a = true) (sb : SeqAt.shaped b = true) (h : PyData.eqv a b = k) : eqD x y = some k := by
  unfold eqD
  rw [hx, hy]
  simp only [sa, sb, Bool.and_self, if_true, h]
theorem eqD_tabT (f g f' g' : Fl) (t u : List (List Int)) : eqD (tabT f g t) (tabT f' g' u) = some (decide (t = u)) :=
  eqD_of (data_tabT f g t) (data_tabT f' g' u) (shaped_tab t) (shaped_tab u) (by rw [PyData.eqv]; exact eqvAll_map (k := fun r => PyData.tuple (r.map PyData.int)) eqv_rowT t u)
theorem eqD_tabL (f g f' g' : Fl) (t u : List (List Int)) : eqD (tabL f g t) (tabL f' g' u) = some (decide (t = u)) :=
  eqD_of (data_tabL f g t) (data_tabL f' g' u) (shapedL_tab t) (shapedL_tab u) (by rw [PyData.eqv]; exact eqvAll_map (k := fun r => PyData.list (r.map PyData.int)) eqv_rowL t u)
section
variable {P : Pg} {cl : Str → List D → M D} {W n : Nat}
theorem eq_D {x y : D} {k : Bool} (hx : ∀ f c ns xs, x ≠ .ins f c ns xs) (h : eqD x y = some k) : cmpM P cl .Eq x y = ret (.bl k) := by
  cases x <;> (try (simp only [cmpM, cmpD, h]; rfl))
  exact absurd rfl (hx _ _ _ _)
theorem ne_D {x y : D} {k : Bool} (hx : ∀ f c ns xs, x ≠ .ins f c ns xs) (h : eqD x y = some k) : cmpM P cl .NotEq x y = ret (.bl (!k)) := by
  cases x <;> (try (simp only [cmpM, cmpD, h]; rfl))
  exact absurd rfl (hx _ _ _ _)
theorem eq_tabT (f g f' g' : Fl) (t u : List (List Int)) : cmpM P cl .Eq (tabT f g t) (tabT f' g' u) = ret (.bl (decide (t = u))) := eq_D (fun _ _ _ _ z => by cases z) (eqD_tabT ..)
theorem ne_tabT (f g f' g' : Fl) (t u : List (List Int)) : cmpM P cl .NotEq (tabT f g t) (tabT f' g' u) = ret (.bl (!decide (t = u))) := ne_D (fun _ _ _ _ z => by cases z) (eqD_tabT ..)
theorem eq_tabL (f g f' g' : Fl) (t u : List (List Int)) : cmpM P cl .Eq (tabL f g t) (tabL f' g' u) = ret (.bl (decide (t = u))) := eq_D (fun _ _ _ _ z => by cases z) (eqD_tabL ..)
theorem ne_tabL (f g f' g' : Fl) (t u : List (List Int)) : cmpM P cl .NotEq (tabL f g t) (tabL f' g' u) = ret (.bl (!decide (t = u))) := ne_D (fun _ _ _ _ z => by cases z) (eqD_tabL ..)
theorem deed_eq [Has P d_Deed__eq] [IsC P "Deed" "Deed"] [HasA P "Deed" "table" .fld] {N M : Nat} {e f : Ta} :
    callP P W noP (n + 1) "Deed.__eq__" [deedD .sh N e, deedD .sh M f] = ret (.bl (decide (tab N e = tab M f))) := by
  rw [c_Deed__eq]
  conv => lhs; unfold deedD
  simp only [b_Deed__eq, v_var, v_int, v_str, v_bl, v_non, v_bin, v_neg, v_not, v_bop, v_ife, v_cmp, v_cmp2, v_call, v_scall_s, v_meth, v_methk, v_attr, v_blt, v_isi, v_lst, v_tup, v_idx, v_sl, p_no, p_part, v_lc, v_lcif, v_lc2, i_seq, i_range1, i_range2, i_zip, i_enum, evs_nil, evs_cons, t_not, t_bop, t_ife, t_var, t_bl, t_cmp, t_cmp2, t_call, t_scall, t_meth, t_methk, t_attr, t_blt, t_isi, t_lc, t_idx, t_bin, bopT_and_t, bopT_and_f, bopT_or_t, bopT_or_f, bopM_and_t, bopM_and_f, bopM_or_t, bopM_or_f, tru_bl, tru_int, tru_lst, tru_tup, neg_int, part_int, add_int, sub_int, lt_int, le_int, gt_int, ge_int, eq_int, ne_int, eq_bl, ne_bl, cmpI_lt, cmpI_le, len_lst, len_tup, int_int, int_bl, list_lst, list_tup, tuple_lst, sum_ints, all_bls, any_bls, app_key, s_nil, s_cons, nx_nx, nx_rt, nx_bk, nx_ct, s_asg, s_unp, s_par, s_fld, s_app, s_bset, s_expr, s_ret, s_retN, s_ifs, s_for, s_while, s_pass, s_brk, s_cont, res_rt, res_nx, self_nx, ret_bnd, fail_bnd, bnd_assoc, seq_bnd, opt_s, opt_n, gV_0, gV_s, glo_c, fls_nil, fls_cons, hass_nil, hass_cons, fl_int, fl_bl, fl_str, fl_non, fl_bag, fl_lst, fl_tup, fl_ins, has_int, has_bl, has_str, has_non, has_bag, has_lst, has_tup, has_ins, fz_own, fz_sh, fz_brw, bw_own, bw_sh, bw_brw, ub_own, ub_sh, ub_brw, so_own, so_sh, so_brw, tt_own, tt_sh, tt_brw, keep_f, keeps_f, keep_t, keeps_t, attr_prop, attr_fld, meth_m, methk_m, mul_m, add_m, sub_m, eq_m, ne_m, tru_m, bool_m, fl_rowL, fl_rowT, has_rowL, has_rowT, fl_tabL, fl_tabT, has_tabLt, has_tabTt, hb_L_sh, hb_L_own, hb_T_sh, hb_T_own, ite_self, fls_ints, hass_ints, fls_im, hass_im, fls_rowL, fls_rowT, List.set_cons_zero, List.set_cons_succ, wipeE, setsE, tgE, ITg.ix, giveE, IE.vars, IEs.vars, reduceCtorEq, decide_false, decide_true, Bool.or_false, Bool.false_or, Bool.or_true, Bool.true_or, Bool.and_true, Bool.true_and, Bool.and_false, Bool.false_and, Bool.not_true, Bool.not_false, if_true, if_false, ite_true, ite_false, Bool.false_eq_true, ne_eq, not_false_eq_true, not_true_eq_false, List.cons_append, List.nil_append, List.append_nil, List.mem_cons, List.not_mem_nil, or_false, false_or, or_true, true_or, Nat.reduceEqDiff, Nat.reduceAdd, eq_self, and_self, and_true, true_and, Option.map_some, Option.map_none, List.getElem?_cons_zero, List.getElem?_cons_succ, fldOf, isi_c, eq_tabT]
theorem tab_eq {N : Nat} {e f : Ta} : tab N e = tab N f ↔ ∀ r c, c ≤ r → r < N → e r c = f r c := by
  unfold tab
  constructor
  · intro h r c hc hr
    have h1 := congrArg (fun t : List (List Int) => (t[r]?.getD [])[c]?.getD 0) h
    simpa [hr, show c < r + 1 by omega] using h1
  · intro h
    refine List.map_congr_left fun r hr => List.map_congr_left fun c hc => h r c ?_ (List.mem_range.mp hr)
    have := List.mem_range.mp hc
    omega
theorem deed_bool [Has P d_Deed__bool] [HasA P "Deed" "table" .fld] {N : Nat} {e : Ta} (h4 : N ≤ 4) :
    callP P W noP (n + 1) "Deed.__bool__" [deedD .sh N e] = ret (.bl (!decide (tab N e = tab N fun _ _ => 0))) := by
  have hs : sizeLine = 2 ^ 24 := rfl
  rw [c_Deed__bool]
  conv => lhs; unfold deedD
  simp only [b_Deed__bool, v_var, v_int, v_str, v_bl, v_non, v_bin, v_neg, v_not, v_bop, v_ife, v_cmp, v_cmp2, v_call, v_scall_s, v_meth, v_methk, v_attr, v_blt, v_isi, v_lst, v_tup, v_idx, v_sl, p_no, p_part, v_lc, v_lcif, v_lc2, i_seq, i_range1, i_range2, i_zip, i_enum, evs_nil, evs_cons, t_not, t_bop, t_ife, t_var, t_bl, t_cmp, t_cmp2, t_call, t_scall, t_meth, t_methk, t_attr, t_blt, t_isi, t_lc, t_idx, t_bin, bopT_and_t, bopT_and_f, bopT_or_t, bopT_or_f, bopM_and_t, bopM_and_f, bopM_or_t, bopM_or_f, tru_bl, tru_int, tru_lst, tru_tup, neg_int, part_int, add_int, sub_int, lt_int, le_int, gt_int, ge_int, eq_int, ne_int, eq_bl, ne_bl, cmpI_lt, cmpI_le, len_lst, len_tup, int_int, int_bl, list_lst, list_tup, tuple_lst, sum_ints, all_bls, any_bls, app_key, s_nil, s_cons, nx_nx, nx_rt, nx_bk, nx_ct, s_asg, s_unp, s_par, s_fld, s_app, s_bset, s_expr, s_ret, s_retN, s_ifs, s_for, s_while, s_pass, s_brk, s_cont, res_rt, res_nx, self_nx, ret_bnd, fail_bnd, bnd_assoc, seq_bnd, opt_s, opt_n, gV_0, gV_s, glo_c, fls_nil, fls_cons, hass_nil, hass_cons, fl_int, fl_bl, fl_str, fl_non, fl_bag, fl_lst, fl_tup, fl_ins, has_int, has_bl, has_str, has_non, has_bag, has_lst, has_tup, has_ins, fz_own, fz_sh, fz_brw, bw_own, bw_sh, bw_brw, ub_own, ub_sh, ub_brw, so_own, so_sh, so_brw, tt_own, tt_sh, tt_brw, keep_f, keeps_f, keep_t, keeps_t, attr_prop, attr_fld, meth_m, methk_m, mul_m, add_m, sub_m, eq_m, ne_m, tru_m, bool_m, fl_rowL, fl_rowT, has_rowL, has_rowT, fl_tabL, fl_tabT, has_tabLt, has_tabTt, hb_L_sh, hb_L_own, hb_T_sh, hb_T_own, ite_self, fls_ints, hass_ints, fls_im, hass_im, fls_rowL, fls_rowT, List.set_cons_zero, List.set_cons_succ, wipeE, setsE, tgE, ITg.ix, giveE, IE.vars, IEs.vars, reduceCtorEq, decide_false, decide_true, Bool.or_false, Bool.false_or, Bool.or_true, Bool.true_or, Bool.and_true, Bool.true_and, Bool.and_false, Bool.false_and, Bool.not_true, Bool.not_false, if_true, if_false, ite_true, ite_false, Bool.false_eq_true, ne_eq, not_false_eq_true, not_true_eq_false, List.cons_append, List.nil_append, List.append_nil, List.mem_cons, List.not_mem_nil, or_false, false_or, or_true, true_or, Nat.reduceEqDiff, Nat.reduceAdd, eq_self, and_self, and_true, true_and, Option.map_some, Option.map_none, List.getElem?_cons_zero, List.getElem?_cons_succ, fldOf, items_tabT]
  refine bnd_lc2 (fun r => List.range (r + 1)) (fun r c => .int (e r c)) (fun r c => .bl (!decide (e r c = 0))) ?_ (fun r hr => ?_) ?_
  · refine Nat.le_trans (flatMap_len _ _ 4 fun r hr => ?_) (by simp; omega)
    have := List.mem_range.mp hr
    simp; omega
  · refine ⟨_, rfl, ?_, fun c hc => ?_⟩
    · simp only [v_var, v_int, v_str, v_bl, v_non, v_bin, v_neg, v_not, v_bop, v_ife, v_cmp, v_cmp2, v_call, v_scall_s, v_meth, v_methk, v_attr, v_blt, v_isi, v_lst, v_tup, v_idx, v_sl, p_no, p_part, v_lc, v_lcif, v_lc2, i_seq, i_range1, i_range2, i_zip, i_enum, evs_nil, evs_cons, t_not, t_bop, t_ife, t_var, t_bl, t_cmp, t_cmp2, t_call, t_scall, t_meth, t_methk, t_attr, t_blt, t_isi, t_lc, t_idx, t_bin, bopT_and_t, bopT_and_f, bopT_or_t, bopT_or_f, bopM_and_t, bopM_and_f, bopM_or_t, bopM_or_f, tru_bl, tru_int, tru_lst, tru_tup, neg_int, part_int, add_int, sub_int, lt_int, le_int, gt_int, ge_int, eq_int, ne_int, eq_bl, ne_bl, cmpI_lt, cmpI_le, len_lst, len_tup, int_int, int_bl, list_lst, list_tup, tuple_lst, sum_ints, all_bls, any_bls, app_key, s_nil, s_cons, nx_nx, nx_rt, nx_bk, nx_ct, s_asg, s_unp, s_par, s_fld, s_app, s_bset, s_expr, s_ret, s_retN, s_ifs, s_for, s_while, s_pass, s_brk, s_cont, res_rt, res_nx, self_nx, ret_bnd, fail_bnd, bnd_assoc, seq_bnd, opt_s, opt_n, gV_0, gV_s, glo_c, fls_nil, fls_cons, hass_nil, hass_cons, fl_int, fl_bl, fl_str, fl_non, fl_bag, fl_lst, fl_tup, fl_ins, has_int, has_bl, has_str, has_non, has_bag, has_lst, has_tup, has_ins, fz_own, fz_sh, fz_brw, bw_own, bw_sh, bw_brw, ub_own, ub_sh, ub_brw, so_own, so_sh, so_brw, tt_own, tt_sh, tt_brw, keep_f, keeps_f, keep_t, keeps_t, attr_prop, attr_fld, meth_m, methk_m, mul_m, add_m, sub_m, eq_m, ne_m, tru_m, bool_m, fl_rowL, fl_rowT, has_rowL, has_rowT, fl_tabL, fl_tabT, has_tabLt, has_tabTt, hb_L_sh, hb_L_own, hb_T_sh, hb_T_own, ite_self, fls_ints, hass_ints, fls_im, hass_im, fls_rowL, fls_rowT, List.set_cons_zero, List.set_cons_succ, wipeE, setsE, tgE, ITg.ix, giveE, IE.vars, IEs.vars, reduceCtorEq, decide_false, decide_true, Bool.or_false, Bool.false_or, Bool.or_true, Bool.true_or, Bool.and_true, Bool.true_and, Bool.and_false, Bool.false_and, Bool.not_true, Bool.not_false, if_true, if_false, ite_true, ite_false, Bool.false_eq_true, ne_eq, not_false_eq_true, not_true_eq_false, List.cons_append, List.nil_append, List.append_nil, List.mem_cons, List.not_mem_nil, or_false, false_or, or_true, true_or, Nat.reduceEqDiff, Nat.reduceAdd, eq_self, and_self, and_true, true_and, Option.map_some, Option.map_none, List.getElem?_cons_zero, List.getElem?_cons_succ, items_rowT]
    · simp only [v_var, v_int, v_str, v_bl, v_non, v_bin, v_neg, v_not, v_bop, v_ife, v_cmp, v_cmp2, v_call, v_scall_s, v_meth, v_methk, v_attr, v_blt, v_isi, v_lst, v_tup, v_idx, v_sl, p_no, p_part, v_lc, v_lcif, v_lc2, i_seq, i_range1, i_range2, i_zip, i_enum, evs_nil, evs_cons, t_not, t_bop, t_ife, t_var, t_bl, t_cmp, t_cmp2, t_call, t_scall, t_meth, t_methk, t_attr, t_blt, t_isi, t_lc, t_idx, t_bin, bopT_and_t, bopT_and_f, bopT_or_t, bopT_or_f, bopM_and_t, bopM_and_f, bopM_or_t, bopM_or_f, tru_bl, tru_int, tru_lst, tru_tup, neg_int, part_int, add_int, sub_int, lt_int, le_int, gt_int, ge_int, eq_int, ne_int, eq_bl, ne_bl, cmpI_lt, cmpI_le, len_lst, len_tup, int_int, int_bl, list_lst, list_tup, tuple_lst, sum_ints, all_bls, any_bls, app_key, s_nil, s_cons, nx_nx, nx_rt, nx_bk, nx_ct, s_asg, s_unp, s_par, s_fld, s_app, s_bset, s_expr, s_ret, s_retN, s_ifs, s_for, s_while, s_pass, s_brk, s_cont, res_rt, res_nx, self_nx, ret_bnd, fail_bnd, bnd_assoc, seq_bnd, opt_s, opt_n, gV_0, gV_s, glo_c, fls_nil, fls_cons, hass_nil, hass_cons, fl_int, fl_bl, fl_str, fl_non, fl_bag, fl_lst, fl_tup, fl_ins, has_int, has_bl, has_str, has_non, has_bag, has_lst, has_tup, has_ins, fz_own, fz_sh, fz_brw, bw_own, bw_sh, bw_brw, ub_own, ub_sh, ub_brw, so_own, so_sh, so_brw, tt_own, tt_sh, tt_brw, keep_f, keeps_f, keep_t, keeps_t, attr_prop, attr_fld, meth_m, methk_m, mul_m, add_m, sub_m, eq_m, ne_m, tru_m, bool_m, fl_rowL, fl_rowT, has_rowL, has_rowT, fl_tabL, fl_tabT, has_tabLt, has_tabTt, hb_L_sh, hb_L_own, hb_T_sh, hb_T_own, ite_self, fls_ints, hass_ints, fls_im, hass_im, fls_rowL, fls_rowT, List.set_cons_zero, List.set_cons_succ, wipeE, setsE, tgE, ITg.ix, giveE, IE.vars, IEs.vars, reduceCtorEq, decide_false, decide_true, Bool.or_false, Bool.false_or, Bool.or_true, Bool.true_or, Bool.and_true, Bool.true_and, Bool.and_false, Bool.false_and, Bool.not_true, Bool.not_false, if_true, if_false, ite_true, ite_false, Bool.false_eq_true, ne_eq, not_false_eq_true, not_true_eq_false, List.cons_append, List.nil_append, List.append_nil, List.mem_cons, List.not_mem_nil, or_false, false_or, or_true, true_or, Nat.reduceEqDiff, Nat.reduceAdd, eq_self, and_self, and_true, true_and, Option.map_some, Option.map_none, List.getElem?_cons_zero, List.getElem?_cons_succ]
  · rw [flatMap_bl]
    simp only [any_bls, v_var, v_int, v_str, v_bl, v_non, v_bin, v_neg, v_not, v_bop, v_ife, v_cmp, v_cmp2, v_call, v_scall_s, v_meth, v_methk, v_attr, v_blt, v_isi, v_lst, v_tup, v_idx, v_sl, p_no, p_part, v_lc, v_lcif, v_lc2, i_seq, i_range1, i_range2, i_zip, i_enum, evs_nil, evs_cons, t_not, t_bop, t_ife, t_var, t_bl, t_cmp, t_cmp2, t_call, t_scall, t_meth, t_methk, t_attr, t_blt, t_isi, t_lc, t_idx, t_bin, bopT_and_t, bopT_and_f, bopT_or_t, bopT_or_f, bopM_and_t, bopM_and_f, bopM_or_t, bopM_or_f, tru_bl, tru_int, tru_lst, tru_tup, neg_int, part_int, add_int, sub_int, lt_int, le_int, gt_int, ge_int, eq_int, ne_int, eq_bl, ne_bl, cmpI_lt, cmpI_le, len_lst, len_tup, int_int, int_bl, list_lst, list_tup, tuple_lst, sum_ints, all_bls, any_bls, app_key, s_nil, s_cons, nx_nx, nx_rt, nx_bk, nx_ct, s_asg, s_unp, s_par, s_fld, s_app, s_bset, s_expr, s_ret, s_retN, s_ifs, s_for, s_while, s_pass, s_brk, s_cont, res_rt, res_nx, self_nx, ret_bnd, fail_bnd, bnd_assoc, seq_bnd, opt_s, opt_n, gV_0, gV_s, glo_c, fls_nil, fls_cons, hass_nil, hass_cons, fl_int, fl_bl, fl_str, fl_non, fl_bag, fl_lst, fl_tup, fl_ins, has_int, has_bl, has_str, has_non, has_bag, has_lst, has_tup, has_ins, fz_own, fz_sh, fz_brw, bw_own, bw_sh, bw_brw, ub_own, ub_sh, ub_brw, so_own, so_sh, so_brw, tt_own, tt_sh, tt_brw, keep_f, keeps_f, keep_t, keeps_t, attr_prop, attr_fld, meth_m, methk_m, mul_m, add_m, sub_m, eq_m, ne_m, tru_m, bool_m, fl_rowL, fl_rowT, has_rowL, has_rowT, fl_tabL, fl_tabT, has_tabLt, has_tabTt, hb_L_sh, hb_L_own, hb_T_sh, hb_T_own, ite_self, fls_ints, hass_ints, fls_im, hass_im, fls_rowL, fls_rowT, List.set_cons_zero, List.set_cons_succ, wipeE, setsE, tgE, ITg.ix, giveE, IE.vars, IEs.vars, reduceCtorEq, decide_false, decide_true, Bool.or_false, Bool.false_or, Bool.or_true, Bool.true_or, Bool.and_true, Bool.true_and, Bool.and_false, Bool.false_and, Bool.not_true, Bool.not_false, if_true, if_false, ite_true, ite_false, Bool.false_eq_true, ne_eq, not_false_eq_true, not_true_eq_false, List.cons_append, List.nil_append, List.append_nil, List.mem_cons, List.not_mem_nil, or_false, false_or, or_true, true_or, Nat.reduceEqDiff, Nat.reduceAdd, eq_self, and_self, and_true, true_and, Option.map_some, Option.map_none, List.getElem?_cons_zero, List.getElem?_cons_succ]
    congr 2
    rw [Bool.eq_iff_iff]
    simp only [Bool.not_eq_true', decide_eq_false_iff_not, tab_eq, List.any_eq_true, List.mem_flatMap, List.mem_map, List.mem_range, id]
    constructor
    · rintro ⟨_, ⟨r, hr, c, hc, rfl⟩, h⟩ q
      simp [q r c (by omega) hr] at h
    · intro h
      refine Classical.byContradiction fun q => h fun r c hc hr => ?_
      refine Classical.byContradiction fun q2 => q ⟨_, ⟨r, hr, c, by omega, rfl⟩, ?_⟩
      simpa using q2
theorem nt_back : (("back" : Str) = ("table" : Str)) = False := eq_false (by decide)
theorem nt_turned : (("turned" : Str) = ("table" : Str)) = False := eq_false (by decide)
theorem nt_crossed : (("crossed" : Str) = ("table" : Str)) = False := eq_false (by decide)
theorem nt_rows : (("rows" : Str) = ("table" : Str)) = False := eq_false (by decide)
theorem nt_times : (("times" : Str) = ("table" : Str)) = False := eq_false (by decide)
theorem nt_on : (("on" : Str) = ("table" : Str)) = False := eq_false (by decide)
theorem nt_number : (("number" : Str) = ("table" : Str)) = False := eq_false (by decide)
theorem nt_first : (("first" : Str) = ("table" : Str)) = False := eq_false (by decide)
theorem nt_text : (("text" : Str) = ("table" : Str)) = False := eq_false (by decide)
theorem nt_rest : (("rest" : Str) = ("table" : Str)) = False := eq_false (by decide)
theorem deed_meth {m key : Str} [h : HasA P "Deed" m (.meth key)] (f : Fl) (N : Nat) (e : Ta) (as : M (List D)) (hn : m ∉ [("table" : Str)]) : methM P cl (deedD f N e) m as = bnd as fun ds => app cl key (deedD f N e :: ds) := meth_m f _ as hn
theorem deed_methk {m k key : Str} {ps : List Str} [h : HasA P "Deed" m (.meth key)] [p : HasP P key ps] (f : Fl) (N : Nat) (e : Ta) (a : M D) (hn : m ∉ [("table" : Str)]) (hk : ps.drop 1 = [k]) : methK P cl (deedD f N e) m k a = bnd a fun d => app cl key [deedD f N e, d] := methk_m f _ a ⟨hk, hn⟩
theorem deed_prop {m key : Str} [h : HasA P "Deed" m (.prop key)] (f : Fl) (N : Nat) (e : Ta) : attrM P cl (deedD f N e) m = app cl key [deedD f N e] := attr_prop f _ _
theorem deed_tab [h : HasA P "Deed" "table" .fld] (f : Fl) (N : Nat) (e : Ta) : attrM P cl (deedD f N e) "table" = ret (tabT f f (tab N e)) := by
  unfold deedD
  rw [attr_fld]; rfl
theorem deed_mulM [h : HasA P "Deed" "__mul__" (.meth "Deed.__mul__")] (f g : Fl) (N M : Nat) (e e' : Ta) : binM P cl .Mult (deedD f N e) (deedD g M e') = app cl "Deed.__mul__" [deedD f N e, deedD g M e'] := mul_m f g _ _ _ _
theorem deed_eqM [h : HasA P "Deed" "__eq__" (.meth "Deed.__eq__")] (f g : Fl) (N M : Nat) (e e' : Ta) : cmpM P cl .Eq (deedD f N e) (deedD g M e') = bnd (appB cl "Deed.__eq__" [deedD f N e, deedD g M e']) fun k => ret (.bl k) := eq_m f g _ _ _ _
theorem deed_neM [h : HasA P "Deed" "__eq__" (.meth "Deed.__eq__")] (f g : Fl) (N M : Nat) (e e' : Ta) : cmpM P cl .NotEq (deedD f N e) (deedD g M e') = bnd (appB cl "Deed.__eq__" [deedD f N e, deedD g M e']) fun k => ret (.bl (!k)) := ne_m f g _ _ _ _
theorem deed_truM [h : HasA P "Deed" "__bool__" (.meth "Deed.__bool__")] (f : Fl) (N : Nat) (e : Ta) : truM P cl (deedD f N e) = appB cl "Deed.__bool__" [deedD f N e] := tru_m f _ _
theorem deed_boolM [h : HasA P "Deed" "__bool__" (.meth "Deed.__bool__")] (f : Fl) (N : Nat) (e : Ta) : bltM P cl "bool" [deedD f N e] = bnd (appB cl "Deed.__bool__" [deedD f N e]) fun k => ret (.bl k) := bool_m f _ _
/-- an own def that hands back a bool, of whom it is known what it does with the shared arguments -/
theorem appB_key (key : Str) (ds : List D) : appB cl key ds = bnd (cl key (D.fls Fl.fz ds)) fun r => match (if D.hass .brw ds then r.tt else r) with
    | .bl k => ret k
    | _ => fail := by
  unfold appB
  rw [app_key, bnd_assoc]; rfl
section
variable [HasC P "MOST_SIZE" (.int 4)] [HasA P "Deed" "table" .fld] [Has P d_Deed] [Has P d_is_rows] [Has P d_is_list] [Has P d_is_number] [Has P d_Deed__mul] [Has P d_behind] [Has P d_entry_behind] [Has P d_Deed_size] [Has P d_Deed_back] [Has P d_inverse]
variable [HasA P "Deed" "size" (.prop "Deed.size")] [HasA P "Deed" "back" (.meth "Deed.back")] [HasA P "Deed" "__mul__" (.meth "Deed.__mul__")]
theorem dd (f : Fl) (N : Nat) (e : Ta) : D.ins f "Deed" ["table"] [tabT f f (tab N e)] = deedD f N e := nr rfl
def turnE (e f : Ta) : Ta := mulE (mulE (invE f) e) f
def crossE (e f : Ta) : Ta := mulE (mulE (mulE (invE e) (invE f)) e) f
theorem Tb.turn {N a b : Nat} {e f : Ta} (hN : N ≤ 4) (he : Tb N a e) (hf : Tb N b f) : Tb N (4 * (b + 2) + a + 3 + b + 3) (turnE e f) := Tb.mul hN (Tb.mul hN (Tb.inv hN hf) he) hf
theorem Tb.cross {N a b : Nat} {e f : Ta} (hN : N ≤ 4) (he : Tb N a e) (hf : Tb N b f) : Tb N (4 * (a + 2) + 4 * (b + 2) + 3 + a + 3 + b + 3) (crossE e f) := Tb.mul hN (Tb.mul hN (Tb.mul hN (Tb.inv hN he) (Tb.inv hN hf)) he) hf
theorem turned_ok [Has P d_Deed_turned] {N a b : Nat} {e f : Ta} (h1 : 1 ≤ N) (h4 : N ≤ 4) (he : Tb N a e) (hf : Tb N b f) (hb : 4 * (b + 2) + a + 3 ≤ 400000) :
    callP P W noP (n + 5) "Deed.turned" [deedD .sh N e, deedD .sh N f] = ret (deedD .own N (turnE e f)) := by
  rw [c_Deed_turned]
  have q1 := back_ok (P := P) (W := W) (n := n) h1 h4 hf (by omega)
  have q2 := deed_mul (P := P) (W := W) (n := n) h1 h4 (Tb.inv h4 hf) he (by omega) (by omega)
  have q3 := deed_mul (P := P) (W := W) (n := n) h1 h4 (Tb.mul h4 (Tb.inv h4 hf) he) hf (by omega) (by omega)
  simp only [b_Deed_turned, v_var, v_int, v_str, v_bl, v_non, v_bin, v_neg, v_not, v_bop, v_ife, v_cmp, v_cmp2, v_call, v_scall_s, v_meth, v_methk, v_attr, v_blt, v_isi, v_lst, v_tup, v_idx, v_sl, p_no, p_part, v_lc, v_lcif, v_lc2, i_seq, i_range1, i_range2, i_zip, i_enum, evs_nil, evs_cons, t_not, t_bop, t_ife, t_var, t_bl, t_cmp, t_cmp2, t_call, t_scall, t_meth, t_methk, t_attr, t_blt, t_isi, t_lc, t_idx, t_bin, bopT_and_t, bopT_and_f, bopT_or_t, bopT_or_f, bopM_and_t, bopM_and_f, bopM_or_t, bopM_or_f, tru_bl, tru_int, tru_lst, tru_tup, neg_int, part_int, add_int, sub_int, lt_int, le_int, gt_int, ge_int, eq_int, ne_int, eq_bl, ne_bl, cmpI_lt, cmpI_le, len_lst, len_tup, int_int, int_bl, list_lst, list_tup, tuple_lst, sum_ints, all_bls, any_bls, app_key, s_nil, s_cons, nx_nx, nx_rt, nx_bk, nx_ct, s_asg, s_unp, s_par, s_fld, s_app, s_bset, s_expr, s_ret, s_retN, s_ifs, s_for, s_while, s_pass, s_brk, s_cont, res_rt, res_nx, self_nx, ret_bnd, fail_bnd, bnd_assoc, seq_bnd, opt_s, opt_n, gV_0, gV_s, glo_c, fls_nil, fls_cons, hass_nil, hass_cons, fl_int, fl_bl, fl_str, fl_non, fl_bag, fl_lst, fl_tup, fl_ins, has_int, has_bl, has_str, has_non, has_bag, has_lst, has_tup, has_ins, fz_own, fz_sh, fz_brw, bw_own, bw_sh, bw_brw, ub_own, ub_sh, ub_brw, so_own, so_sh, so_brw, tt_own, tt_sh, tt_brw, keep_f, keeps_f, keep_t, keeps_t, attr_prop, attr_fld, meth_m, methk_m, mul_m, add_m, sub_m, eq_m, ne_m, tru_m, bool_m, fl_rowL, fl_rowT, has_rowL, has_rowT, fl_tabL, fl_tabT, has_tabLt, has_tabTt, hb_L_sh, hb_L_own, hb_T_sh, hb_T_own, ite_self, fls_ints, hass_ints, fls_im, hass_im, fls_rowL, fls_rowT, List.set_cons_zero, List.set_cons_succ, wipeE, setsE, tgE, ITg.ix, giveE, IE.vars, IEs.vars, reduceCtorEq, decide_false, decide_true, Bool.or_false, Bool.false_or, Bool.or_true, Bool.true_or, Bool.and_true, Bool.true_and, Bool.and_false, Bool.false_and, Bool.not_true, Bool.not_false, if_true, if_false, ite_true, ite_false, Bool.false_eq_true, ne_eq, not_false_eq_true, not_true_eq_false, List.cons_append, List.nil_append, List.append_nil, List.mem_cons, List.not_mem_nil, or_false, false_or, or_true, true_or, Nat.reduceEqDiff, Nat.reduceAdd, eq_self, and_self, and_true, true_and, Option.map_some, Option.map_none, List.getElem?_cons_zero, List.getElem?_cons_succ, deed_meth, deed_methk, deed_prop, deed_tab, deed_mulM, deed_eqM, deed_neM, deed_truM, deed_boolM, appB_key, fl_deed, hb_deed_own, hb_deed_sh, hb_deed_brw, nt_back, nt_turned, nt_crossed, nt_rows, nt_times, nt_on, nt_number, nt_first, nt_text, nt_rest, q1, q2, q3, turnE]
theorem crossed_ok [Has P d_Deed_crossed] {N a b : Nat} {e f : Ta} (h1 : 1 ≤ N) (h4 : N ≤ 4) (he : Tb N a e) (hf : Tb N b f) (hb : 4 * (a + 2) + 4 * (b + 2) + 3 + a + 3 ≤ 400000) :
    callP P W noP (n + 5) "Deed.crossed" [deedD .sh N e, deedD .sh N f] = ret (deedD .own N (crossE e f)) := by
  rw [c_Deed_crossed]
  have q0 := back_ok (P := P) (W := W) (n := n) h1 h4 he (by omega)
  have q1 := back_ok (P := P) (W := W) (n := n) h1 h4 hf (by omega)
  have q2 := deed_mul (P := P) (W := W) (n := n) h1 h4 (Tb.inv h4 he) (Tb.inv h4 hf) (by omega) (by omega)
  have q3 := deed_mul (P := P) (W := W) (n := n) h1 h4 (Tb.mul h4 (Tb.inv h4 he) (Tb.inv h4 hf)) he (by omega) (by omega)
  have q4 := deed_mul (P := P) (W := W) (n := n) h1 h4 (Tb.mul h4 (Tb.mul h4 (Tb.inv h4 he) (Tb.inv h4 hf)) he) hf (by omega) (by omega)
  simp only [b_Deed_crossed, v_var, v_int, v_str, v_bl, v_non, v_bin, v_neg, v_not, v_bop, v_ife, v_cmp, v_cmp2, v_call, v_scall_s, v_meth, v_methk, v_attr, v_blt, v_isi, v_lst, v_tup, v_idx, v_sl, p_no, p_part, v_lc, v_lcif, v_lc2, i_seq, i_range1, i_range2, i_zip, i_enum, evs_nil, evs_cons, t_not, t_bop, t_ife, t_var, t_bl, t_cmp, t_cmp2, t_call, t_scall, t_meth, t_methk, t_attr, t_blt, t_isi, t_lc, t_idx, t_bin, bopT_and_t, bopT_and_f, bopT_or_t, bopT_or_f, bopM_and_t, bopM_and_f, bopM_or_t, bopM_or_f, tru_bl, tru_int, tru_lst, tru_tup, neg_int, part_int, add_int, sub_int, lt_int, le_int, gt_int, ge_int, eq_int, ne_int, eq_bl, ne_bl, cmpI_lt, cmpI_le, len_lst, len_tup, int_int, int_bl, list_lst, list_tup, tuple_lst, sum_ints, all_bls, any_bls, app_key, s_nil, s_cons, nx_nx, nx_rt, nx_bk, nx_ct, s_asg, s_unp, s_par, s_fld, s_app, s_bset, s_expr, s_ret, s_retN, s_ifs, s_for, s_while, s_pass, s_brk, s_cont, res_rt, res_nx, self_nx, ret_bnd, fail_bnd, bnd_assoc, seq_bnd, opt_s, opt_n, gV_0, gV_s, glo_c, fls_nil, fls_cons, hass_nil, hass_cons, fl_int, fl_bl, fl_str, fl_non, fl_bag, fl_lst, fl_tup, fl_ins, has_int, has_bl, has_str, has_non, has_bag, has_lst, has_tup, has_ins, fz_own, fz_sh, fz_brw, bw_own, bw_sh, bw_brw, ub_own, ub_sh, ub_brw, so_own, so_sh, so_brw, tt_own, tt_sh, tt_brw, keep_f, keeps_f, keep_t, keeps_t, attr_prop, attr_fld, meth_m, methk_m, mul_m, add_m, sub_m, eq_m, ne_m, tru_m, bool_m, fl_rowL, fl_rowT, has_rowL, has_rowT, fl_tabL, fl_tabT, has_tabLt, has_tabTt, hb_L_sh, hb_L_own, hb_T_sh, hb_T_own, ite_self, fls_ints, hass_ints, fls_im, hass_im, fls_rowL, fls_rowT, List.set_cons_zero, List.set_cons_succ, wipeE, setsE, tgE, ITg.ix, giveE, IE.vars, IEs.vars, reduceCtorEq, decide_false, decide_true, Bool.or_false, Bool.false_or, Bool.or_true, Bool.true_or, Bool.and_true, Bool.true_and, Bool.and_false, Bool.false_and, Bool.not_true, Bool.not_false, if_true, if_false, ite_true, ite_false, Bool.false_eq_true, ne_eq, not_false_eq_true, not_true_eq_false, List.cons_append, List.nil_append, List.append_nil, List.mem_cons, List.not_mem_nil, or_false, false_or, or_true, true_or, Nat.reduceEqDiff, Nat.reduceAdd, eq_self, and_self, and_true, true_and, Option.map_some, Option.map_none, List.getElem?_cons_zero, List.getElem?_cons_succ, deed_meth, deed_methk, deed_prop, deed_tab, deed_mulM, deed_eqM, deed_neM, deed_truM, deed_boolM, appB_key, fl_deed, hb_deed_own, hb_deed_sh, hb_deed_brw, nt_back, nt_turned, nt_crossed, nt_rows, nt_times, nt_on, nt_number, nt_first, nt_text, nt_rest, q0, q1, q2, q3, q4, crossE]
end
end
end TI.TL

set_option Elab.async false
set_option linter.all false
set_option maxRecDepth 100000
set_option maxHeartbeats 2000000
/-! deeds as what they do with states: the group -/
namespace TI.TL
open PySem PySem.Spec PyProof.Rows L2
abbrev Sa := Nat → Int
theorem sumN_congr {f g : Nat → Int} : ∀ {n : Nat}, (∀ j, j < n → f j = g j) → sumN f n = sumN g n
  | 0, _ => rfl
  | n + 1, h => by rw [sumN, sumN, sumN_congr fun j hj => h j (by omega), h n (by omega)]
theorem sumN_add (f g : Nat → Int) : ∀ n, sumN (fun j => f j + g j) n = sumN f n + sumN g n
  | 0 => rfl
  | n + 1 => by rw [sumN, sumN, sumN, sumN_add f g n]; omega
theorem sumN_mulr (f : Nat → Int) (c : Int) : ∀ n, sumN (fun j => f j * c) n = sumN f n * c
  | 0 => by simp [sumN]
  | n + 1 => by rw [sumN, sumN, sumN_mulr f c n, Int.add_mul]
theorem sumN_mull (f : Nat → Int) (c : Int) : ∀ n, sumN (fun j => c * f j) n = c * sumN f n
  | 0 => by simp [sumN]
  | n + 1 => by rw [sumN, sumN, sumN_mull f c n, Int.mul_add]
theorem sumN_zero : ∀ n, sumN (fun _ => 0) n = 0
  | 0 => rfl
  | n + 1 => by rw [sumN, sumN_zero n]; rfl
theorem sumN_z {f : Nat → Int} {n : Nat} (h : ∀ j, j < n → f j = 0) : sumN f n = 0 := by rw [sumN_congr h, sumN_zero]
theorem sumN_one {f : Nat → Int} {n c : Nat} (hc : c < n) (h : ∀ j, j < n → j ≠ c → f j = 0) : sumN f n = f c := by
  induction n with
  | zero => omega
  | succ n ih =>
    rw [sumN]
    by_cases q : c = n
    · subst q
      rw [sumN_z fun j hj => h j (by omega) (by omega)]; omega
    · rw [ih (by omega) fun j hj hne => h j (by omega) hne, h n (by omega) (by omega)]; omega
theorem sumN_swap (g : Nat → Nat → Int) : ∀ n, sumN (fun j => sumN (g j) j) n = sumN (fun i => sumN (fun k => g (i + 1 + k) i) (n - (i + 1))) n
  | 0 => rfl
  | n + 1 => by
    rw [sumN, sumN, sumN_swap g n, Nat.sub_self]
    have e : sumN (fun i => sumN (fun k => g (i + 1 + k) i) (n + 1 - (i + 1))) n = sumN (fun i => sumN (fun k => g (i + 1 + k) i) (n - (i + 1)) + g n i) n := by
      refine sumN_congr fun i hi => ?_
      have e1 : n + 1 - (i + 1) = (n - (i + 1)) + 1 := by omega
      rw [e1, sumN, show i + 1 + (n - (i + 1)) = n by omega]
    rw [e, sumN_add]
    simp only [sumN]
    omega
/-- what a deed does with a state -/
def act (e : Ta) (s : Sa) : Sa := fun r => s r + e r 0 + sumN (fun j => e r (j + 1) * s j) r
theorem mulE_eq (e f : Ta) (r c : Nat) : mulE e f r c = e r c + f r c + sumN (fun j => f r (c + j + 1) * e (c + j) c) (r - c) := accN_eq _ _ _
theorem act_mul (e f : Ta) (s : Sa) (r : Nat) : act (mulE e f) s r = act f (act e s) r := by
  have h1 : sumN (fun j => f r (j + 1) * act e s j) r = sumN (fun j => f r (j + 1) * s j) r + sumN (fun j => f r (j + 1) * e j 0) r + sumN (fun j => sumN (fun i => f r (j + 1) * (e j (i + 1) * s i)) j) r := by
    rw [← sumN_add, ← sumN_add]
    refine sumN_congr fun j hj => ?_
    rw [sumN_mull]
    unfold act
    rw [Int.mul_add, Int.mul_add]
  rw [sumN_swap] at h1
  have h2 : sumN (fun j => mulE e f r (j + 1) * s j) r = sumN (fun j => e r (j + 1) * s j) r + sumN (fun j => f r (j + 1) * s j) r + sumN (fun i => sumN (fun k => f r (i + 1 + k + 1) * (e (i + 1 + k) (i + 1) * s i)) (r - (i + 1))) r := by
    rw [← sumN_add, ← sumN_add]
    refine sumN_congr fun j hj => ?_
    rw [mulE_eq, Int.add_mul, Int.add_mul, ← sumN_mulr]
    congr 1
    exact sumN_congr fun k hk => Int.mul_assoc _ _ _
  have h3 : mulE e f r 0 = e r 0 + f r 0 + sumN (fun j => f r (j + 1) * e j 0) r := by
    rw [mulE_eq]
    congr 1
    exact sumN_congr fun j hj => by rw [Nat.zero_add]
  have h0 : act f (act e s) r = act e s r + f r 0 + sumN (fun j => f r (j + 1) * act e s j) r := rfl
  rw [h0, h1]
  have h4 : act (mulE e f) s r = s r + mulE e f r 0 + sumN (fun j => mulE e f r (j + 1) * s j) r := rfl
  rw [h4, h2, h3]
  have h5 : act e s r = s r + e r 0 + sumN (fun j => e r (j + 1) * s j) r := rfl
  rw [h5]
  omega
def EqT (N : Nat) (e f : Ta) : Prop := ∀ r c, c ≤ r → r < N → e r c = f r c
def EqS (N : Nat) (s t : Sa) : Prop := ∀ r, r < N → s r = t r
theorem act_congr {N : Nat} {e f : Ta} {s t : Sa} (h : EqT N e f) (hs : EqS N s t) : EqS N (act e s) (act f t) := fun r hr => by
  unfold act
  rw [hs r hr, h r 0 (by omega) hr, sumN_congr (g := fun j => f r (j + 1) * t j) fun j hj => by rw [h r (j + 1) (by omega) hr, hs j (by omega)]]
theorem EqS.refl (N : Nat) (s : Sa) : EqS N s s := fun _ _ => rfl
theorem EqS.symm {N : Nat} {s t : Sa} (h : EqS N s t) : EqS N t s := fun r hr => (h r hr).symm
theorem EqS.trans {N : Nat} {s t u : Sa} (h : EqS N s t) (k : EqS N t u) : EqS N s u := fun r hr => (h r hr).trans (k r hr)
theorem EqT.refl (N : Nat) (s : Ta) : EqT N s s := fun _ _ _ _ => rfl
theorem EqT.symm {N : Nat} {s t : Ta} (h : EqT N s t) : EqT N t s := fun r c hc hr => (h r c hc hr).symm
theorem EqT.trans {N : Nat} {s t u : Ta} (h : EqT N s t) (k : EqT N t u) : EqT N s u := fun r c hc hr => (h r c hc hr).trans (k r c hc hr)
theorem act_inj {N : Nat} {e : Ta} {s t : Sa} (h : EqS N (act e s) (act e t)) : EqS N s t := by
  intro r
  induction r using Nat.strongRecOn with
  | ind r ih =>
    intro hr
    have h1 := h r hr
    unfold act at h1
    rw [sumN_congr (f := fun j => e r (j + 1) * s j) (g := fun j => e r (j + 1) * t j) fun j hj => by rw [ih j hj (by omega)]] at h1
    omega
/-- the state of zeros, the states with one 1 -/
def unitS : Nat → Sa
  | 0 => fun _ => 0
  | c + 1 => fun r => if r = c then 1 else 0
/-- a table read off from what becomes of those -/
def rdE (E : Nat → Sa) : Ta := fun r c => match c with
  | 0 => E 0 r
  | c + 1 => E (c + 1) r - E 0 r
theorem act_unit0 (e : Ta) (r : Nat) : act e (unitS 0) r = e r 0 := by
  unfold act
  rw [sumN_z fun j hj => by simp [unitS]]
  simp [unitS]
theorem act_unit (e : Ta) {r c : Nat} (h : c < r) : act e (unitS (c + 1)) r = e r 0 + e r (c + 1) := by
  unfold act
  rw [sumN_one h fun j hj hne => by simp [unitS, hne]]
  have : r ≠ c := by omega
  simp [unitS, this]
theorem rd_act (N : Nat) (e : Ta) : EqT N (rdE fun i => act e (unitS i)) e := fun r c hc hr => by
  cases c with
  | zero => exact act_unit0 e r
  | succ c =>
    show act e (unitS (c + 1)) r - act e (unitS 0) r = _
    rw [act_unit e (by omega), act_unit0]; omega
theorem rd_congr {N : Nat} {E F : Nat → Sa} (h : ∀ i, i ≤ N → EqS N (E i) (F i)) : EqT N (rdE E) (rdE F) := fun r c hc hr => by
  cases c with
  | zero => exact h 0 (by omega) r hr
  | succ c =>
    show E (c + 1) r - E 0 r = F (c + 1) r - F 0 r
    rw [h (c + 1) (by omega) r hr, h 0 (by omega) r hr]
theorem act_ext {N : Nat} {e f : Ta} (h : ∀ s, EqS N (act e s) (act f s)) : EqT N e f :=
  ((rd_act N e).symm.trans (rd_congr fun i _ => h (unitS i))).trans (rd_act N f)
theorem act_zero (s : Sa) (r : Nat) : act (fun _ _ => 0) s r = s r := by
  unfold act
  rw [sumN_z fun j _ => Int.zero_mul _]
  simp
theorem inv_mul (e : Ta) (r c : Nat) : mulE (invE e) e r c = 0 := by
  have h := invE_eq e r c
  rw [accN_eq] at h
  rw [mulE_eq]
  omega
theorem act_inv (N : Nat) (e : Ta) (s : Sa) : EqS N (act e (act (invE e) s)) s := fun r hr => by
  rw [← act_mul]
  have := act_congr (N := r + 1) (e := mulE (invE e) e) (f := fun _ _ => 0) (s := s) (fun r c _ _ => inv_mul e r c) (EqS.refl _ s) r (by omega)
  rw [this, act_zero]
theorem inv_act (N : Nat) (e : Ta) (s : Sa) : EqS N (act (invE e) (act e s)) s := act_inj (e := e) (act_inv N e (act e s))
theorem mul_congr {N : Nat} {e e' f f' : Ta} (h : EqT N e e') (k : EqT N f f') : EqT N (mulE e f) (mulE e' f') := act_ext fun s => by
  intro r hr
  rw [act_mul, act_mul]
  exact act_congr k (act_congr h (EqS.refl _ s)) r hr
theorem inv_congr {N : Nat} {e e' : Ta} (h : EqT N e e') : EqT N (invE e) (invE e') := act_ext fun s =>
  act_inj (e := e) ((act_inv N e s).trans ((act_inv N e' s).symm.trans (act_congr h.symm (EqS.refl _ _))))
theorem mul_assoc' (N : Nat) (e f g : Ta) : EqT N (mulE (mulE e f) g) (mulE e (mulE f g)) := act_ext fun s r hr => by
  rw [act_mul (mulE e f) g, act_mul e (mulE f g), act_mul f g]
  exact act_congr (EqT.refl _ g) (fun r _ => act_mul e f s r) r hr
theorem one_mul' (N : Nat) (e : Ta) : EqT N (mulE (fun _ _ => 0) e) e := act_ext fun s r hr => by
  rw [act_mul]
  exact act_congr (EqT.refl _ e) (fun r _ => act_zero s r) r hr
theorem mul_one' (N : Nat) (e : Ta) : EqT N (mulE e fun _ _ => 0) e := act_ext fun s r hr => by
  rw [act_mul, act_zero]
theorem inv_mul' (N : Nat) (e : Ta) : EqT N (mulE (invE e) e) fun _ _ => 0 := fun r c _ _ => inv_mul e r c
theorem mul_inv' (N : Nat) (e : Ta) : EqT N (mulE e (invE e)) fun _ _ => 0 := act_ext fun s r hr => by
  rw [act_mul, act_zero]
  exact inv_act N e s r hr
/-! deeds of a size as a group -/
/-- tables alike -/
def TaS (N : Nat) : Setoid Ta := ⟨EqT N, EqT.refl N, EqT.symm, EqT.trans⟩
def Gr (N : Nat) : Type := Quotient (TaS N)
def Gr.mk (N : Nat) (e : Ta) : Gr N := Quotient.mk (TaS N) e
namespace Gr
variable {N : Nat}
def mul (a b : Gr N) : Gr N := Quotient.lift₂ (fun e f => mk N (mulE e f)) (fun _ _ _ _ h k => Quotient.sound (s := TaS N) (mul_congr h k)) a b
def inv (a : Gr N) : Gr N := Quotient.lift (fun e => mk N (invE e)) (fun _ _ h => Quotient.sound (s := TaS N) (inv_congr h)) a
instance : Mul (Gr N) := ⟨mul⟩
instance : Inv (Gr N) := ⟨inv⟩
instance : OfNat (Gr N) 1 := ⟨mk N fun _ _ => 0⟩
theorem mk_mul (e f : Ta) : mk N (mulE e f) = mk N e * mk N f := rfl
theorem mk_inv (e : Ta) : mk N (invE e) = (mk N e)⁻¹ := rfl
theorem mk_one : mk N (fun _ _ => 0) = 1 := rfl
theorem mk_eq {e f : Ta} : mk N e = mk N f ↔ EqT N e f := ⟨fun h => Quotient.exact (s := TaS N) h, fun h => Quotient.sound (s := TaS N) h⟩
theorem assoc (a b c : Gr N) : a * b * c = a * (b * c) := Quotient.inductionOn₃ a b c fun e f g => Quotient.sound (s := TaS N) (mul_assoc' N e f g)
theorem one_m (a : Gr N) : 1 * a = a := Quotient.inductionOn a fun e => Quotient.sound (s := TaS N) (one_mul' N e)
theorem m_one (a : Gr N) : a * 1 = a := Quotient.inductionOn a fun e => Quotient.sound (s := TaS N) (mul_one' N e)
theorem inv_m (a : Gr N) : a⁻¹ * a = 1 := Quotient.inductionOn a fun e => Quotient.sound (s := TaS N) (inv_mul' N e)
theorem m_inv (a : Gr N) : a * a⁻¹ = 1 := Quotient.inductionOn a fun e => Quotient.sound (s := TaS N) (mul_inv' N e)
theorem inv_m_l (a b : Gr N) : a⁻¹ * (a * b) = b := by rw [← assoc, inv_m, one_m]
theorem m_inv_l (a b : Gr N) : a * (a⁻¹ * b) = b := by rw [← assoc, m_inv, one_m]
theorem inv_uniq {a b : Gr N} (h : a * b = 1) : a⁻¹ = b := by
  have := congrArg (a⁻¹ * ·) h
  simp only [inv_m_l, m_one] at this
  exact this.symm
theorem inv_mm (a b : Gr N) : (a * b)⁻¹ = b⁻¹ * a⁻¹ := inv_uniq (by rw [assoc, m_inv_l, m_inv])
theorem inv_inv (a : Gr N) : a⁻¹⁻¹ = a := inv_uniq (inv_m a)
theorem inv_one : (1 : Gr N)⁻¹ = 1 := inv_uniq (one_m 1)
end Gr
theorem tab_gr {N : Nat} {e f : Ta} : tab N e = tab N f ↔ Gr.mk N e = Gr.mk N f := by
  rw [Gr.mk_eq, tab_eq]; rfl
end TI.TL

set_option Elab.async false
set_option linter.all false
set_option maxRecDepth 100000
set_option maxHeartbeats 2000000
/-! what the laws draw; two values alike -/
namespace TI.TL
open PySem PySem.Spec PyProof.Rows L2
mutual
theorem fl_fl (g h : Fl → Fl) : ∀ d : D, (d.fl g).fl h = d.fl (fun f => h (g f))
  | .lst f xs => by rw [fl_lst, fl_lst, fl_lst, fls_fls g h xs]
  | .tup f xs => by rw [fl_tup, fl_tup, fl_tup, fls_fls g h xs]
  | .ins f c ns xs => by rw [fl_ins, fl_ins, fl_ins, fls_fls g h xs]
  | .exc f c ns xs => by rw [D.fl, D.fl, D.fl, fls_fls g h xs]
  | .non => rfl
  | .bl _ => rfl
  | .int _ => rfl
  | .str _ => rfl
  | .bag => rfl
theorem fls_fls (g h : Fl → Fl) : ∀ ds : List D, D.fls h (D.fls g ds) = D.fls (fun f => h (g f)) ds
  | [] => rfl
  | d :: ds => by rw [fls_cons, fls_cons, fls_cons, fl_fl g h d, fls_fls g h ds]
end
mutual
theorem has_fz : ∀ d : D, (d.fl Fl.fz).has .brw = false
  | .lst f xs => by rw [fl_lst, has_lst, hass_fz xs]; rfl
  | .tup f xs => by rw [fl_tup, has_tup, hass_fz xs]; rfl
  | .ins f c ns xs => by rw [fl_ins, has_ins, hass_fz xs]; rfl
  | .exc f c ns xs => by rw [D.fl, D.has, hass_fz xs]; rfl
  | .non => rfl
  | .bl _ => rfl
  | .int _ => rfl
  | .str _ => rfl
  | .bag => rfl
theorem hass_fz : ∀ ds : List D, D.hass .brw (D.fls Fl.fz ds) = false
  | [] => rfl
  | d :: ds => by rw [fls_cons, hass_cons, has_fz d, hass_fz ds]; rfl
end
/-- a shared value -/
def Shd (d : D) : Prop := d.fl Fl.fz = d
theorem Shd.fl {d : D} (h : Shd d) {g : Fl → Fl} (hg : g .sh = .sh) : d.fl g = d := by
  unfold Shd at h
  have e : (fun f => g (Fl.fz f)) = Fl.fz := by funext f; exact hg
  calc d.fl g = (d.fl Fl.fz).fl g := by rw [h]
    _ = d.fl Fl.fz := by rw [fl_fl, e]
    _ = d := h
theorem Shd.has {d : D} (h : Shd d) : d.has .brw = false := by
  have := has_fz d
  rwa [h] at this
theorem shd_fz (d : D) : Shd (d.fl Fl.fz) := by
  unfold Shd
  rw [fl_fl]; rfl
theorem shd_all : ∀ {ds : List D}, D.fls Fl.fz ds = ds → ∀ d ∈ ds, Shd d
  | [], _, _, h => by cases h
  | x :: xs, e, d, h => by
    rw [fls_cons] at e
    injection e with e1 e2
    rcases List.mem_cons.mp h with rfl | h
    · exact e1
    · exact shd_all e2 d h
theorem shd_lst {f : Fl} {ds : List D} (h : Shd (.lst f ds)) : f = .sh ∧ ∀ d ∈ ds, Shd d := by
  unfold Shd at h
  rw [fl_lst] at h
  injection h with h1 h2
  exact ⟨h1.symm, shd_all h2⟩
theorem fls_shd {g : Fl → Fl} (hg : g .sh = .sh) : ∀ {ds : List D}, (∀ d ∈ ds, Shd d) → D.fls g ds = ds
  | [], _ => rfl
  | d :: ds, h => by rw [fls_cons, (h d List.mem_cons_self).fl hg, fls_shd hg fun x hx => h x (List.mem_cons_of_mem _ hx)]
theorem hass_shd : ∀ {ds : List D}, (∀ d ∈ ds, Shd d) → D.hass .brw ds = false
  | [], _ => rfl
  | d :: ds, h => by rw [hass_cons, (h d List.mem_cons_self).has, hass_shd fun x hx => h x (List.mem_cons_of_mem _ hx)]; rfl
section
variable {P : Pg} {cl : Str → List D → M D} {W n : Nat}
theorem any_ok [Has P d_law_draw] [Has P d_law_any] {ds : List D} (hs : ∀ d ∈ ds, Shd d) (h0 : ds ≠ []) (hl : ds.length < 2 ^ 20) : Dr 1 (callP P W noP (n + 2) "_law_any" [.bag, .lst .sh ds]) (fun d => d ∈ ds) := by
  have hp : 0 < ds.length := by
    cases ds with
    | nil => exact absurd rfl h0
    | cons d ds => simp
  rw [c_law_any]
  simp only [b_law_any, v_var, v_int, v_str, v_bl, v_non, v_bin, v_neg, v_not, v_bop, v_ife, v_cmp, v_cmp2, v_call, v_scall_s, v_meth, v_methk, v_attr, v_blt, v_isi, v_lst, v_tup, v_idx, v_sl, p_no, p_part, v_lc, v_lcif, v_lc2, i_seq, i_range1, i_range2, i_zip, i_enum, evs_nil, evs_cons, t_not, t_bop, t_ife, t_var, t_bl, t_cmp, t_cmp2, t_call, t_scall, t_meth, t_methk, t_attr, t_blt, t_isi, t_lc, t_idx, t_bin, bopT_and_t, bopT_and_f, bopT_or_t, bopT_or_f, bopM_and_t, bopM_and_f, bopM_or_t, bopM_or_f, tru_bl, tru_int, tru_lst, tru_tup, neg_int, part_int, add_int, sub_int, lt_int, le_int, gt_int, ge_int, eq_int, ne_int, eq_bl, ne_bl, cmpI_lt, cmpI_le, len_lst, len_tup, int_int, int_bl, list_lst, list_tup, tuple_lst, sum_ints, all_bls, any_bls, app_key, s_nil, s_cons, nx_nx, nx_rt, nx_bk, nx_ct, s_asg, s_unp, s_par, s_fld, s_app, s_bset, s_expr, s_ret, s_retN, s_ifs, s_for, s_while, s_pass, s_brk, s_cont, res_rt, res_nx, self_nx, ret_bnd, fail_bnd, bnd_assoc, seq_bnd, opt_s, opt_n, gV_0, gV_s, glo_c, fls_nil, fls_cons, hass_nil, hass_cons, fl_int, fl_bl, fl_str, fl_non, fl_bag, fl_lst, fl_tup, fl_ins, has_int, has_bl, has_str, has_non, has_bag, has_lst, has_tup, has_ins, fz_own, fz_sh, fz_brw, bw_own, bw_sh, bw_brw, ub_own, ub_sh, ub_brw, so_own, so_sh, so_brw, tt_own, tt_sh, tt_brw, keep_f, keeps_f, keep_t, keeps_t, attr_prop, attr_fld, meth_m, methk_m, mul_m, add_m, sub_m, eq_m, ne_m, tru_m, bool_m, fl_rowL, fl_rowT, has_rowL, has_rowT, fl_tabL, fl_tabT, has_tabLt, has_tabTt, hb_L_sh, hb_L_own, hb_T_sh, hb_T_own, ite_self, fls_ints, hass_ints, fls_im, hass_im, fls_rowL, fls_rowT, List.set_cons_zero, List.set_cons_succ, wipeE, setsE, tgE, ITg.ix, giveE, IE.vars, IEs.vars, reduceCtorEq, decide_false, decide_true, Bool.or_false, Bool.false_or, Bool.or_true, Bool.true_or, Bool.and_true, Bool.true_and, Bool.and_false, Bool.false_and, Bool.not_true, Bool.not_false, if_true, if_false, ite_true, ite_false, Bool.false_eq_true, ne_eq, not_false_eq_true, not_true_eq_false, List.cons_append, List.nil_append, List.append_nil, List.mem_cons, List.not_mem_nil, or_false, false_or, or_true, true_or, Nat.reduceEqDiff, Nat.reduceAdd, eq_self, and_self, and_true, true_and, Option.map_some, Option.map_none, List.getElem?_cons_zero, List.getElem?_cons_succ, fls_shd bw_sh hs, fls_shd fz_sh hs, hass_shd hs]
  refine dr_le (dr_bnd (draw_ok (n := n) (show (0 : Int) < (ds.length : Int) by omega) (Nat.lt_of_lt_of_le (show (ds.length : Int).natAbs < 2 ^ 20 by omega) (Nat.pow_le_pow_right (by decide) (by decide)))) fun d hd => ?_) (Nat.le_refl (1 + 0))
  obtain ⟨i, rfl, h1, h2⟩ := hd
  have e : L2.atI ds i = some (ds[i.toNat]'(by omega)) := by
    have := atI_nat ds i.toNat (by omega)
    rwa [Int.toNat_of_nonneg h1] at this
  have hm : ds[i.toNat]'(by omega) ∈ ds := List.getElem_mem _
  simp only [v_var, v_int, v_str, v_bl, v_non, v_bin, v_neg, v_not, v_bop, v_ife, v_cmp, v_cmp2, v_call, v_scall_s, v_meth, v_methk, v_attr, v_blt, v_isi, v_lst, v_tup, v_idx, v_sl, p_no, p_part, v_lc, v_lcif, v_lc2, i_seq, i_range1, i_range2, i_zip, i_enum, evs_nil, evs_cons, t_not, t_bop, t_ife, t_var, t_bl, t_cmp, t_cmp2, t_call, t_scall, t_meth, t_methk, t_attr, t_blt, t_isi, t_lc, t_idx, t_bin, bopT_and_t, bopT_and_f, bopT_or_t, bopT_or_f, bopM_and_t, bopM_and_f, bopM_or_t, bopM_or_f, tru_bl, tru_int, tru_lst, tru_tup, neg_int, part_int, add_int, sub_int, lt_int, le_int, gt_int, ge_int, eq_int, ne_int, eq_bl, ne_bl, cmpI_lt, cmpI_le, len_lst, len_tup, int_int, int_bl, list_lst, list_tup, tuple_lst, sum_ints, all_bls, any_bls, app_key, s_nil, s_cons, nx_nx, nx_rt, nx_bk, nx_ct, s_asg, s_unp, s_par, s_fld, s_app, s_bset, s_expr, s_ret, s_retN, s_ifs, s_for, s_while, s_pass, s_brk, s_cont, res_rt, res_nx, self_nx, ret_bnd, fail_bnd, bnd_assoc, seq_bnd, opt_s, opt_n, gV_0, gV_s, glo_c, fls_nil, fls_cons, hass_nil, hass_cons, fl_int, fl_bl, fl_str, fl_non, fl_bag, fl_lst, fl_tup, fl_ins, has_int, has_bl, has_str, has_non, has_bag, has_lst, has_tup, has_ins, fz_own, fz_sh, fz_brw, bw_own, bw_sh, bw_brw, ub_own, ub_sh, ub_brw, so_own, so_sh, so_brw, tt_own, tt_sh, tt_brw, keep_f, keeps_f, keep_t, keeps_t, attr_prop, attr_fld, meth_m, methk_m, mul_m, add_m, sub_m, eq_m, ne_m, tru_m, bool_m, fl_rowL, fl_rowT, has_rowL, has_rowT, fl_tabL, fl_tabT, has_tabLt, has_tabTt, hb_L_sh, hb_L_own, hb_T_sh, hb_T_own, ite_self, fls_ints, hass_ints, fls_im, hass_im, fls_rowL, fls_rowT, List.set_cons_zero, List.set_cons_succ, wipeE, setsE, tgE, ITg.ix, giveE, IE.vars, IEs.vars, reduceCtorEq, decide_false, decide_true, Bool.or_false, Bool.false_or, Bool.or_true, Bool.true_or, Bool.and_true, Bool.true_and, Bool.and_false, Bool.false_and, Bool.not_true, Bool.not_false, if_true, if_false, ite_true, ite_false, Bool.false_eq_true, ne_eq, not_false_eq_true, not_true_eq_false, List.cons_append, List.nil_append, List.append_nil, List.mem_cons, List.not_mem_nil, or_false, false_or, or_true, true_or, Nat.reduceEqDiff, Nat.reduceAdd, eq_self, and_self, and_true, true_and, Option.map_some, Option.map_none, List.getElem?_cons_zero, List.getElem?_cons_succ, idx_lst, e, (hs _ hm).fl ub_sh]
  exact dr_ret hm
theorem any_ints [Has P d_law_draw] [Has P d_law_any] {xs : List Int} (h0 : xs ≠ []) (hl : xs.length < 2 ^ 20) : Dr 1 (callP P W noP (n + 2) "_law_any" [.bag, .lst .sh (xs.map D.int)]) (fun d => ∃ x ∈ xs, d = .int x) := by
  refine dr_post (any_ok (n := n) (fun d hd => ?_) (by simpa using h0) (by simpa using hl)) fun d hd => ?_
  · obtain ⟨x, _, rfl⟩ := List.mem_map.mp hd
    rfl
  · obtain ⟨x, hx, rfl⟩ := List.mem_map.mp hd
    exact ⟨x, hx, rfl⟩
theorem small_ok [Has P d_law_draw] [Has P d_law_any] [Has P d_law_small] {m : Nat} (h1 : 1 ≤ m) (h2 : m < 2 ^ 60) : Dr 2 (callP P W noP (n + 3) "_law_small" [.bag, .int (m : Int)]) (fun d => ∃ x : Int, d = .int x ∧ x.natAbs ≤ m) := by
  have hs : sizeLine = 2 ^ 24 := rfl
  rw [c_law_small]
  have e1 : mulOk 2 (m : Int) = true := mulOk_of (sm62 (by decide)) (sm62 (by omega))
  simp only [b_law_small, v_var, v_int, v_str, v_bl, v_non, v_bin, v_neg, v_not, v_bop, v_ife, v_cmp, v_cmp2, v_call, v_scall_s, v_meth, v_methk, v_attr, v_blt, v_isi, v_lst, v_tup, v_idx, v_sl, p_no, p_part, v_lc, v_lcif, v_lc2, i_seq, i_range1, i_range2, i_zip, i_enum, evs_nil, evs_cons, t_not, t_bop, t_ife, t_var, t_bl, t_cmp, t_cmp2, t_call, t_scall, t_meth, t_methk, t_attr, t_blt, t_isi, t_lc, t_idx, t_bin, bopT_and_t, bopT_and_f, bopT_or_t, bopT_or_f, bopM_and_t, bopM_and_f, bopM_or_t, bopM_or_f, tru_bl, tru_int, tru_lst, tru_tup, neg_int, part_int, add_int, sub_int, lt_int, le_int, gt_int, ge_int, eq_int, ne_int, eq_bl, ne_bl, cmpI_lt, cmpI_le, len_lst, len_tup, int_int, int_bl, list_lst, list_tup, tuple_lst, sum_ints, all_bls, any_bls, app_key, s_nil, s_cons, nx_nx, nx_rt, nx_bk, nx_ct, s_asg, s_unp, s_par, s_fld, s_app, s_bset, s_expr, s_ret, s_retN, s_ifs, s_for, s_while, s_pass, s_brk, s_cont, res_rt, res_nx, self_nx, ret_bnd, fail_bnd, bnd_assoc, seq_bnd, opt_s, opt_n, gV_0, gV_s, glo_c, fls_nil, fls_cons, hass_nil, hass_cons, fl_int, fl_bl, fl_str, fl_non, fl_bag, fl_lst, fl_tup, fl_ins, has_int, has_bl, has_str, has_non, has_bag, has_lst, has_tup, has_ins, fz_own, fz_sh, fz_brw, bw_own, bw_sh, bw_brw, ub_own, ub_sh, ub_brw, so_own, so_sh, so_brw, tt_own, tt_sh, tt_brw, keep_f, keeps_f, keep_t, keeps_t, attr_prop, attr_fld, meth_m, methk_m, mul_m, add_m, sub_m, eq_m, ne_m, tru_m, bool_m, fl_rowL, fl_rowT, has_rowL, has_rowT, fl_tabL, fl_tabT, has_tabLt, has_tabTt, hb_L_sh, hb_L_own, hb_T_sh, hb_T_own, ite_self, fls_ints, hass_ints, fls_im, hass_im, fls_rowL, fls_rowT, List.set_cons_zero, List.set_cons_succ, wipeE, setsE, tgE, ITg.ix, giveE, IE.vars, IEs.vars, reduceCtorEq, decide_false, decide_true, Bool.or_false, Bool.false_or, Bool.or_true, Bool.true_or, Bool.and_true, Bool.true_and, Bool.and_false, Bool.false_and, Bool.not_true, Bool.not_false, if_true, if_false, ite_true, ite_false, Bool.false_eq_true, ne_eq, not_false_eq_true, not_true_eq_false, List.cons_append, List.nil_append, List.append_nil, List.mem_cons, List.not_mem_nil, or_false, false_or, or_true, true_or, Nat.reduceEqDiff, Nat.reduceAdd, eq_self, and_self, and_true, true_and, Option.map_some, Option.map_none, List.getElem?_cons_zero, List.getElem?_cons_succ, mul_int, e1]
  refine dr_le (dr_bnd (draw_ok (n := n + 1) (show (0 : Int) < 2 * (m : Int) + 1 by omega) (Nat.lt_of_lt_of_le (show (2 * (m : Int) + 1).natAbs < 2 ^ 62 by omega) (Nat.pow_le_pow_right (by decide) (by decide)))) fun d hd => ?_) (Nat.le_refl (1 + 1))
  obtain ⟨i, rfl, q1, q2⟩ := hd
  simp only [v_var, v_int, v_str, v_bl, v_non, v_bin, v_neg, v_not, v_bop, v_ife, v_cmp, v_cmp2, v_call, v_scall_s, v_meth, v_methk, v_attr, v_blt, v_isi, v_lst, v_tup, v_idx, v_sl, p_no, p_part, v_lc, v_lcif, v_lc2, i_seq, i_range1, i_range2, i_zip, i_enum, evs_nil, evs_cons, t_not, t_bop, t_ife, t_var, t_bl, t_cmp, t_cmp2, t_call, t_scall, t_meth, t_methk, t_attr, t_blt, t_isi, t_lc, t_idx, t_bin, bopT_and_t, bopT_and_f, bopT_or_t, bopT_or_f, bopM_and_t, bopM_and_f, bopM_or_t, bopM_or_f, tru_bl, tru_int, tru_lst, tru_tup, neg_int, part_int, add_int, sub_int, lt_int, le_int, gt_int, ge_int, eq_int, ne_int, eq_bl, ne_bl, cmpI_lt, cmpI_le, len_lst, len_tup, int_int, int_bl, list_lst, list_tup, tuple_lst, sum_ints, all_bls, any_bls, app_key, s_nil, s_cons, nx_nx, nx_rt, nx_bk, nx_ct, s_asg, s_unp, s_par, s_fld, s_app, s_bset, s_expr, s_ret, s_retN, s_ifs, s_for, s_while, s_pass, s_brk, s_cont, res_rt, res_nx, self_nx, ret_bnd, fail_bnd, bnd_assoc, seq_bnd, opt_s, opt_n, gV_0, gV_s, glo_c, fls_nil, fls_cons, hass_nil, hass_cons, fl_int, fl_bl, fl_str, fl_non, fl_bag, fl_lst, fl_tup, fl_ins, has_int, has_bl, has_str, has_non, has_bag, has_lst, has_tup, has_ins, fz_own, fz_sh, fz_brw, bw_own, bw_sh, bw_brw, ub_own, ub_sh, ub_brw, so_own, so_sh, so_brw, tt_own, tt_sh, tt_brw, keep_f, keeps_f, keep_t, keeps_t, attr_prop, attr_fld, meth_m, methk_m, mul_m, add_m, sub_m, eq_m, ne_m, tru_m, bool_m, fl_rowL, fl_rowT, has_rowL, has_rowT, fl_tabL, fl_tabT, has_tabLt, has_tabTt, hb_L_sh, hb_L_own, hb_T_sh, hb_T_own, ite_self, fls_ints, hass_ints, fls_im, hass_im, fls_rowL, fls_rowT, List.set_cons_zero, List.set_cons_succ, wipeE, setsE, tgE, ITg.ix, giveE, IE.vars, IEs.vars, reduceCtorEq, decide_false, decide_true, Bool.or_false, Bool.false_or, Bool.or_true, Bool.true_or, Bool.and_true, Bool.true_and, Bool.and_false, Bool.false_and, Bool.not_true, Bool.not_false, if_true, if_false, ite_true, ite_false, Bool.false_eq_true, ne_eq, not_false_eq_true, not_true_eq_false, List.cons_append, List.nil_append, List.append_nil, List.mem_cons, List.not_mem_nil, or_false, false_or, or_true, true_or, Nat.reduceEqDiff, Nat.reduceAdd, eq_self, and_self, and_true, true_and, Option.map_some, Option.map_none, List.getElem?_cons_zero, List.getElem?_cons_succ, seq_ret, List.length_cons, List.length_nil, show 0 + 1 + 1 + 1 + 1 ≤ sizeLine by omega]
  have q := any_ints (P := P) (W := W) (n := n) (xs := [0, 0, 1, i - m]) (by simp) (by simp)
  simp only [List.map_cons, List.map_nil] at q
  refine dr_le (dr_bnd q fun d hd => ?_) (Nat.le_refl (1 + 0))
  obtain ⟨x, hx, rfl⟩ := hd
  simp only [v_var, v_int, v_str, v_bl, v_non, v_bin, v_neg, v_not, v_bop, v_ife, v_cmp, v_cmp2, v_call, v_scall_s, v_meth, v_methk, v_attr, v_blt, v_isi, v_lst, v_tup, v_idx, v_sl, p_no, p_part, v_lc, v_lcif, v_lc2, i_seq, i_range1, i_range2, i_zip, i_enum, evs_nil, evs_cons, t_not, t_bop, t_ife, t_var, t_bl, t_cmp, t_cmp2, t_call, t_scall, t_meth, t_methk, t_attr, t_blt, t_isi, t_lc, t_idx, t_bin, bopT_and_t, bopT_and_f, bopT_or_t, bopT_or_f, bopM_and_t, bopM_and_f, bopM_or_t, bopM_or_f, tru_bl, tru_int, tru_lst, tru_tup, neg_int, part_int, add_int, sub_int, lt_int, le_int, gt_int, ge_int, eq_int, ne_int, eq_bl, ne_bl, cmpI_lt, cmpI_le, len_lst, len_tup, int_int, int_bl, list_lst, list_tup, tuple_lst, sum_ints, all_bls, any_bls, app_key, s_nil, s_cons, nx_nx, nx_rt, nx_bk, nx_ct, s_asg, s_unp, s_par, s_fld, s_app, s_bset, s_expr, s_ret, s_retN, s_ifs, s_for, s_while, s_pass, s_brk, s_cont, res_rt, res_nx, self_nx, ret_bnd, fail_bnd, bnd_assoc, seq_bnd, opt_s, opt_n, gV_0, gV_s, glo_c, fls_nil, fls_cons, hass_nil, hass_cons, fl_int, fl_bl, fl_str, fl_non, fl_bag, fl_lst, fl_tup, fl_ins, has_int, has_bl, has_str, has_non, has_bag, has_lst, has_tup, has_ins, fz_own, fz_sh, fz_brw, bw_own, bw_sh, bw_brw, ub_own, ub_sh, ub_brw, so_own, so_sh, so_brw, tt_own, tt_sh, tt_brw, keep_f, keeps_f, keep_t, keeps_t, attr_prop, attr_fld, meth_m, methk_m, mul_m, add_m, sub_m, eq_m, ne_m, tru_m, bool_m, fl_rowL, fl_rowT, has_rowL, has_rowT, fl_tabL, fl_tabT, has_tabLt, has_tabTt, hb_L_sh, hb_L_own, hb_T_sh, hb_T_own, ite_self, fls_ints, hass_ints, fls_im, hass_im, fls_rowL, fls_rowT, List.set_cons_zero, List.set_cons_succ, wipeE, setsE, tgE, ITg.ix, giveE, IE.vars, IEs.vars, reduceCtorEq, decide_false, decide_true, Bool.or_false, Bool.false_or, Bool.or_true, Bool.true_or, Bool.and_true, Bool.true_and, Bool.and_false, Bool.false_and, Bool.not_true, Bool.not_false, if_true, if_false, ite_true, ite_false, Bool.false_eq_true, ne_eq, not_false_eq_true, not_true_eq_false, List.cons_append, List.nil_append, List.append_nil, List.mem_cons, List.not_mem_nil, or_false, false_or, or_true, true_or, Nat.reduceEqDiff, Nat.reduceAdd, eq_self, and_self, and_true, true_and, Option.map_some, Option.map_none, List.getElem?_cons_zero, List.getElem?_cons_succ]
  refine dr_ret ⟨x, rfl, ?_⟩
  simp only [List.mem_cons, List.not_mem_nil, or_false] at hx
  omega
theorem all2_fun {ζ : Type} [Inhabited ζ] {Q : Nat → ζ → Prop} {g : Nat → ζ → D} {m : Nat} {ys : List D} (h : All2 (fun x y => ∃ z, y = g x z ∧ Q x z) (List.range m) ys) :
    ∃ f : Nat → ζ, ys = (List.range m).map (fun i => g i (f i)) ∧ ∀ i, i < m → Q i (f i) := by
  have hl := h.len
  rw [List.length_range] at hl
  have hx : ∀ i, i < m → ∃ z, ys[i]? = some (g i z) ∧ Q i z := fun i hi => by
    have e : ys[i]? = some (ys[i]'(by omega)) := by simp [← hl, hi]
    obtain ⟨z, e2, q⟩ := h.get (i := i) (x := i) (by simp [hi]) e
    exact ⟨z, by rw [e, e2], q⟩
  refine ⟨fun i => if hi : i < m then Classical.choose (hx i hi) else default, ?_, fun i hi => ?_⟩
  · refine List.ext_getElem? fun i => ?_
    by_cases hi : i < m
    · have := (Classical.choose_spec (hx i hi)).1
      rw [this]
      simp [hi]
    · rw [List.getElem?_eq_none (by omega), List.getElem?_eq_none (by simp; omega)]
  · simp only [dif_pos hi]
    exact (Classical.choose_spec (hx i hi)).2
theorem dr_lcr {c : Nat} {env : Env} {tg : ITg} {elt : IE} {m : Nat} {h : Nat → D} {R : Nat → D → Prop} (hl : m ≤ sizeLine)
    (H : ∀ x, x < m → Dr c (bnd (opt (tgE tg (h x).so (wipeE env tg.ix))) fun env' => (evA P cl elt).v env') (R x)) : Dr (c * m) (lcM P cl env tg elt ((List.range m).map h)) fun r => ∃ ys, r = .lst .own ys ∧ All2 R (List.range m) ys := by
  have q := dr_lc (P := P) (cl := cl) (env := env) (tg := tg) (elt := elt) (xs := List.range m) (h := h) (R := R) (c := c) (by simpa using hl) (fun x hx => H x (List.mem_range.mp hx))
  rwa [List.length_range] at q
theorem rows_draw [Has P d_law_draw] [Has P d_law_any] [Has P d_law_small] [Has P d_law_rows] {m N : Nat} (h1 : 1 ≤ m) (h2 : m < 2 ^ 60) (hN : N ≤ 4) : Dr 40 (callP P W noP (n + 4) "_law_rows" [.bag, .int (N : Int), .int (m : Int)]) (fun d => ∃ e : Ta, d = tabL .own .own (tab N e) ∧ ∀ r c, c ≤ r → r < N → (e r c).natAbs ≤ m) := by
  have hs : sizeLine = 2 ^ 24 := rfl
  rw [c_law_rows]
  simp only [b_law_rows, v_var, v_int, v_str, v_bl, v_non, v_bin, v_neg, v_not, v_bop, v_ife, v_cmp, v_cmp2, v_call, v_scall_s, v_meth, v_methk, v_attr, v_blt, v_isi, v_lst, v_tup, v_idx, v_sl, p_no, p_part, v_lc, v_lcif, v_lc2, i_seq, i_range1, i_range2, i_zip, i_enum, evs_nil, evs_cons, t_not, t_bop, t_ife, t_var, t_bl, t_cmp, t_cmp2, t_call, t_scall, t_meth, t_methk, t_attr, t_blt, t_isi, t_lc, t_idx, t_bin, bopT_and_t, bopT_and_f, bopT_or_t, bopT_or_f, bopM_and_t, bopM_and_f, bopM_or_t, bopM_or_f, tru_bl, tru_int, tru_lst, tru_tup, neg_int, part_int, add_int, sub_int, lt_int, le_int, gt_int, ge_int, eq_int, ne_int, eq_bl, ne_bl, cmpI_lt, cmpI_le, len_lst, len_tup, int_int, int_bl, list_lst, list_tup, tuple_lst, sum_ints, all_bls, any_bls, app_key, s_nil, s_cons, nx_nx, nx_rt, nx_bk, nx_ct, s_asg, s_unp, s_par, s_fld, s_app, s_bset, s_expr, s_ret, s_retN, s_ifs, s_for, s_while, s_pass, s_brk, s_cont, res_rt, res_nx, self_nx, ret_bnd, fail_bnd, bnd_assoc, seq_bnd, opt_s, opt_n, gV_0, gV_s, glo_c, fls_nil, fls_cons, hass_nil, hass_cons, fl_int, fl_bl, fl_str, fl_non, fl_bag, fl_lst, fl_tup, fl_ins, has_int, has_bl, has_str, has_non, has_bag, has_lst, has_tup, has_ins, fz_own, fz_sh, fz_brw, bw_own, bw_sh, bw_brw, ub_own, ub_sh, ub_brw, so_own, so_sh, so_brw, tt_own, tt_sh, tt_brw, keep_f, keeps_f, keep_t, keeps_t, attr_prop, attr_fld, meth_m, methk_m, mul_m, add_m, sub_m, eq_m, ne_m, tru_m, bool_m, fl_rowL, fl_rowT, has_rowL, has_rowT, fl_tabL, fl_tabT, has_tabLt, has_tabTt, hb_L_sh, hb_L_own, hb_T_sh, hb_T_own, ite_self, fls_ints, hass_ints, fls_im, hass_im, fls_rowL, fls_rowT, List.set_cons_zero, List.set_cons_succ, wipeE, setsE, tgE, ITg.ix, giveE, IE.vars, IEs.vars, reduceCtorEq, decide_false, decide_true, Bool.or_false, Bool.false_or, Bool.or_true, Bool.true_or, Bool.and_true, Bool.true_and, Bool.and_false, Bool.false_and, Bool.not_true, Bool.not_false, if_true, if_false, ite_true, ite_false, Bool.false_eq_true, ne_eq, not_false_eq_true, not_true_eq_false, List.cons_append, List.nil_append, List.append_nil, List.mem_cons, List.not_mem_nil, or_false, false_or, or_true, true_or, Nat.reduceEqDiff, Nat.reduceAdd, eq_self, and_self, and_true, true_and, Option.map_some, Option.map_none, List.getElem?_cons_zero, List.getElem?_cons_succ, range1_nat _ (show N ≤ sizeLine by omega)]
  refine dr_le (dr_bnd (dr_lcr (c := 10) (R := fun r d => ∃ f : Nat → Int, d = rowL .own ((List.range (r + 1)).map f) ∧ ∀ c, c ≤ r → (f c).natAbs ≤ m) (by omega) fun r hr => ?_) fun d hd => ?_) (show 10 * N + 0 ≤ 40 by omega)
  · simp only [v_var, v_int, v_str, v_bl, v_non, v_bin, v_neg, v_not, v_bop, v_ife, v_cmp, v_cmp2, v_call, v_scall_s, v_meth, v_methk, v_attr, v_blt, v_isi, v_lst, v_tup, v_idx, v_sl, p_no, p_part, v_lc, v_lcif, v_lc2, i_seq, i_range1, i_range2, i_zip, i_enum, evs_nil, evs_cons, t_not, t_bop, t_ife, t_var, t_bl, t_cmp, t_cmp2, t_call, t_scall, t_meth, t_methk, t_attr, t_blt, t_isi, t_lc, t_idx, t_bin, bopT_and_t, bopT_and_f, bopT_or_t, bopT_or_f, bopM_and_t, bopM_and_f, bopM_or_t, bopM_or_f, tru_bl, tru_int, tru_lst, tru_tup, neg_int, part_int, add_int, sub_int, lt_int, le_int, gt_int, ge_int, eq_int, ne_int, eq_bl, ne_bl, cmpI_lt, cmpI_le, len_lst, len_tup, int_int, int_bl, list_lst, list_tup, tuple_lst, sum_ints, all_bls, any_bls, app_key, s_nil, s_cons, nx_nx, nx_rt, nx_bk, nx_ct, s_asg, s_unp, s_par, s_fld, s_app, s_bset, s_expr, s_ret, s_retN, s_ifs, s_for, s_while, s_pass, s_brk, s_cont, res_rt, res_nx, self_nx, ret_bnd, fail_bnd, bnd_assoc, seq_bnd, opt_s, opt_n, gV_0, gV_s, glo_c, fls_nil, fls_cons, hass_nil, hass_cons, fl_int, fl_bl, fl_str, fl_non, fl_bag, fl_lst, fl_tup, fl_ins, has_int, has_bl, has_str, has_non, has_bag, has_lst, has_tup, has_ins, fz_own, fz_sh, fz_brw, bw_own, bw_sh, bw_brw, ub_own, ub_sh, ub_brw, so_own, so_sh, so_brw, tt_own, tt_sh, tt_brw, keep_f, keeps_f, keep_t, keeps_t, attr_prop, attr_fld, meth_m, methk_m, mul_m, add_m, sub_m, eq_m, ne_m, tru_m, bool_m, fl_rowL, fl_rowT, has_rowL, has_rowT, fl_tabL, fl_tabT, has_tabLt, has_tabTt, hb_L_sh, hb_L_own, hb_T_sh, hb_T_own, ite_self, fls_ints, hass_ints, fls_im, hass_im, fls_rowL, fls_rowT, List.set_cons_zero, List.set_cons_succ, wipeE, setsE, tgE, ITg.ix, giveE, IE.vars, IEs.vars, reduceCtorEq, decide_false, decide_true, Bool.or_false, Bool.false_or, Bool.or_true, Bool.true_or, Bool.and_true, Bool.true_and, Bool.and_false, Bool.false_and, Bool.not_true, Bool.not_false, if_true, if_false, ite_true, ite_false, Bool.false_eq_true, ne_eq, not_false_eq_true, not_true_eq_false, List.cons_append, List.nil_append, List.append_nil, List.mem_cons, List.not_mem_nil, or_false, false_or, or_true, true_or, Nat.reduceEqDiff, Nat.reduceAdd, eq_self, and_self, and_true, true_and, Option.map_some, Option.map_none, List.getElem?_cons_zero, List.getElem?_cons_succ, cast1, range1_nat _ (show r + 1 ≤ sizeLine by omega)]
    refine dr_mono (dr_lcr (c := 2) (R := fun r d => ∃ x : Int, d = .int x ∧ x.natAbs ≤ m) (by omega) fun c hc => ?_) (show 2 * (r + 1) ≤ 10 by omega) fun d hd => ?_
    · simp only [v_var, v_int, v_str, v_bl, v_non, v_bin, v_neg, v_not, v_bop, v_ife, v_cmp, v_cmp2, v_call, v_scall_s, v_meth, v_methk, v_attr, v_blt, v_isi, v_lst, v_tup, v_idx, v_sl, p_no, p_part, v_lc, v_lcif, v_lc2, i_seq, i_range1, i_range2, i_zip, i_enum, evs_nil, evs_cons, t_not, t_bop, t_ife, t_var, t_bl, t_cmp, t_cmp2, t_call, t_scall, t_meth, t_methk, t_attr, t_blt, t_isi, t_lc, t_idx, t_bin, bopT_and_t, bopT_and_f, bopT_or_t, bopT_or_f, bopM_and_t, bopM_and_f, bopM_or_t, bopM_or_f, tru_bl, tru_int, tru_lst, tru_tup, neg_int, part_int, add_int, sub_int, lt_int, le_int, gt_int, ge_int, eq_int, ne_int, eq_bl, ne_bl, cmpI_lt, cmpI_le, len_lst, len_tup, int_int, int_bl, list_lst, list_tup, tuple_lst, sum_ints, all_bls, any_bls, app_key, s_nil, s_cons, nx_nx, nx_rt, nx_bk, nx_ct, s_asg, s_unp, s_par, s_fld, s_app, s_bset, s_expr, s_ret, s_retN, s_ifs, s_for, s_while, s_pass, s_brk, s_cont, res_rt, res_nx, self_nx, ret_bnd, fail_bnd, bnd_assoc, seq_bnd, opt_s, opt_n, gV_0, gV_s, glo_c, fls_nil, fls_cons, hass_nil, hass_cons, fl_int, fl_bl, fl_str, fl_non, fl_bag, fl_lst, fl_tup, fl_ins, has_int, has_bl, has_str, has_non, has_bag, has_lst, has_tup, has_ins, fz_own, fz_sh, fz_brw, bw_own, bw_sh, bw_brw, ub_own, ub_sh, ub_brw, so_own, so_sh, so_brw, tt_own, tt_sh, tt_brw, keep_f, keeps_f, keep_t, keeps_t, attr_prop, attr_fld, meth_m, methk_m, mul_m, add_m, sub_m, eq_m, ne_m, tru_m, bool_m, fl_rowL, fl_rowT, has_rowL, has_rowT, fl_tabL, fl_tabT, has_tabLt, has_tabTt, hb_L_sh, hb_L_own, hb_T_sh, hb_T_own, ite_self, fls_ints, hass_ints, fls_im, hass_im, fls_rowL, fls_rowT, List.set_cons_zero, List.set_cons_succ, wipeE, setsE, tgE, ITg.ix, giveE, IE.vars, IEs.vars, reduceCtorEq, decide_false, decide_true, Bool.or_false, Bool.false_or, Bool.or_true, Bool.true_or, Bool.and_true, Bool.true_and, Bool.and_false, Bool.false_and, Bool.not_true, Bool.not_false, if_true, if_false, ite_true, ite_false, Bool.false_eq_true, ne_eq, not_false_eq_true, not_true_eq_false, List.cons_append, List.nil_append, List.append_nil, List.mem_cons, List.not_mem_nil, or_false, false_or, or_true, true_or, Nat.reduceEqDiff, Nat.reduceAdd, eq_self, and_self, and_true, true_and, Option.map_some, Option.map_none, List.getElem?_cons_zero, List.getElem?_cons_succ]
      refine dr_le (dr_bnd (small_ok (n := n) h1 h2) fun d hd => ?_) (Nat.le_refl (2 + 0))
      obtain ⟨x, rfl, hx⟩ := hd
      exact dr_ret ⟨x, rfl, hx⟩
    · obtain ⟨ys, rfl, h⟩ := hd
      obtain ⟨f, rfl, hf⟩ := all2_fun (g := fun _ z => D.int z) (Q := fun _ z => z.natAbs ≤ m) h
      exact ⟨f, (rowL_def _ _ _).symm, fun c hc => hf c (by omega)⟩
  · obtain ⟨ys, rfl, h⟩ := hd
    obtain ⟨e, rfl, he⟩ := all2_fun (g := fun r f => rowL .own ((List.range (r + 1)).map f)) (Q := fun r f => ∀ c, c ≤ r → (f c).natAbs ≤ m) h
    simp only [v_var, v_int, v_str, v_bl, v_non, v_bin, v_neg, v_not, v_bop, v_ife, v_cmp, v_cmp2, v_call, v_scall_s, v_meth, v_methk, v_attr, v_blt, v_isi, v_lst, v_tup, v_idx, v_sl, p_no, p_part, v_lc, v_lcif, v_lc2, i_seq, i_range1, i_range2, i_zip, i_enum, evs_nil, evs_cons, t_not, t_bop, t_ife, t_var, t_bl, t_cmp, t_cmp2, t_call, t_scall, t_meth, t_methk, t_attr, t_blt, t_isi, t_lc, t_idx, t_bin, bopT_and_t, bopT_and_f, bopT_or_t, bopT_or_f, bopM_and_t, bopM_and_f, bopM_or_t, bopM_or_f, tru_bl, tru_int, tru_lst, tru_tup, neg_int, part_int, add_int, sub_int, lt_int, le_int, gt_int, ge_int, eq_int, ne_int, eq_bl, ne_bl, cmpI_lt, cmpI_le, len_lst, len_tup, int_int, int_bl, list_lst, list_tup, tuple_lst, sum_ints, all_bls, any_bls, app_key, s_nil, s_cons, nx_nx, nx_rt, nx_bk, nx_ct, s_asg, s_unp, s_par, s_fld, s_app, s_bset, s_expr, s_ret, s_retN, s_ifs, s_for, s_while, s_pass, s_brk, s_cont, res_rt, res_nx, self_nx, ret_bnd, fail_bnd, bnd_assoc, seq_bnd, opt_s, opt_n, gV_0, gV_s, glo_c, fls_nil, fls_cons, hass_nil, hass_cons, fl_int, fl_bl, fl_str, fl_non, fl_bag, fl_lst, fl_tup, fl_ins, has_int, has_bl, has_str, has_non, has_bag, has_lst, has_tup, has_ins, fz_own, fz_sh, fz_brw, bw_own, bw_sh, bw_brw, ub_own, ub_sh, ub_brw, so_own, so_sh, so_brw, tt_own, tt_sh, tt_brw, keep_f, keeps_f, keep_t, keeps_t, attr_prop, attr_fld, meth_m, methk_m, mul_m, add_m, sub_m, eq_m, ne_m, tru_m, bool_m, fl_rowL, fl_rowT, has_rowL, has_rowT, fl_tabL, fl_tabT, has_tabLt, has_tabTt, hb_L_sh, hb_L_own, hb_T_sh, hb_T_own, ite_self, fls_ints, hass_ints, fls_im, hass_im, fls_rowL, fls_rowT, List.set_cons_zero, List.set_cons_succ, wipeE, setsE, tgE, ITg.ix, giveE, IE.vars, IEs.vars, reduceCtorEq, decide_false, decide_true, Bool.or_false, Bool.false_or, Bool.or_true, Bool.true_or, Bool.and_true, Bool.true_and, Bool.and_false, Bool.false_and, Bool.not_true, Bool.not_false, if_true, if_false, ite_true, ite_false, Bool.false_eq_true, ne_eq, not_false_eq_true, not_true_eq_false, List.cons_append, List.nil_append, List.append_nil, List.mem_cons, List.not_mem_nil, or_false, false_or, or_true, true_or, Nat.reduceEqDiff, Nat.reduceAdd, eq_self, and_self, and_true, true_and, Option.map_some, Option.map_none, List.getElem?_cons_zero, List.getElem?_cons_succ, fls_map, fl_rowL]
    exact dr_ret ⟨e, (tabL_def _ _ _ _).symm, fun r c hc hr => he r hr c hc⟩
/-! two values alike -/
mutual
/-- made of lists, numbers, texts, truth values, None -/
def plD : D → Bool
  | .lst _ xs => decide (xs.length ≤ sizeLine) && plDs xs
  | .non => true
  | .bl _ => true
  | .int _ => true
  | .str s => PyData.strOk s
  | _ => false
def plDs : List D → Bool
  | [] => true
  | d :: ds => plD d && plDs ds
end
mutual
def dpD : D → Nat
  | .lst _ xs => dpDs xs + 1
  | _ => 0
def dpDs : List D → Nat
  | [] => 0
  | d :: ds => max (dpD d) (dpDs ds)
end
theorem plDs_mem : ∀ {ds : List D}, plDs ds = true → ∀ d ∈ ds, plD d = true
  | [], _, _, h => by cases h
  | x :: xs, e, d, h => by
    rw [plDs, Bool.and_eq_true] at e
    rcases List.mem_cons.mp h with rfl | h
    · exact e.1
    · exact plDs_mem e.2 d h
theorem dpDs_mem : ∀ {ds : List D} {d : D}, d ∈ ds → dpD d ≤ dpDs ds
  | x :: xs, d, h => by
    rw [dpDs]
    rcases List.mem_cons.mp h with rfl | h
    · omega
    · have := dpDs_mem h
      omega
theorem zip_same (f g : Fl) {xs : List D} (h : ∀ d ∈ xs, Shd d) : zipD (.lst f xs) (.lst g xs) = some (xs.map fun x => pairD x x) := by
  have e1 : ∀ f, itemsD (.lst f xs) = some xs := fun f => by
    show some (D.fls Fl.so xs) = _
    rw [fls_shd so_sh h]
  unfold zipD
  rw [e1, e1]
  simp only [List.zipWith_self]
theorem isi_l (f : Fl) (xs : List D) : isiA P (.lst f xs) ["list"] = some true := nr rfl
theorem isi_l_t (f : Fl) (xs : List D) : isiA P (.lst f xs) ["tuple"] = some false := nr rfl
theorem isN (f : Fl) (xs : List D) : cmpM P cl .Is (.int 0) .non = ret (.bl false) := nr rfl
theorem is_int (i : Int) : cmpM P cl .Is (.int i) .non = ret (.bl false) := nr rfl
theorem is_bl (i : Bool) : cmpM P cl .Is (.bl i) .non = ret (.bl false) := nr rfl
theorem is_str (i : Str) : cmpM P cl .Is (.str i) .non = ret (.bl false) := nr rfl
theorem is_non : cmpM P cl .Is .non .non = ret (.bl true) := nr rfl
theorem is_lst (f : Fl) (xs : List D) : cmpM P cl .Is (.lst f xs) .non = ret (.bl false) := nr rfl
theorem isi_bl (b : Bool) : isiA P (.bl b) ["list", "tuple"] = some false ∧ isiA P (.bl b) ["bool"] = some true ∧ isiA P (.bl b) ["int"] = some true ∧ isiA P (.bl b) ["str"] = some false := ⟨rfl, rfl, rfl, rfl⟩
theorem isi_str (b : Str) : isiA P (.str b) ["list", "tuple"] = some false ∧ isiA P (.str b) ["bool"] = some false ∧ isiA P (.str b) ["int"] = some false ∧ isiA P (.str b) ["str"] = some true := ⟨rfl, rfl, rfl, rfl⟩
theorem isi_int (b : Int) : isiA P (.int b) ["list", "tuple"] = some false ∧ isiA P (.int b) ["bool"] = some false ∧ isiA P (.int b) ["int"] = some true ∧ isiA P (.int b) ["str"] = some false := ⟨rfl, rfl, rfl, rfl⟩
theorem isi_non : isiA P .non ["list", "tuple"] = some false := nr rfl
theorem eq_str_same {s : Str} (h : PyData.strOk s = true) : cmpM P cl .Eq (.str s) (.str s) = ret (.bl true) := by
  refine eq_D (fun _ _ _ _ z => by cases z) (eqD_of rfl rfl (shaped_of ?_ ?_) (shaped_of ?_ ?_) ?_)
  · simpa [PyData.canLay0] using h
  · simp [PyData.depth]
  · simpa [PyData.canLay0] using h
  · simp [PyData.depth]
  · simp [PyData.eqv]
theorem like_refl [Has P d_law_like] : ∀ (k : Nat) {n : Nat} {d : D}, dpD d ≤ k → plD d = true → Shd d → callP P W noP (n + k + 1) "_law_like" [d, d] = ret (.bl true)
  | k, n, .non, _, _, _ => by
    rw [c_law_like]
    simp only [b_law_like, v_var, v_int, v_str, v_bl, v_non, v_bin, v_neg, v_not, v_bop, v_ife, v_cmp, v_cmp2, v_call, v_scall_s, v_meth, v_methk, v_attr, v_blt, v_isi, v_lst, v_tup, v_idx, v_sl, p_no, p_part, v_lc, v_lcif, v_lc2, i_seq, i_range1, i_range2, i_zip, i_enum, evs_nil, evs_cons, t_not, t_bop, t_ife, t_var, t_bl, t_cmp, t_cmp2, t_call, t_scall, t_meth, t_methk, t_attr, t_blt, t_isi, t_lc, t_idx, t_bin, bopT_and_t, bopT_and_f, bopT_or_t, bopT_or_f, bopM_and_t, bopM_and_f, bopM_or_t, bopM_or_f, tru_bl, tru_int, tru_lst, tru_tup, neg_int, part_int, add_int, sub_int, lt_int, le_int, gt_int, ge_int, eq_int, ne_int, eq_bl, ne_bl, cmpI_lt, cmpI_le, len_lst, len_tup, int_int, int_bl, list_lst, list_tup, tuple_lst, sum_ints, all_bls, any_bls, app_key, s_nil, s_cons, nx_nx, nx_rt, nx_bk, nx_ct, s_asg, s_unp, s_par, s_fld, s_app, s_bset, s_expr, s_ret, s_retN, s_ifs, s_for, s_while, s_pass, s_brk, s_cont, res_rt, res_nx, self_nx, ret_bnd, fail_bnd, bnd_assoc, seq_bnd, opt_s, opt_n, gV_0, gV_s, glo_c, fls_nil, fls_cons, hass_nil, hass_cons, fl_int, fl_bl, fl_str, fl_non, fl_bag, fl_lst, fl_tup, fl_ins, has_int, has_bl, has_str, has_non, has_bag, has_lst, has_tup, has_ins, fz_own, fz_sh, fz_brw, bw_own, bw_sh, bw_brw, ub_own, ub_sh, ub_brw, so_own, so_sh, so_brw, tt_own, tt_sh, tt_brw, keep_f, keeps_f, keep_t, keeps_t, attr_prop, attr_fld, meth_m, methk_m, mul_m, add_m, sub_m, eq_m, ne_m, tru_m, bool_m, fl_rowL, fl_rowT, has_rowL, has_rowT, fl_tabL, fl_tabT, has_tabLt, has_tabTt, hb_L_sh, hb_L_own, hb_T_sh, hb_T_own, ite_self, fls_ints, hass_ints, fls_im, hass_im, fls_rowL, fls_rowT, List.set_cons_zero, List.set_cons_succ, wipeE, setsE, tgE, ITg.ix, giveE, IE.vars, IEs.vars, reduceCtorEq, decide_false, decide_true, Bool.or_false, Bool.false_or, Bool.or_true, Bool.true_or, Bool.and_true, Bool.true_and, Bool.and_false, Bool.false_and, Bool.not_true, Bool.not_false, if_true, if_false, ite_true, ite_false, Bool.false_eq_true, ne_eq, not_false_eq_true, not_true_eq_false, List.cons_append, List.nil_append, List.append_nil, List.mem_cons, List.not_mem_nil, or_false, false_or, or_true, true_or, Nat.reduceEqDiff, Nat.reduceAdd, eq_self, and_self, and_true, true_and, Option.map_some, Option.map_none, List.getElem?_cons_zero, List.getElem?_cons_succ, isi_non, is_non]
  | k, n, .bl b, _, _, _ => by
    rw [c_law_like]
    simp only [b_law_like, v_var, v_int, v_str, v_bl, v_non, v_bin, v_neg, v_not, v_bop, v_ife, v_cmp, v_cmp2, v_call, v_scall_s, v_meth, v_methk, v_attr, v_blt, v_isi, v_lst, v_tup, v_idx, v_sl, p_no, p_part, v_lc, v_lcif, v_lc2, i_seq, i_range1, i_range2, i_zip, i_enum, evs_nil, evs_cons, t_not, t_bop, t_ife, t_var, t_bl, t_cmp, t_cmp2, t_call, t_scall, t_meth, t_methk, t_attr, t_blt, t_isi, t_lc, t_idx, t_bin, bopT_and_t, bopT_and_f, bopT_or_t, bopT_or_f, bopM_and_t, bopM_and_f, bopM_or_t, bopM_or_f, tru_bl, tru_int, tru_lst, tru_tup, neg_int, part_int, add_int, sub_int, lt_int, le_int, gt_int, ge_int, eq_int, ne_int, eq_bl, ne_bl, cmpI_lt, cmpI_le, len_lst, len_tup, int_int, int_bl, list_lst, list_tup, tuple_lst, sum_ints, all_bls, any_bls, app_key, s_nil, s_cons, nx_nx, nx_rt, nx_bk, nx_ct, s_asg, s_unp, s_par, s_fld, s_app, s_bset, s_expr, s_ret, s_retN, s_ifs, s_for, s_while, s_pass, s_brk, s_cont, res_rt, res_nx, self_nx, ret_bnd, fail_bnd, bnd_assoc, seq_bnd, opt_s, opt_n, gV_0, gV_s, glo_c, fls_nil, fls_cons, hass_nil, hass_cons, fl_int, fl_bl, fl_str, fl_non, fl_bag, fl_lst, fl_tup, fl_ins, has_int, has_bl, has_str, has_non, has_bag, has_lst, has_tup, has_ins, fz_own, fz_sh, fz_brw, bw_own, bw_sh, bw_brw, ub_own, ub_sh, ub_brw, so_own, so_sh, so_brw, tt_own, tt_sh, tt_brw, keep_f, keeps_f, keep_t, keeps_t, attr_prop, attr_fld, meth_m, methk_m, mul_m, add_m, sub_m, eq_m, ne_m, tru_m, bool_m, fl_rowL, fl_rowT, has_rowL, has_rowT, fl_tabL, fl_tabT, has_tabLt, has_tabTt, hb_L_sh, hb_L_own, hb_T_sh, hb_T_own, ite_self, fls_ints, hass_ints, fls_im, hass_im, fls_rowL, fls_rowT, List.set_cons_zero, List.set_cons_succ, wipeE, setsE, tgE, ITg.ix, giveE, IE.vars, IEs.vars, reduceCtorEq, decide_false, decide_true, Bool.or_false, Bool.false_or, Bool.or_true, Bool.true_or, Bool.and_true, Bool.true_and, Bool.and_false, Bool.false_and, Bool.not_true, Bool.not_false, if_true, if_false, ite_true, ite_false, Bool.false_eq_true, ne_eq, not_false_eq_true, not_true_eq_false, List.cons_append, List.nil_append, List.append_nil, List.mem_cons, List.not_mem_nil, or_false, false_or, or_true, true_or, Nat.reduceEqDiff, Nat.reduceAdd, eq_self, and_self, and_true, true_and, Option.map_some, Option.map_none, List.getElem?_cons_zero, List.getElem?_cons_succ, is_bl, (isi_bl b).1, (isi_bl b).2.1, (isi_bl b).2.2.1, (isi_bl b).2.2.2]
  | k, n, .int b, _, _, _ => by
    rw [c_law_like]
    simp only [b_law_like, v_var, v_int, v_str, v_bl, v_non, v_bin, v_neg, v_not, v_bop, v_ife, v_cmp, v_cmp2, v_call, v_scall_s, v_meth, v_methk, v_attr, v_blt, v_isi, v_lst, v_tup, v_idx, v_sl, p_no, p_part, v_lc, v_lcif, v_lc2, i_seq, i_range1, i_range2, i_zip, i_enum, evs_nil, evs_cons, t_not, t_bop, t_ife, t_var, t_bl, t_cmp, t_cmp2, t_call, t_scall, t_meth, t_methk, t_attr, t_blt, t_isi, t_lc, t_idx, t_bin, bopT_and_t, bopT_and_f, bopT_or_t, bopT_or_f, bopM_and_t, bopM_and_f, bopM_or_t, bopM_or_f, tru_bl, tru_int, tru_lst, tru_tup, neg_int, part_int, add_int, sub_int, lt_int, le_int, gt_int, ge_int, eq_int, ne_int, eq_bl, ne_bl, cmpI_lt, cmpI_le, len_lst, len_tup, int_int, int_bl, list_lst, list_tup, tuple_lst, sum_ints, all_bls, any_bls, app_key, s_nil, s_cons, nx_nx, nx_rt, nx_bk, nx_ct, s_asg, s_unp, s_par, s_fld, s_app, s_bset, s_expr, s_ret, s_retN, s_ifs, s_for, s_while, s_pass, s_brk, s_cont, res_rt, res_nx, self_nx, ret_bnd, fail_bnd, bnd_assoc, seq_bnd, opt_s, opt_n, gV_0, gV_s, glo_c, fls_nil, fls_cons, hass_nil, hass_cons, fl_int, fl_bl, fl_str, fl_non, fl_bag, fl_lst, fl_tup, fl_ins, has_int, has_bl, has_str, has_non, has_bag, has_lst, has_tup, has_ins, fz_own, fz_sh, fz_brw, bw_own, bw_sh, bw_brw, ub_own, ub_sh, ub_brw, so_own, so_sh, so_brw, tt_own, tt_sh, tt_brw, keep_f, keeps_f, keep_t, keeps_t, attr_prop, attr_fld, meth_m, methk_m, mul_m, add_m, sub_m, eq_m, ne_m, tru_m, bool_m, fl_rowL, fl_rowT, has_rowL, has_rowT, fl_tabL, fl_tabT, has_tabLt, has_tabTt, hb_L_sh, hb_L_own, hb_T_sh, hb_T_own, ite_self, fls_ints, hass_ints, fls_im, hass_im, fls_rowL, fls_rowT, List.set_cons_zero, List.set_cons_succ, wipeE, setsE, tgE, ITg.ix, giveE, IE.vars, IEs.vars, reduceCtorEq, decide_false, decide_true, Bool.or_false, Bool.false_or, Bool.or_true, Bool.true_or, Bool.and_true, Bool.true_and, Bool.and_false, Bool.false_and, Bool.not_true, Bool.not_false, if_true, if_false, ite_true, ite_false, Bool.false_eq_true, ne_eq, not_false_eq_true, not_true_eq_false, List.cons_append, List.nil_append, List.append_nil, List.mem_cons, List.not_mem_nil, or_false, false_or, or_true, true_or, Nat.reduceEqDiff, Nat.reduceAdd, eq_self, and_self, and_true, true_and, Option.map_some, Option.map_none, List.getElem?_cons_zero, List.getElem?_cons_succ, is_int, (isi_int b).1, (isi_int b).2.1, (isi_int b).2.2.1, (isi_int b).2.2.2]
  | k, n, .str b, _, h, _ => by
    rw [c_law_like]
    simp only [b_law_like, v_var, v_int, v_str, v_bl, v_non, v_bin, v_neg, v_not, v_bop, v_ife, v_cmp, v_cmp2, v_call, v_scall_s, v_meth, v_methk, v_attr, v_blt, v_isi, v_lst, v_tup, v_idx, v_sl, p_no, p_part, v_lc, v_lcif, v_lc2, i_seq, i_range1, i_range2, i_zip, i_enum, evs_nil, evs_cons, t_not, t_bop, t_ife, t_var, t_bl, t_cmp, t_cmp2, t_call, t_scall, t_meth, t_methk, t_attr, t_blt, t_isi, t_lc, t_idx, t_bin, bopT_and_t, bopT_and_f, bopT_or_t, bopT_or_f, bopM_and_t, bopM_and_f, bopM_or_t, bopM_or_f, tru_bl, tru_int, tru_lst, tru_tup, neg_int, part_int, add_int, sub_int, lt_int, le_int, gt_int, ge_int, eq_int, ne_int, eq_bl, ne_bl, cmpI_lt, cmpI_le, len_lst, len_tup, int_int, int_bl, list_lst, list_tup, tuple_lst, sum_ints, all_bls, any_bls, app_key, s_nil, s_cons, nx_nx, nx_rt, nx_bk, nx_ct, s_asg, s_unp, s_par, s_fld, s_app, s_bset, s_expr, s_ret, s_retN, s_ifs, s_for, s_while, s_pass, s_brk, s_cont, res_rt, res_nx, self_nx, ret_bnd, fail_bnd, bnd_assoc, seq_bnd, opt_s, opt_n, gV_0, gV_s, glo_c, fls_nil, fls_cons, hass_nil, hass_cons, fl_int, fl_bl, fl_str, fl_non, fl_bag, fl_lst, fl_tup, fl_ins, has_int, has_bl, has_str, has_non, has_bag, has_lst, has_tup, has_ins, fz_own, fz_sh, fz_brw, bw_own, bw_sh, bw_brw, ub_own, ub_sh, ub_brw, so_own, so_sh, so_brw, tt_own, tt_sh, tt_brw, keep_f, keeps_f, keep_t, keeps_t, attr_prop, attr_fld, meth_m, methk_m, mul_m, add_m, sub_m, eq_m, ne_m, tru_m, bool_m, fl_rowL, fl_rowT, has_rowL, has_rowT, fl_tabL, fl_tabT, has_tabLt, has_tabTt, hb_L_sh, hb_L_own, hb_T_sh, hb_T_own, ite_self, fls_ints, hass_ints, fls_im, hass_im, fls_rowL, fls_rowT, List.set_cons_zero, List.set_cons_succ, wipeE, setsE, tgE, ITg.ix, giveE, IE.vars, IEs.vars, reduceCtorEq, decide_false, decide_true, Bool.or_false, Bool.false_or, Bool.or_true, Bool.true_or, Bool.and_true, Bool.true_and, Bool.and_false, Bool.false_and, Bool.not_true, Bool.not_false, if_true, if_false, ite_true, ite_false, Bool.false_eq_true, ne_eq, not_false_eq_true, not_true_eq_false, List.cons_append, List.nil_append, List.append_nil, List.mem_cons, List.not_mem_nil, or_false, false_or, or_true, true_or, Nat.reduceEqDiff, Nat.reduceAdd, eq_self, and_self, and_true, true_and, Option.map_some, Option.map_none, List.getElem?_cons_zero, List.getElem?_cons_succ, is_str, (isi_str b).1, (isi_str b).2.1, (isi_str b).2.2.1, (isi_str b).2.2.2, eq_str_same h]
  | 0, n, .lst f xs, h, _, _ => by
    rw [dpD] at h
    omega
  | k + 1, n, .lst f xs, h, hp, hs => by
    rw [plD, Bool.and_eq_true, decide_eq_true_eq] at hp
    obtain ⟨hl, hp⟩ := hp
    obtain ⟨rfl, hS⟩ := shd_lst hs
    rw [dpD] at h
    rw [c_law_like]
    simp only [b_law_like, v_var, v_int, v_str, v_bl, v_non, v_bin, v_neg, v_not, v_bop, v_ife, v_cmp, v_cmp2, v_call, v_scall_s, v_meth, v_methk, v_attr, v_blt, v_isi, v_lst, v_tup, v_idx, v_sl, p_no, p_part, v_lc, v_lcif, v_lc2, i_seq, i_range1, i_range2, i_zip, i_enum, evs_nil, evs_cons, t_not, t_bop, t_ife, t_var, t_bl, t_cmp, t_cmp2, t_call, t_scall, t_meth, t_methk, t_attr, t_blt, t_isi, t_lc, t_idx, t_bin, bopT_and_t, bopT_and_f, bopT_or_t, bopT_or_f, bopM_and_t, bopM_and_f, bopM_or_t, bopM_or_f, tru_bl, tru_int, tru_lst, tru_tup, neg_int, part_int, add_int, sub_int, lt_int, le_int, gt_int, ge_int, eq_int, ne_int, eq_bl, ne_bl, cmpI_lt, cmpI_le, len_lst, len_tup, int_int, int_bl, list_lst, list_tup, tuple_lst, sum_ints, all_bls, any_bls, app_key, s_nil, s_cons, nx_nx, nx_rt, nx_bk, nx_ct, s_asg, s_unp, s_par, s_fld, s_app, s_bset, s_expr, s_ret, s_retN, s_ifs, s_for, s_while, s_pass, s_brk, s_cont, res_rt, res_nx, self_nx, ret_bnd, fail_bnd, bnd_assoc, seq_bnd, opt_s, opt_n, gV_0, gV_s, glo_c, fls_nil, fls_cons, hass_nil, hass_cons, fl_int, fl_bl, fl_str, fl_non, fl_bag, fl_lst, fl_tup, fl_ins, has_int, has_bl, has_str, has_non, has_bag, has_lst, has_tup, has_ins, fz_own, fz_sh, fz_brw, bw_own, bw_sh, bw_brw, ub_own, ub_sh, ub_brw, so_own, so_sh, so_brw, tt_own, tt_sh, tt_brw, keep_f, keeps_f, keep_t, keeps_t, attr_prop, attr_fld, meth_m, methk_m, mul_m, add_m, sub_m, eq_m, ne_m, tru_m, bool_m, fl_rowL, fl_rowT, has_rowL, has_rowT, fl_tabL, fl_tabT, has_tabLt, has_tabTt, hb_L_sh, hb_L_own, hb_T_sh, hb_T_own, ite_self, fls_ints, hass_ints, fls_im, hass_im, fls_rowL, fls_rowT, List.set_cons_zero, List.set_cons_succ, wipeE, setsE, tgE, ITg.ix, giveE, IE.vars, IEs.vars, reduceCtorEq, decide_false, decide_true, Bool.or_false, Bool.false_or, Bool.or_true, Bool.true_or, Bool.and_true, Bool.true_and, Bool.and_false, Bool.false_and, Bool.not_true, Bool.not_false, if_true, if_false, ite_true, ite_false, Bool.false_eq_true, ne_eq, not_false_eq_true, not_true_eq_false, List.cons_append, List.nil_append, List.append_nil, List.mem_cons, List.not_mem_nil, or_false, false_or, or_true, true_or, Nat.reduceEqDiff, Nat.reduceAdd, eq_self, and_self, and_true, true_and, Option.map_some, Option.map_none, List.getElem?_cons_zero, List.getElem?_cons_succ, isi_lst_lt, isi_l, isi_l_t, fls_shd bw_sh hS, zip_same _ _ hS]
    have ih : ∀ d ∈ xs, callP P W noP (n + (k + 1)) "_law_like" [d, d] = ret (.bl true) := fun d hd => like_refl k (by have := dpDs_mem hd; omega) (plDs_mem hp d hd) (hS d hd)
    have hlc : lcM P (callP P W noP (n + (k + 1))) [some (.lst .sh xs), some (.lst .sh xs), none, none] (.tup [2, 3]) (.call "_law_like" (.cons (.var 2) (.cons (.var 3) .nil))) (xs.map fun x => pairD x x) = ret (.lst .own (xs.map fun _ => .bl true)) := by
      refine lc_map hl fun d hd => ?_
      have hD := hS d hd
      simp only [pairD, v_var, v_int, v_str, v_bl, v_non, v_bin, v_neg, v_not, v_bop, v_ife, v_cmp, v_cmp2, v_call, v_scall_s, v_meth, v_methk, v_attr, v_blt, v_isi, v_lst, v_tup, v_idx, v_sl, p_no, p_part, v_lc, v_lcif, v_lc2, i_seq, i_range1, i_range2, i_zip, i_enum, evs_nil, evs_cons, t_not, t_bop, t_ife, t_var, t_bl, t_cmp, t_cmp2, t_call, t_scall, t_meth, t_methk, t_attr, t_blt, t_isi, t_lc, t_idx, t_bin, bopT_and_t, bopT_and_f, bopT_or_t, bopT_or_f, bopM_and_t, bopM_and_f, bopM_or_t, bopM_or_f, tru_bl, tru_int, tru_lst, tru_tup, neg_int, part_int, add_int, sub_int, lt_int, le_int, gt_int, ge_int, eq_int, ne_int, eq_bl, ne_bl, cmpI_lt, cmpI_le, len_lst, len_tup, int_int, int_bl, list_lst, list_tup, tuple_lst, sum_ints, all_bls, any_bls, app_key, s_nil, s_cons, nx_nx, nx_rt, nx_bk, nx_ct, s_asg, s_unp, s_par, s_fld, s_app, s_bset, s_expr, s_ret, s_retN, s_ifs, s_for, s_while, s_pass, s_brk, s_cont, res_rt, res_nx, self_nx, ret_bnd, fail_bnd, bnd_assoc, seq_bnd, opt_s, opt_n, gV_0, gV_s, glo_c, fls_nil, fls_cons, hass_nil, hass_cons, fl_int, fl_bl, fl_str, fl_non, fl_bag, fl_lst, fl_tup, fl_ins, has_int, has_bl, has_str, has_non, has_bag, has_lst, has_tup, has_ins, fz_own, fz_sh, fz_brw, bw_own, bw_sh, bw_brw, ub_own, ub_sh, ub_brw, so_own, so_sh, so_brw, tt_own, tt_sh, tt_brw, keep_f, keeps_f, keep_t, keeps_t, attr_prop, attr_fld, meth_m, methk_m, mul_m, add_m, sub_m, eq_m, ne_m, tru_m, bool_m, fl_rowL, fl_rowT, has_rowL, has_rowT, fl_tabL, fl_tabT, has_tabLt, has_tabTt, hb_L_sh, hb_L_own, hb_T_sh, hb_T_own, ite_self, fls_ints, hass_ints, fls_im, hass_im, fls_rowL, fls_rowT, List.set_cons_zero, List.set_cons_succ, wipeE, setsE, tgE, ITg.ix, giveE, IE.vars, IEs.vars, reduceCtorEq, decide_false, decide_true, Bool.or_false, Bool.false_or, Bool.or_true, Bool.true_or, Bool.and_true, Bool.true_and, Bool.and_false, Bool.false_and, Bool.not_true, Bool.not_false, if_true, if_false, ite_true, ite_false, Bool.false_eq_true, ne_eq, not_false_eq_true, not_true_eq_false, List.cons_append, List.nil_append, List.append_nil, List.mem_cons, List.not_mem_nil, or_false, false_or, or_true, true_or, Nat.reduceEqDiff, Nat.reduceAdd, eq_self, and_self, and_true, true_and, Option.map_some, Option.map_none, List.getElem?_cons_zero, List.getElem?_cons_succ, hD.fl so_sh, hD.fl bw_sh, hD.fl fz_sh, hD.has, ih d hd]
    simp only [hlc, v_var, v_int, v_str, v_bl, v_non, v_bin, v_neg, v_not, v_bop, v_ife, v_cmp, v_cmp2, v_call, v_scall_s, v_meth, v_methk, v_attr, v_blt, v_isi, v_lst, v_tup, v_idx, v_sl, p_no, p_part, v_lc, v_lcif, v_lc2, i_seq, i_range1, i_range2, i_zip, i_enum, evs_nil, evs_cons, t_not, t_bop, t_ife, t_var, t_bl, t_cmp, t_cmp2, t_call, t_scall, t_meth, t_methk, t_attr, t_blt, t_isi, t_lc, t_idx, t_bin, bopT_and_t, bopT_and_f, bopT_or_t, bopT_or_f, bopM_and_t, bopM_and_f, bopM_or_t, bopM_or_f, tru_bl, tru_int, tru_lst, tru_tup, neg_int, part_int, add_int, sub_int, lt_int, le_int, gt_int, ge_int, eq_int, ne_int, eq_bl, ne_bl, cmpI_lt, cmpI_le, len_lst, len_tup, int_int, int_bl, list_lst, list_tup, tuple_lst, sum_ints, all_bls, any_bls, app_key, s_nil, s_cons, nx_nx, nx_rt, nx_bk, nx_ct, s_asg, s_unp, s_par, s_fld, s_app, s_bset, s_expr, s_ret, s_retN, s_ifs, s_for, s_while, s_pass, s_brk, s_cont, res_rt, res_nx, self_nx, ret_bnd, fail_bnd, bnd_assoc, seq_bnd, opt_s, opt_n, gV_0, gV_s, glo_c, fls_nil, fls_cons, hass_nil, hass_cons, fl_int, fl_bl, fl_str, fl_non, fl_bag, fl_lst, fl_tup, fl_ins, has_int, has_bl, has_str, has_non, has_bag, has_lst, has_tup, has_ins, fz_own, fz_sh, fz_brw, bw_own, bw_sh, bw_brw, ub_own, ub_sh, ub_brw, so_own, so_sh, so_brw, tt_own, tt_sh, tt_brw, keep_f, keeps_f, keep_t, keeps_t, attr_prop, attr_fld, meth_m, methk_m, mul_m, add_m, sub_m, eq_m, ne_m, tru_m, bool_m, fl_rowL, fl_rowT, has_rowL, has_rowT, fl_tabL, fl_tabT, has_tabLt, has_tabTt, hb_L_sh, hb_L_own, hb_T_sh, hb_T_own, ite_self, fls_ints, hass_ints, fls_im, hass_im, fls_rowL, fls_rowT, List.set_cons_zero, List.set_cons_succ, wipeE, setsE, tgE, ITg.ix, giveE, IE.vars, IEs.vars, reduceCtorEq, decide_false, decide_true, Bool.or_false, Bool.false_or, Bool.or_true, Bool.true_or, Bool.and_true, Bool.true_and, Bool.and_false, Bool.false_and, Bool.not_true, Bool.not_false, if_true, if_false, ite_true, ite_false, Bool.false_eq_true, ne_eq, not_false_eq_true, not_true_eq_false, List.cons_append, List.nil_append, List.append_nil, List.mem_cons, List.not_mem_nil, or_false, false_or, or_true, true_or, Nat.reduceEqDiff, Nat.reduceAdd, eq_self, and_self, and_true, true_and, Option.map_some, Option.map_none, List.getElem?_cons_zero, List.getElem?_cons_succ, all_t]
end
end TI.TL

set_option Elab.async false
set_option linter.all false
set_option maxRecDepth 100000
set_option maxHeartbeats 2000000
/-! the laws' own way with deeds: states -/
namespace TI.TL
open PySem PySem.Spec PyProof.Rows L2
theorem sum_range (f : Nat → Int) : ∀ n, ((List.range n).map f).sum = sumN f n
  | 0 => rfl
  | n + 1 => by rw [List.range_succ, List.map_append, List.sum_append, sum_range f n, sumN]; simp
theorem cut_1 (g : Nat → D) (k : Nat) : cutD ((List.range (k + 1)).map g) (some 1) none = (List.range k).map fun j => g (j + 1) := by
  unfold cutD
  have e1 : HT.sIx ((List.range (k + 1)).map g).length 0 (some 1) = 1 := by
    unfold HT.sIx
    simp
  have e2 : HT.sIx ((List.range (k + 1)).map g).length ((List.range (k + 1)).map g).length none = k + 1 := by
    unfold HT.sIx
    simp
  rw [e1, e2, List.range_succ_eq_map, List.map_cons, List.drop_one, List.tail_cons, List.map_map, List.take_of_length_le (by simp)]
  rfl
theorem cut_to (g : Nat → D) {k N : Nat} (h : k ≤ N) : cutD ((List.range N).map g) none (some (k : Int)) = (List.range k).map g := by
  unfold cutD
  have e1 : HT.sIx ((List.range N).map g).length 0 none = 0 := rfl
  have e2 : HT.sIx ((List.range N).map g).length ((List.range N).map g).length (some (k : Int)) = k := by
    rw [HT.sIx_nat]
    simp; omega
  rw [e1, e2, List.drop_zero, Nat.sub_zero, ← List.map_take, List.take_range, Nat.min_eq_left h]
theorem cut_1to (g : Nat → D) {k N : Nat} (h : k ≤ N) : cutD ((List.range (N + 1)).map g) (some 1) (some ((k + 1 : Nat) : Int)) = (List.range k).map fun j => g (j + 1) := by
  unfold cutD
  have e1 : HT.sIx ((List.range (N + 1)).map g).length 0 (some 1) = 1 := by
    unfold HT.sIx
    simp
  have e2 : HT.sIx ((List.range (N + 1)).map g).length ((List.range (N + 1)).map g).length (some ((k + 1 : Nat) : Int)) = k + 1 := by
    rw [HT.sIx_nat]
    simp; omega
  rw [e1, e2, List.range_succ_eq_map, List.map_cons, List.drop_one, List.tail_cons, List.map_map, Nat.add_sub_cancel, ← List.map_take, List.take_range, Nat.min_eq_left h]
  rfl
theorem zip_range (f g : Fl) (k : Nat) (p q : Nat → Int) : zipD (.lst f ((List.range k).map fun j => D.int (p j))) (.lst g ((List.range k).map fun j => D.int (q j))) = some ((List.range k).map fun j => pairD (.int (p j)) (.int (q j))) := by
  have e1 : ∀ f (p : Nat → Int), itemsD (.lst f ((List.range k).map fun j => D.int (p j))) = some ((List.range k).map fun j => D.int (p j)) := fun f p => by
    show some (D.fls Fl.so ((List.range k).map fun j => D.int (p j))) = _
    rw [fls_im]
  unfold zipD
  rw [e1, e1]
  simp only [List.zipWith_map_left, List.zipWith_map_right, List.zipWith_self]
section
variable {P : Pg} {cl : Str → List D → M D} {W n : Nat}
theorem atI_range0 (g : Nat → D) (k : Nat) : L2.atI ((List.range (k + 1)).map g) 0 = some (g 0) := atI_range g (k + 1) 0 (by omega)
theorem pu_lcr {α : Type} {env : Env} {tg : ITg} {elt : IE} {k : Nat} {h : Nat → D} {K : D → M α} {Q : α → Prop} (g : Nat → D) (hl : k ≤ sizeLine)
    (H : ∀ x, x < k → bnd (opt (tgE tg (h x).so (wipeE env tg.ix))) (fun env' => (evA P cl elt).v env') = ret (g x)) (hK : Pu (K (.lst .own ((List.range k).map g))) Q) : Pu (bnd (lcM P cl env tg elt ((List.range k).map h)) K) Q := by
  rw [bnd_lcr g hl H rfl]
  exact hK
theorem sl_lst (f : Fl) (xs : List D) (l u : Option Int) : slD (.lst f xs) l u = some (.lst .own (cutD xs l u)) := nr rfl
/-- a state's numbers are smaller than 2^k -/
def Sb (N k : Nat) (s : Sa) : Prop := ∀ r, r < N → (s r).natAbs < 2 ^ k
theorem sumN_le {f : Nat → Int} {M n : Nat} (h : ∀ j, j < n → (f j).natAbs ≤ M) : (sumN f n).natAbs ≤ n * M := by
  have := accN_le (b := 0) (B := 0) (f := f) (M := M) (n := n) (by simp) h
  rw [accN_eq] at this
  simpa using this
theorem Sb.act {N a b : Nat} {e : Ta} {s : Sa} (hN : N ≤ 4) (he : Tb N a e) (hs : Sb N b s) : Sb N (a + b + 3) (act e s) := fun r hr => by
  have h1 := he r 0 (by omega) hr
  have h2 := hs r hr
  have h3 := sumN_le (M := 2 ^ (a + b)) (f := fun j => e r (j + 1) * s j) (n := r) fun j hj => mul_lt (he _ _ (by omega) hr) (hs _ (by omega))
  have h4 : 2 ^ a ≤ 2 ^ (a + b) := Nat.pow_le_pow_right (by decide) (by omega)
  have h5 : 2 ^ b ≤ 2 ^ (a + b) := Nat.pow_le_pow_right (by decide) (by omega)
  have h6 : 2 ^ (a + b + 3) = 2 ^ (a + b) * 8 := by rw [Nat.pow_add]
  have h8 : r * 2 ^ (a + b) ≤ 3 * 2 ^ (a + b) := Nat.mul_le_mul_right _ (by omega)
  have e1 : TL.act e s r = s r + e r 0 + sumN (fun j => e r (j + 1) * s j) r := rfl
  rw [e1]
  omega
theorem on_ok [Has P d_law_on] {N a b : Nat} {e : Ta} {s : Sa} (hN : N ≤ 4) (he : Tb N a e) (hs : Sb N b s) (ha : a ≤ 400000) (hb : b ≤ 400000) :
    callP P W noP (n + 1) "_law_on" [tabL .sh .sh (tab N e), rowL .sh ((List.range N).map s)] = ret (rowL .sh ((List.range N).map (act e s))) := by
  have hS : sizeLine = 2 ^ 24 := rfl
  rw [c_law_on]
  refine pu_eq ?_
  simp only [b_law_on, v_var, v_int, v_str, v_bl, v_non, v_bin, v_neg, v_not, v_bop, v_ife, v_cmp, v_cmp2, v_call, v_scall_s, v_meth, v_methk, v_attr, v_blt, v_isi, v_lst, v_tup, v_idx, v_sl, p_no, p_part, v_lc, v_lcif, v_lc2, i_seq, i_range1, i_range2, i_zip, i_enum, evs_nil, evs_cons, t_not, t_bop, t_ife, t_var, t_bl, t_cmp, t_cmp2, t_call, t_scall, t_meth, t_methk, t_attr, t_blt, t_isi, t_lc, t_idx, t_bin, bopT_and_t, bopT_and_f, bopT_or_t, bopT_or_f, bopM_and_t, bopM_and_f, bopM_or_t, bopM_or_f, tru_bl, tru_int, tru_lst, tru_tup, neg_int, part_int, add_int, sub_int, lt_int, le_int, gt_int, ge_int, eq_int, ne_int, eq_bl, ne_bl, cmpI_lt, cmpI_le, len_lst, len_tup, int_int, int_bl, list_lst, list_tup, tuple_lst, sum_ints, all_bls, any_bls, app_key, s_nil, s_cons, nx_nx, nx_rt, nx_bk, nx_ct, s_asg, s_unp, s_par, s_fld, s_app, s_bset, s_expr, s_ret, s_retN, s_ifs, s_for, s_while, s_pass, s_brk, s_cont, res_rt, res_nx, self_nx, ret_bnd, fail_bnd, bnd_assoc, seq_bnd, opt_s, opt_n, gV_0, gV_s, glo_c, fls_nil, fls_cons, hass_nil, hass_cons, fl_int, fl_bl, fl_str, fl_non, fl_bag, fl_lst, fl_tup, fl_ins, has_int, has_bl, has_str, has_non, has_bag, has_lst, has_tup, has_ins, fz_own, fz_sh, fz_brw, bw_own, bw_sh, bw_brw, ub_own, ub_sh, ub_brw, so_own, so_sh, so_brw, tt_own, tt_sh, tt_brw, keep_f, keeps_f, keep_t, keeps_t, attr_prop, attr_fld, meth_m, methk_m, mul_m, add_m, sub_m, eq_m, ne_m, tru_m, bool_m, fl_rowL, fl_rowT, has_rowL, has_rowT, fl_tabL, fl_tabT, has_tabLt, has_tabTt, hb_L_sh, hb_L_own, hb_T_sh, hb_T_own, ite_self, fls_ints, hass_ints, fls_im, hass_im, fls_rowL, fls_rowT, List.set_cons_zero, List.set_cons_succ, wipeE, setsE, tgE, ITg.ix, giveE, IE.vars, IEs.vars, reduceCtorEq, decide_false, decide_true, Bool.or_false, Bool.false_or, Bool.or_true, Bool.true_or, Bool.and_true, Bool.true_and, Bool.and_false, Bool.false_and, Bool.not_true, Bool.not_false, if_true, if_false, ite_true, ite_false, Bool.false_eq_true, ne_eq, not_false_eq_true, not_true_eq_false, List.cons_append, List.nil_append, List.append_nil, List.mem_cons, List.not_mem_nil, or_false, false_or, or_true, true_or, Nat.reduceEqDiff, Nat.reduceAdd, eq_self, and_self, and_true, true_and, Option.map_some, Option.map_none, List.getElem?_cons_zero, List.getElem?_cons_succ, seq_ret, List.length_nil, Nat.zero_le, len_tabL, range1_nat _ (show N ≤ sizeLine by omega)]
  refine pu_bnd (pu_forr (fun r env => ∃ z3 z4 z5 z6, env = [some (tabL .sh .sh (tab N e)), some (rowL .sh ((List.range N).map s)), some (.lst .own ((List.range r).map fun i => D.int (act e s i))), z3, z4, z5, z6]) ⟨none, none, none, none, rfl⟩ ?_) ?_
  · rintro r hr env ⟨z3, z4, z5, z6, rfl⟩
    simp only [v_var, v_int, v_str, v_bl, v_non, v_bin, v_neg, v_not, v_bop, v_ife, v_cmp, v_cmp2, v_call, v_scall_s, v_meth, v_methk, v_attr, v_blt, v_isi, v_lst, v_tup, v_idx, v_sl, p_no, p_part, v_lc, v_lcif, v_lc2, i_seq, i_range1, i_range2, i_zip, i_enum, evs_nil, evs_cons, t_not, t_bop, t_ife, t_var, t_bl, t_cmp, t_cmp2, t_call, t_scall, t_meth, t_methk, t_attr, t_blt, t_isi, t_lc, t_idx, t_bin, bopT_and_t, bopT_and_f, bopT_or_t, bopT_or_f, bopM_and_t, bopM_and_f, bopM_or_t, bopM_or_f, tru_bl, tru_int, tru_lst, tru_tup, neg_int, part_int, add_int, sub_int, lt_int, le_int, gt_int, ge_int, eq_int, ne_int, eq_bl, ne_bl, cmpI_lt, cmpI_le, len_lst, len_tup, int_int, int_bl, list_lst, list_tup, tuple_lst, sum_ints, all_bls, any_bls, app_key, s_nil, s_cons, nx_nx, nx_rt, nx_bk, nx_ct, s_asg, s_unp, s_par, s_fld, s_app, s_bset, s_expr, s_ret, s_retN, s_ifs, s_for, s_while, s_pass, s_brk, s_cont, res_rt, res_nx, self_nx, ret_bnd, fail_bnd, bnd_assoc, seq_bnd, opt_s, opt_n, gV_0, gV_s, glo_c, fls_nil, fls_cons, hass_nil, hass_cons, fl_int, fl_bl, fl_str, fl_non, fl_bag, fl_lst, fl_tup, fl_ins, has_int, has_bl, has_str, has_non, has_bag, has_lst, has_tup, has_ins, fz_own, fz_sh, fz_brw, bw_own, bw_sh, bw_brw, ub_own, ub_sh, ub_brw, so_own, so_sh, so_brw, tt_own, tt_sh, tt_brw, keep_f, keeps_f, keep_t, keeps_t, attr_prop, attr_fld, meth_m, methk_m, mul_m, add_m, sub_m, eq_m, ne_m, tru_m, bool_m, fl_rowL, fl_rowT, has_rowL, has_rowT, fl_tabL, fl_tabT, has_tabLt, has_tabTt, hb_L_sh, hb_L_own, hb_T_sh, hb_T_own, ite_self, fls_ints, hass_ints, fls_im, hass_im, fls_rowL, fls_rowT, List.set_cons_zero, List.set_cons_succ, wipeE, setsE, tgE, ITg.ix, giveE, IE.vars, IEs.vars, reduceCtorEq, decide_false, decide_true, Bool.or_false, Bool.false_or, Bool.or_true, Bool.true_or, Bool.and_true, Bool.true_and, Bool.and_false, Bool.false_and, Bool.not_true, Bool.not_false, if_true, if_false, ite_true, ite_false, Bool.false_eq_true, ne_eq, not_false_eq_true, not_true_eq_false, List.cons_append, List.nil_append, List.append_nil, List.mem_cons, List.not_mem_nil, or_false, false_or, or_true, true_or, Nat.reduceEqDiff, Nat.reduceAdd, eq_self, and_self, and_true, true_and, Option.map_some, Option.map_none, List.getElem?_cons_zero, List.getElem?_cons_succ, idx_tabL, hr, rowL_def, sl_lst, cut_1, cut_to _ (show r ≤ N by omega), zip_range]
    refine pu_lcr (fun j => .int (e r (j + 1) * s j)) (by omega) (fun j hj => ?_) ?_
    · have h5 : mulOk (e r (j + 1)) (s j) = true := mulOk_of' (he _ _ (by omega) hr) (hs _ (by omega)) ha hb
      simp only [pairD, v_var, v_int, v_str, v_bl, v_non, v_bin, v_neg, v_not, v_bop, v_ife, v_cmp, v_cmp2, v_call, v_scall_s, v_meth, v_methk, v_attr, v_blt, v_isi, v_lst, v_tup, v_idx, v_sl, p_no, p_part, v_lc, v_lcif, v_lc2, i_seq, i_range1, i_range2, i_zip, i_enum, evs_nil, evs_cons, t_not, t_bop, t_ife, t_var, t_bl, t_cmp, t_cmp2, t_call, t_scall, t_meth, t_methk, t_attr, t_blt, t_isi, t_lc, t_idx, t_bin, bopT_and_t, bopT_and_f, bopT_or_t, bopT_or_f, bopM_and_t, bopM_and_f, bopM_or_t, bopM_or_f, tru_bl, tru_int, tru_lst, tru_tup, neg_int, part_int, add_int, sub_int, lt_int, le_int, gt_int, ge_int, eq_int, ne_int, eq_bl, ne_bl, cmpI_lt, cmpI_le, len_lst, len_tup, int_int, int_bl, list_lst, list_tup, tuple_lst, sum_ints, all_bls, any_bls, app_key, s_nil, s_cons, nx_nx, nx_rt, nx_bk, nx_ct, s_asg, s_unp, s_par, s_fld, s_app, s_bset, s_expr, s_ret, s_retN, s_ifs, s_for, s_while, s_pass, s_brk, s_cont, res_rt, res_nx, self_nx, ret_bnd, fail_bnd, bnd_assoc, seq_bnd, opt_s, opt_n, gV_0, gV_s, glo_c, fls_nil, fls_cons, hass_nil, hass_cons, fl_int, fl_bl, fl_str, fl_non, fl_bag, fl_lst, fl_tup, fl_ins, has_int, has_bl, has_str, has_non, has_bag, has_lst, has_tup, has_ins, fz_own, fz_sh, fz_brw, bw_own, bw_sh, bw_brw, ub_own, ub_sh, ub_brw, so_own, so_sh, so_brw, tt_own, tt_sh, tt_brw, keep_f, keeps_f, keep_t, keeps_t, attr_prop, attr_fld, meth_m, methk_m, mul_m, add_m, sub_m, eq_m, ne_m, tru_m, bool_m, fl_rowL, fl_rowT, has_rowL, has_rowT, fl_tabL, fl_tabT, has_tabLt, has_tabTt, hb_L_sh, hb_L_own, hb_T_sh, hb_T_own, ite_self, fls_ints, hass_ints, fls_im, hass_im, fls_rowL, fls_rowT, List.set_cons_zero, List.set_cons_succ, wipeE, setsE, tgE, ITg.ix, giveE, IE.vars, IEs.vars, reduceCtorEq, decide_false, decide_true, Bool.or_false, Bool.false_or, Bool.or_true, Bool.true_or, Bool.and_true, Bool.true_and, Bool.and_false, Bool.false_and, Bool.not_true, Bool.not_false, if_true, if_false, ite_true, ite_false, Bool.false_eq_true, ne_eq, not_false_eq_true, not_true_eq_false, List.cons_append, List.nil_append, List.append_nil, List.mem_cons, List.not_mem_nil, or_false, false_or, or_true, true_or, Nat.reduceEqDiff, Nat.reduceAdd, eq_self, and_self, and_true, true_and, Option.map_some, Option.map_none, List.getElem?_cons_zero, List.getElem?_cons_succ, mul_int, h5]
    · simp only [v_var, v_int, v_str, v_bl, v_non, v_bin, v_neg, v_not, v_bop, v_ife, v_cmp, v_cmp2, v_call, v_scall_s, v_meth, v_methk, v_attr, v_blt, v_isi, v_lst, v_tup, v_idx, v_sl, p_no, p_part, v_lc, v_lcif, v_lc2, i_seq, i_range1, i_range2, i_zip, i_enum, evs_nil, evs_cons, t_not, t_bop, t_ife, t_var, t_bl, t_cmp, t_cmp2, t_call, t_scall, t_meth, t_methk, t_attr, t_blt, t_isi, t_lc, t_idx, t_bin, bopT_and_t, bopT_and_f, bopT_or_t, bopT_or_f, bopM_and_t, bopM_and_f, bopM_or_t, bopM_or_f, tru_bl, tru_int, tru_lst, tru_tup, neg_int, part_int, add_int, sub_int, lt_int, le_int, gt_int, ge_int, eq_int, ne_int, eq_bl, ne_bl, cmpI_lt, cmpI_le, len_lst, len_tup, int_int, int_bl, list_lst, list_tup, tuple_lst, sum_ints, all_bls, any_bls, app_key, s_nil, s_cons, nx_nx, nx_rt, nx_bk, nx_ct, s_asg, s_unp, s_par, s_fld, s_app, s_bset, s_expr, s_ret, s_retN, s_ifs, s_for, s_while, s_pass, s_brk, s_cont, res_rt, res_nx, self_nx, ret_bnd, fail_bnd, bnd_assoc, seq_bnd, opt_s, opt_n, gV_0, gV_s, glo_c, fls_nil, fls_cons, hass_nil, hass_cons, fl_int, fl_bl, fl_str, fl_non, fl_bag, fl_lst, fl_tup, fl_ins, has_int, has_bl, has_str, has_non, has_bag, has_lst, has_tup, has_ins, fz_own, fz_sh, fz_brw, bw_own, bw_sh, bw_brw, ub_own, ub_sh, ub_brw, so_own, so_sh, so_brw, tt_own, tt_sh, tt_brw, keep_f, keeps_f, keep_t, keeps_t, attr_prop, attr_fld, meth_m, methk_m, mul_m, add_m, sub_m, eq_m, ne_m, tru_m, bool_m, fl_rowL, fl_rowT, has_rowL, has_rowT, fl_tabL, fl_tabT, has_tabLt, has_tabTt, hb_L_sh, hb_L_own, hb_T_sh, hb_T_own, ite_self, fls_ints, hass_ints, fls_im, hass_im, fls_rowL, fls_rowT, List.set_cons_zero, List.set_cons_succ, wipeE, setsE, tgE, ITg.ix, giveE, IE.vars, IEs.vars, reduceCtorEq, decide_false, decide_true, Bool.or_false, Bool.false_or, Bool.or_true, Bool.true_or, Bool.and_true, Bool.true_and, Bool.and_false, Bool.false_and, Bool.not_true, Bool.not_false, if_true, if_false, ite_true, ite_false, Bool.false_eq_true, ne_eq, not_false_eq_true, not_true_eq_false, List.cons_append, List.nil_append, List.append_nil, List.mem_cons, List.not_mem_nil, or_false, false_or, or_true, true_or, Nat.reduceEqDiff, Nat.reduceAdd, eq_self, and_self, and_true, true_and, Option.map_some, Option.map_none, List.getElem?_cons_zero, List.getElem?_cons_succ, idx_tabL, idx_lst, atI_range, atI_range0, rowL_def, hr, sum_map, sum_range, appE, List.length_map, List.length_range, show r < sizeLine by omega]
      have e1 : s r + e r 0 + sumN (fun j => e r (j + 1) * s j) r = act e s r := rfl
      rw [e1, range_snoc (fun i => D.int (act e s i))]
      exact pu_nx ⟨_, _, _, _, rfl⟩
  · rintro _ ⟨env, rfl, z3, z4, z5, z6, rfl⟩
    simp only [v_var, v_int, v_str, v_bl, v_non, v_bin, v_neg, v_not, v_bop, v_ife, v_cmp, v_cmp2, v_call, v_scall_s, v_meth, v_methk, v_attr, v_blt, v_isi, v_lst, v_tup, v_idx, v_sl, p_no, p_part, v_lc, v_lcif, v_lc2, i_seq, i_range1, i_range2, i_zip, i_enum, evs_nil, evs_cons, t_not, t_bop, t_ife, t_var, t_bl, t_cmp, t_cmp2, t_call, t_scall, t_meth, t_methk, t_attr, t_blt, t_isi, t_lc, t_idx, t_bin, bopT_and_t, bopT_and_f, bopT_or_t, bopT_or_f, bopM_and_t, bopM_and_f, bopM_or_t, bopM_or_f, tru_bl, tru_int, tru_lst, tru_tup, neg_int, part_int, add_int, sub_int, lt_int, le_int, gt_int, ge_int, eq_int, ne_int, eq_bl, ne_bl, cmpI_lt, cmpI_le, len_lst, len_tup, int_int, int_bl, list_lst, list_tup, tuple_lst, sum_ints, all_bls, any_bls, app_key, s_nil, s_cons, nx_nx, nx_rt, nx_bk, nx_ct, s_asg, s_unp, s_par, s_fld, s_app, s_bset, s_expr, s_ret, s_retN, s_ifs, s_for, s_while, s_pass, s_brk, s_cont, res_rt, res_nx, self_nx, ret_bnd, fail_bnd, bnd_assoc, seq_bnd, opt_s, opt_n, gV_0, gV_s, glo_c, fls_nil, fls_cons, hass_nil, hass_cons, fl_int, fl_bl, fl_str, fl_non, fl_bag, fl_lst, fl_tup, fl_ins, has_int, has_bl, has_str, has_non, has_bag, has_lst, has_tup, has_ins, fz_own, fz_sh, fz_brw, bw_own, bw_sh, bw_brw, ub_own, ub_sh, ub_brw, so_own, so_sh, so_brw, tt_own, tt_sh, tt_brw, keep_f, keeps_f, keep_t, keeps_t, attr_prop, attr_fld, meth_m, methk_m, mul_m, add_m, sub_m, eq_m, ne_m, tru_m, bool_m, fl_rowL, fl_rowT, has_rowL, has_rowT, fl_tabL, fl_tabT, has_tabLt, has_tabTt, hb_L_sh, hb_L_own, hb_T_sh, hb_T_own, ite_self, fls_ints, hass_ints, fls_im, hass_im, fls_rowL, fls_rowT, List.set_cons_zero, List.set_cons_succ, wipeE, setsE, tgE, ITg.ix, giveE, IE.vars, IEs.vars, reduceCtorEq, decide_false, decide_true, Bool.or_false, Bool.false_or, Bool.or_true, Bool.true_or, Bool.and_true, Bool.true_and, Bool.and_false, Bool.false_and, Bool.not_true, Bool.not_false, if_true, if_false, ite_true, ite_false, Bool.false_eq_true, ne_eq, not_false_eq_true, not_true_eq_false, List.cons_append, List.nil_append, List.append_nil, List.mem_cons, List.not_mem_nil, or_false, false_or, or_true, true_or, Nat.reduceEqDiff, Nat.reduceAdd, eq_self, and_self, and_true, true_and, Option.map_some, Option.map_none, List.getElem?_cons_zero, List.getElem?_cons_succ]
    exact pu_ret (rowL_def _ _ _).symm
theorem und_eq (e : Ta) (s : Sa) (r : Nat) : act (invE e) s r = s r - e r 0 - sumN (fun j => e r (j + 1) * act (invE e) s j) r := by
  have h := act_inv (r + 1) e s r (by omega)
  have h1 : act e (act (invE e) s) r = act (invE e) s r + e r 0 + sumN (fun j => e r (j + 1) * act (invE e) s j) r := rfl
  omega
theorem undone_ok [Has P d_law_undone] {N a b : Nat} {e : Ta} {s : Sa} (hN : N ≤ 4) (he : Tb N a e) (hs : Sb N b s) (hb : 4 * (a + 2) + b + 3 ≤ 400000) :
    callP P W noP (n + 1) "_law_undone" [tabL .sh .sh (tab N e), rowL .sh ((List.range N).map s)] = ret (rowL .sh ((List.range N).map (act (invE e) s))) := by
  have hS : sizeLine = 2 ^ 24 := rfl
  have hB := Sb.act hN (Tb.inv hN he) hs
  rw [c_law_undone]
  refine pu_eq ?_
  simp only [b_law_undone, v_var, v_int, v_str, v_bl, v_non, v_bin, v_neg, v_not, v_bop, v_ife, v_cmp, v_cmp2, v_call, v_scall_s, v_meth, v_methk, v_attr, v_blt, v_isi, v_lst, v_tup, v_idx, v_sl, p_no, p_part, v_lc, v_lcif, v_lc2, i_seq, i_range1, i_range2, i_zip, i_enum, evs_nil, evs_cons, t_not, t_bop, t_ife, t_var, t_bl, t_cmp, t_cmp2, t_call, t_scall, t_meth, t_methk, t_attr, t_blt, t_isi, t_lc, t_idx, t_bin, bopT_and_t, bopT_and_f, bopT_or_t, bopT_or_f, bopM_and_t, bopM_and_f, bopM_or_t, bopM_or_f, tru_bl, tru_int, tru_lst, tru_tup, neg_int, part_int, add_int, sub_int, lt_int, le_int, gt_int, ge_int, eq_int, ne_int, eq_bl, ne_bl, cmpI_lt, cmpI_le, len_lst, len_tup, int_int, int_bl, list_lst, list_tup, tuple_lst, sum_ints, all_bls, any_bls, app_key, s_nil, s_cons, nx_nx, nx_rt, nx_bk, nx_ct, s_asg, s_unp, s_par, s_fld, s_app, s_bset, s_expr, s_ret, s_retN, s_ifs, s_for, s_while, s_pass, s_brk, s_cont, res_rt, res_nx, self_nx, ret_bnd, fail_bnd, bnd_assoc, seq_bnd, opt_s, opt_n, gV_0, gV_s, glo_c, fls_nil, fls_cons, hass_nil, hass_cons, fl_int, fl_bl, fl_str, fl_non, fl_bag, fl_lst, fl_tup, fl_ins, has_int, has_bl, has_str, has_non, has_bag, has_lst, has_tup, has_ins, fz_own, fz_sh, fz_brw, bw_own, bw_sh, bw_brw, ub_own, ub_sh, ub_brw, so_own, so_sh, so_brw, tt_own, tt_sh, tt_brw, keep_f, keeps_f, keep_t, keeps_t, attr_prop, attr_fld, meth_m, methk_m, mul_m, add_m, sub_m, eq_m, ne_m, tru_m, bool_m, fl_rowL, fl_rowT, has_rowL, has_rowT, fl_tabL, fl_tabT, has_tabLt, has_tabTt, hb_L_sh, hb_L_own, hb_T_sh, hb_T_own, ite_self, fls_ints, hass_ints, fls_im, hass_im, fls_rowL, fls_rowT, List.set_cons_zero, List.set_cons_succ, wipeE, setsE, tgE, ITg.ix, giveE, IE.vars, IEs.vars, reduceCtorEq, decide_false, decide_true, Bool.or_false, Bool.false_or, Bool.or_true, Bool.true_or, Bool.and_true, Bool.true_and, Bool.and_false, Bool.false_and, Bool.not_true, Bool.not_false, if_true, if_false, ite_true, ite_false, Bool.false_eq_true, ne_eq, not_false_eq_true, not_true_eq_false, List.cons_append, List.nil_append, List.append_nil, List.mem_cons, List.not_mem_nil, or_false, false_or, or_true, true_or, Nat.reduceEqDiff, Nat.reduceAdd, eq_self, and_self, and_true, true_and, Option.map_some, Option.map_none, List.getElem?_cons_zero, List.getElem?_cons_succ, seq_ret, List.length_nil, Nat.zero_le, len_tabL, range1_nat _ (show N ≤ sizeLine by omega)]
  refine pu_bnd (pu_forr (fun r env => ∃ z3 z4 z5 z6, env = [some (tabL .sh .sh (tab N e)), some (rowL .sh ((List.range N).map s)), some (.lst .own ((List.range r).map fun i => D.int (act (invE e) s i))), z3, z4, z5, z6]) ⟨none, none, none, none, rfl⟩ ?_) ?_
  · rintro r hr env ⟨z3, z4, z5, z6, rfl⟩
    simp only [v_var, v_int, v_str, v_bl, v_non, v_bin, v_neg, v_not, v_bop, v_ife, v_cmp, v_cmp2, v_call, v_scall_s, v_meth, v_methk, v_attr, v_blt, v_isi, v_lst, v_tup, v_idx, v_sl, p_no, p_part, v_lc, v_lcif, v_lc2, i_seq, i_range1, i_range2, i_zip, i_enum, evs_nil, evs_cons, t_not, t_bop, t_ife, t_var, t_bl, t_cmp, t_cmp2, t_call, t_scall, t_meth, t_methk, t_attr, t_blt, t_isi, t_lc, t_idx, t_bin, bopT_and_t, bopT_and_f, bopT_or_t, bopT_or_f, bopM_and_t, bopM_and_f, bopM_or_t, bopM_or_f, tru_bl, tru_int, tru_lst, tru_tup, neg_int, part_int, add_int, sub_int, lt_int, le_int, gt_int, ge_int, eq_int, ne_int, eq_bl, ne_bl, cmpI_lt, cmpI_le, len_lst, len_tup, int_int, int_bl, list_lst, list_tup, tuple_lst, sum_ints, all_bls, any_bls, app_key, s_nil, s_cons, nx_nx, nx_rt, nx_bk, nx_ct, s_asg, s_unp, s_par, s_fld, s_app, s_bset, s_expr, s_ret, s_retN, s_ifs, s_for, s_while, s_pass, s_brk, s_cont, res_rt, res_nx, self_nx, ret_bnd, fail_bnd, bnd_assoc, seq_bnd, opt_s, opt_n, gV_0, gV_s, glo_c, fls_nil, fls_cons, hass_nil, hass_cons, fl_int, fl_bl, fl_str, fl_non, fl_bag, fl_lst, fl_tup, fl_ins, has_int, has_bl, has_str, has_non, has_bag, has_lst, has_tup, has_ins, fz_own, fz_sh, fz_brw, bw_own, bw_sh, bw_brw, ub_own, ub_sh, ub_brw, so_own, so_sh, so_brw, tt_own, tt_sh, tt_brw, keep_f, keeps_f, keep_t, keeps_t, attr_prop, attr_fld, meth_m, methk_m, mul_m, add_m, sub_m, eq_m, ne_m, tru_m, bool_m, fl_rowL, fl_rowT, has_rowL, has_rowT, fl_tabL, fl_tabT, has_tabLt, has_tabTt, hb_L_sh, hb_L_own, hb_T_sh, hb_T_own, ite_self, fls_ints, hass_ints, fls_im, hass_im, fls_rowL, fls_rowT, List.set_cons_zero, List.set_cons_succ, wipeE, setsE, tgE, ITg.ix, giveE, IE.vars, IEs.vars, reduceCtorEq, decide_false, decide_true, Bool.or_false, Bool.false_or, Bool.or_true, Bool.true_or, Bool.and_true, Bool.true_and, Bool.and_false, Bool.false_and, Bool.not_true, Bool.not_false, if_true, if_false, ite_true, ite_false, Bool.false_eq_true, ne_eq, not_false_eq_true, not_true_eq_false, List.cons_append, List.nil_append, List.append_nil, List.mem_cons, List.not_mem_nil, or_false, false_or, or_true, true_or, Nat.reduceEqDiff, Nat.reduceAdd, eq_self, and_self, and_true, true_and, Option.map_some, Option.map_none, List.getElem?_cons_zero, List.getElem?_cons_succ, idx_tabL, hr, rowL_def, sl_lst, cut_1, zip_range]
    refine pu_lcr (fun j => .int (e r (j + 1) * act (invE e) s j)) (by omega) (fun j hj => ?_) ?_
    · have h5 : mulOk (e r (j + 1)) (act (invE e) s j) = true := mulOk_of' (he _ _ (by omega) hr) (hB _ (by omega)) (by omega) hb
      simp only [pairD, v_var, v_int, v_str, v_bl, v_non, v_bin, v_neg, v_not, v_bop, v_ife, v_cmp, v_cmp2, v_call, v_scall_s, v_meth, v_methk, v_attr, v_blt, v_isi, v_lst, v_tup, v_idx, v_sl, p_no, p_part, v_lc, v_lcif, v_lc2, i_seq, i_range1, i_range2, i_zip, i_enum, evs_nil, evs_cons, t_not, t_bop, t_ife, t_var, t_bl, t_cmp, t_cmp2, t_call, t_scall, t_meth, t_methk, t_attr, t_blt, t_isi, t_lc, t_idx, t_bin, bopT_and_t, bopT_and_f, bopT_or_t, bopT_or_f, bopM_and_t, bopM_and_f, bopM_or_t, bopM_or_f, tru_bl, tru_int, tru_lst, tru_tup, neg_int, part_int, add_int, sub_int, lt_int, le_int, gt_int, ge_int, eq_int, ne_int, eq_bl, ne_bl, cmpI_lt, cmpI_le, len_lst, len_tup, int_int, int_bl, list_lst, list_tup, tuple_lst, sum_ints, all_bls, any_bls, app_key, s_nil, s_cons, nx_nx, nx_rt, nx_bk, nx_ct, s_asg, s_unp, s_par, s_fld, s_app, s_bset, s_expr, s_ret, s_retN, s_ifs, s_for, s_while, s_pass, s_brk, s_cont, res_rt, res_nx, self_nx, ret_bnd, fail_bnd, bnd_assoc, seq_bnd, opt_s, opt_n, gV_0, gV_s, glo_c, fls_nil, fls_cons, hass_nil, hass_cons, fl_int, fl_bl, fl_str, fl_non, fl_bag, fl_lst, fl_tup, fl_ins, has_int, has_bl, has_str, has_non, has_bag, has_lst, has_tup, has_ins, fz_own, fz_sh, fz_brw, bw_own, bw_sh, bw_brw, ub_own, ub_sh, ub_brw, so_own, so_sh, so_brw, tt_own, tt_sh, tt_brw, keep_f, keeps_f, keep_t, keeps_t, attr_prop, attr_fld, meth_m, methk_m, mul_m, add_m, sub_m, eq_m, ne_m, tru_m, bool_m, fl_rowL, fl_rowT, has_rowL, has_rowT, fl_tabL, fl_tabT, has_tabLt, has_tabTt, hb_L_sh, hb_L_own, hb_T_sh, hb_T_own, ite_self, fls_ints, hass_ints, fls_im, hass_im, fls_rowL, fls_rowT, List.set_cons_zero, List.set_cons_succ, wipeE, setsE, tgE, ITg.ix, giveE, IE.vars, IEs.vars, reduceCtorEq, decide_false, decide_true, Bool.or_false, Bool.false_or, Bool.or_true, Bool.true_or, Bool.and_true, Bool.true_and, Bool.and_false, Bool.false_and, Bool.not_true, Bool.not_false, if_true, if_false, ite_true, ite_false, Bool.false_eq_true, ne_eq, not_false_eq_true, not_true_eq_false, List.cons_append, List.nil_append, List.append_nil, List.mem_cons, List.not_mem_nil, or_false, false_or, or_true, true_or, Nat.reduceEqDiff, Nat.reduceAdd, eq_self, and_self, and_true, true_and, Option.map_some, Option.map_none, List.getElem?_cons_zero, List.getElem?_cons_succ, mul_int, h5]
    · simp only [v_var, v_int, v_str, v_bl, v_non, v_bin, v_neg, v_not, v_bop, v_ife, v_cmp, v_cmp2, v_call, v_scall_s, v_meth, v_methk, v_attr, v_blt, v_isi, v_lst, v_tup, v_idx, v_sl, p_no, p_part, v_lc, v_lcif, v_lc2, i_seq, i_range1, i_range2, i_zip, i_enum, evs_nil, evs_cons, t_not, t_bop, t_ife, t_var, t_bl, t_cmp, t_cmp2, t_call, t_scall, t_meth, t_methk, t_attr, t_blt, t_isi, t_lc, t_idx, t_bin, bopT_and_t, bopT_and_f, bopT_or_t, bopT_or_f, bopM_and_t, bopM_and_f, bopM_or_t, bopM_or_f, tru_bl, tru_int, tru_lst, tru_tup, neg_int, part_int, add_int, sub_int, lt_int, le_int, gt_int, ge_int, eq_int, ne_int, eq_bl, ne_bl, cmpI_lt, cmpI_le, len_lst, len_tup, int_int, int_bl, list_lst, list_tup, tuple_lst, sum_ints, all_bls, any_bls, app_key, s_nil, s_cons, nx_nx, nx_rt, nx_bk, nx_ct, s_asg, s_unp, s_par, s_fld, s_app, s_bset, s_expr, s_ret, s_retN, s_ifs, s_for, s_while, s_pass, s_brk, s_cont, res_rt, res_nx, self_nx, ret_bnd, fail_bnd, bnd_assoc, seq_bnd, opt_s, opt_n, gV_0, gV_s, glo_c, fls_nil, fls_cons, hass_nil, hass_cons, fl_int, fl_bl, fl_str, fl_non, fl_bag, fl_lst, fl_tup, fl_ins, has_int, has_bl, has_str, has_non, has_bag, has_lst, has_tup, has_ins, fz_own, fz_sh, fz_brw, bw_own, bw_sh, bw_brw, ub_own, ub_sh, ub_brw, so_own, so_sh, so_brw, tt_own, tt_sh, tt_brw, keep_f, keeps_f, keep_t, keeps_t, attr_prop, attr_fld, meth_m, methk_m, mul_m, add_m, sub_m, eq_m, ne_m, tru_m, bool_m, fl_rowL, fl_rowT, has_rowL, has_rowT, fl_tabL, fl_tabT, has_tabLt, has_tabTt, hb_L_sh, hb_L_own, hb_T_sh, hb_T_own, ite_self, fls_ints, hass_ints, fls_im, hass_im, fls_rowL, fls_rowT, List.set_cons_zero, List.set_cons_succ, wipeE, setsE, tgE, ITg.ix, giveE, IE.vars, IEs.vars, reduceCtorEq, decide_false, decide_true, Bool.or_false, Bool.false_or, Bool.or_true, Bool.true_or, Bool.and_true, Bool.true_and, Bool.and_false, Bool.false_and, Bool.not_true, Bool.not_false, if_true, if_false, ite_true, ite_false, Bool.false_eq_true, ne_eq, not_false_eq_true, not_true_eq_false, List.cons_append, List.nil_append, List.append_nil, List.mem_cons, List.not_mem_nil, or_false, false_or, or_true, true_or, Nat.reduceEqDiff, Nat.reduceAdd, eq_self, and_self, and_true, true_and, Option.map_some, Option.map_none, List.getElem?_cons_zero, List.getElem?_cons_succ, idx_tabL, idx_lst, atI_range, atI_range0, rowL_def, hr, sum_map, sum_range, appE, List.length_map, List.length_range, show r < sizeLine by omega]
      rw [← und_eq, range_snoc (fun i => D.int (act (invE e) s i))]
      exact pu_nx ⟨_, _, _, _, rfl⟩
  · rintro _ ⟨env, rfl, z3, z4, z5, z6, rfl⟩
    simp only [v_var, v_int, v_str, v_bl, v_non, v_bin, v_neg, v_not, v_bop, v_ife, v_cmp, v_cmp2, v_call, v_scall_s, v_meth, v_methk, v_attr, v_blt, v_isi, v_lst, v_tup, v_idx, v_sl, p_no, p_part, v_lc, v_lcif, v_lc2, i_seq, i_range1, i_range2, i_zip, i_enum, evs_nil, evs_cons, t_not, t_bop, t_ife, t_var, t_bl, t_cmp, t_cmp2, t_call, t_scall, t_meth, t_methk, t_attr, t_blt, t_isi, t_lc, t_idx, t_bin, bopT_and_t, bopT_and_f, bopT_or_t, bopT_or_f, bopM_and_t, bopM_and_f, bopM_or_t, bopM_or_f, tru_bl, tru_int, tru_lst, tru_tup, neg_int, part_int, add_int, sub_int, lt_int, le_int, gt_int, ge_int, eq_int, ne_int, eq_bl, ne_bl, cmpI_lt, cmpI_le, len_lst, len_tup, int_int, int_bl, list_lst, list_tup, tuple_lst, sum_ints, all_bls, any_bls, app_key, s_nil, s_cons, nx_nx, nx_rt, nx_bk, nx_ct, s_asg, s_unp, s_par, s_fld, s_app, s_bset, s_expr, s_ret, s_retN, s_ifs, s_for, s_while, s_pass, s_brk, s_cont, res_rt, res_nx, self_nx, ret_bnd, fail_bnd, bnd_assoc, seq_bnd, opt_s, opt_n, gV_0, gV_s, glo_c, fls_nil, fls_cons, hass_nil, hass_cons, fl_int, fl_bl, fl_str, fl_non, fl_bag, fl_lst, fl_tup, fl_ins, has_int, has_bl, has_str, has_non, has_bag, has_lst, has_tup, has_ins, fz_own, fz_sh, fz_brw, bw_own, bw_sh, bw_brw, ub_own, ub_sh, ub_brw, so_own, so_sh, so_brw, tt_own, tt_sh, tt_brw, keep_f, keeps_f, keep_t, keeps_t, attr_prop, attr_fld, meth_m, methk_m, mul_m, add_m, sub_m, eq_m, ne_m, tru_m, bool_m, fl_rowL, fl_rowT, has_rowL, has_rowT, fl_tabL, fl_tabT, has_tabLt, has_tabTt, hb_L_sh, hb_L_own, hb_T_sh, hb_T_own, ite_self, fls_ints, hass_ints, fls_im, hass_im, fls_rowL, fls_rowT, List.set_cons_zero, List.set_cons_succ, wipeE, setsE, tgE, ITg.ix, giveE, IE.vars, IEs.vars, reduceCtorEq, decide_false, decide_true, Bool.or_false, Bool.false_or, Bool.or_true, Bool.true_or, Bool.and_true, Bool.true_and, Bool.and_false, Bool.false_and, Bool.not_true, Bool.not_false, if_true, if_false, ite_true, ite_false, Bool.false_eq_true, ne_eq, not_false_eq_true, not_true_eq_false, List.cons_append, List.nil_append, List.append_nil, List.mem_cons, List.not_mem_nil, or_false, false_or, or_true, true_or, Nat.reduceEqDiff, Nat.reduceAdd, eq_self, and_self, and_true, true_and, Option.map_some, Option.map_none, List.getElem?_cons_zero, List.getElem?_cons_succ]
    exact pu_ret (rowL_def _ _ _).symm
theorem rd_row (E : Nat → Sa) (r : Nat) : D.int (E 0 r) :: (List.range r).map (fun j => D.int (E (j + 1) r - E 0 r)) = (List.range (r + 1)).map fun c => D.int (rdE E r c) := by
  rw [List.range_succ_eq_map, List.map_cons, List.map_map]; rfl
theorem read_off_ok [Has P d_law_read_off] {N : Nat} {E : Nat → Sa} (hN : N ≤ 4) :
    callP P W noP (n + 1) "_law_read_off" [.lst .sh ((List.range (N + 1)).map fun i => rowL .sh ((List.range N).map (E i)))] = ret (tabL .sh .sh (tab N (rdE E))) := by
  have hS : sizeLine = 2 ^ 24 := rfl
  rw [c_law_read_off]
  refine pu_eq ?_
  simp only [b_law_read_off, v_var, v_int, v_str, v_bl, v_non, v_bin, v_neg, v_not, v_bop, v_ife, v_cmp, v_cmp2, v_call, v_scall_s, v_meth, v_methk, v_attr, v_blt, v_isi, v_lst, v_tup, v_idx, v_sl, p_no, p_part, v_lc, v_lcif, v_lc2, i_seq, i_range1, i_range2, i_zip, i_enum, evs_nil, evs_cons, t_not, t_bop, t_ife, t_var, t_bl, t_cmp, t_cmp2, t_call, t_scall, t_meth, t_methk, t_attr, t_blt, t_isi, t_lc, t_idx, t_bin, bopT_and_t, bopT_and_f, bopT_or_t, bopT_or_f, bopM_and_t, bopM_and_f, bopM_or_t, bopM_or_f, tru_bl, tru_int, tru_lst, tru_tup, neg_int, part_int, add_int, sub_int, lt_int, le_int, gt_int, ge_int, eq_int, ne_int, eq_bl, ne_bl, cmpI_lt, cmpI_le, len_lst, len_tup, int_int, int_bl, list_lst, list_tup, tuple_lst, sum_ints, all_bls, any_bls, app_key, s_nil, s_cons, nx_nx, nx_rt, nx_bk, nx_ct, s_asg, s_unp, s_par, s_fld, s_app, s_bset, s_expr, s_ret, s_retN, s_ifs, s_for, s_while, s_pass, s_brk, s_cont, res_rt, res_nx, self_nx, ret_bnd, fail_bnd, bnd_assoc, seq_bnd, opt_s, opt_n, gV_0, gV_s, glo_c, fls_nil, fls_cons, hass_nil, hass_cons, fl_int, fl_bl, fl_str, fl_non, fl_bag, fl_lst, fl_tup, fl_ins, has_int, has_bl, has_str, has_non, has_bag, has_lst, has_tup, has_ins, fz_own, fz_sh, fz_brw, bw_own, bw_sh, bw_brw, ub_own, ub_sh, ub_brw, so_own, so_sh, so_brw, tt_own, tt_sh, tt_brw, keep_f, keeps_f, keep_t, keeps_t, attr_prop, attr_fld, meth_m, methk_m, mul_m, add_m, sub_m, eq_m, ne_m, tru_m, bool_m, fl_rowL, fl_rowT, has_rowL, has_rowT, fl_tabL, fl_tabT, has_tabLt, has_tabTt, hb_L_sh, hb_L_own, hb_T_sh, hb_T_own, ite_self, fls_ints, hass_ints, fls_im, hass_im, fls_rowL, fls_rowT, List.set_cons_zero, List.set_cons_succ, wipeE, setsE, tgE, ITg.ix, giveE, IE.vars, IEs.vars, reduceCtorEq, decide_false, decide_true, Bool.or_false, Bool.false_or, Bool.or_true, Bool.true_or, Bool.and_true, Bool.true_and, Bool.and_false, Bool.false_and, Bool.not_true, Bool.not_false, if_true, if_false, ite_true, ite_false, Bool.false_eq_true, ne_eq, not_false_eq_true, not_true_eq_false, List.cons_append, List.nil_append, List.append_nil, List.mem_cons, List.not_mem_nil, or_false, false_or, or_true, true_or, Nat.reduceEqDiff, Nat.reduceAdd, eq_self, and_self, and_true, true_and, Option.map_some, Option.map_none, List.getElem?_cons_zero, List.getElem?_cons_succ, seq_ret, List.length_nil, Nat.zero_le, fls_map, idx_lst, atI_range0, len_rowL, range1_nat _ (show N ≤ sizeLine by omega)]
  refine pu_bnd (pu_forr (fun r env => ∃ z1 z4, env = [some (.lst .sh ((List.range (N + 1)).map fun i => rowL .sh ((List.range N).map (E i)))), z1, some (.lst .own ((List.range r).map fun i => rowL .own ((List.range (i + 1)).map (rdE E i)))), some (rowL .sh ((List.range N).map (E 0))), z4]) ⟨none, none, rfl⟩ ?_) ?_
  · rintro r hr env ⟨z1, z4, rfl⟩
    simp only [v_var, v_int, v_str, v_bl, v_non, v_bin, v_neg, v_not, v_bop, v_ife, v_cmp, v_cmp2, v_call, v_scall_s, v_meth, v_methk, v_attr, v_blt, v_isi, v_lst, v_tup, v_idx, v_sl, p_no, p_part, v_lc, v_lcif, v_lc2, i_seq, i_range1, i_range2, i_zip, i_enum, evs_nil, evs_cons, t_not, t_bop, t_ife, t_var, t_bl, t_cmp, t_cmp2, t_call, t_scall, t_meth, t_methk, t_attr, t_blt, t_isi, t_lc, t_idx, t_bin, bopT_and_t, bopT_and_f, bopT_or_t, bopT_or_f, bopM_and_t, bopM_and_f, bopM_or_t, bopM_or_f, tru_bl, tru_int, tru_lst, tru_tup, neg_int, part_int, add_int, sub_int, lt_int, le_int, gt_int, ge_int, eq_int, ne_int, eq_bl, ne_bl, cmpI_lt, cmpI_le, len_lst, len_tup, int_int, int_bl, list_lst, list_tup, tuple_lst, sum_ints, all_bls, any_bls, app_key, s_nil, s_cons, nx_nx, nx_rt, nx_bk, nx_ct, s_asg, s_unp, s_par, s_fld, s_app, s_bset, s_expr, s_ret, s_retN, s_ifs, s_for, s_while, s_pass, s_brk, s_cont, res_rt, res_nx, self_nx, ret_bnd, fail_bnd, bnd_assoc, seq_bnd, opt_s, opt_n, gV_0, gV_s, glo_c, fls_nil, fls_cons, hass_nil, hass_cons, fl_int, fl_bl, fl_str, fl_non, fl_bag, fl_lst, fl_tup, fl_ins, has_int, has_bl, has_str, has_non, has_bag, has_lst, has_tup, has_ins, fz_own, fz_sh, fz_brw, bw_own, bw_sh, bw_brw, ub_own, ub_sh, ub_brw, so_own, so_sh, so_brw, tt_own, tt_sh, tt_brw, keep_f, keeps_f, keep_t, keeps_t, attr_prop, attr_fld, meth_m, methk_m, mul_m, add_m, sub_m, eq_m, ne_m, tru_m, bool_m, fl_rowL, fl_rowT, has_rowL, has_rowT, fl_tabL, fl_tabT, has_tabLt, has_tabTt, hb_L_sh, hb_L_own, hb_T_sh, hb_T_own, ite_self, fls_ints, hass_ints, fls_im, hass_im, fls_rowL, fls_rowT, List.set_cons_zero, List.set_cons_succ, wipeE, setsE, tgE, ITg.ix, giveE, IE.vars, IEs.vars, reduceCtorEq, decide_false, decide_true, Bool.or_false, Bool.false_or, Bool.or_true, Bool.true_or, Bool.and_true, Bool.true_and, Bool.and_false, Bool.false_and, Bool.not_true, Bool.not_false, if_true, if_false, ite_true, ite_false, Bool.false_eq_true, ne_eq, not_false_eq_true, not_true_eq_false, List.cons_append, List.nil_append, List.append_nil, List.mem_cons, List.not_mem_nil, or_false, false_or, or_true, true_or, Nat.reduceEqDiff, Nat.reduceAdd, eq_self, and_self, and_true, true_and, Option.map_some, Option.map_none, List.getElem?_cons_zero, List.getElem?_cons_succ, fls_map, idx_rowL, hr, seq_ret, List.length_cons, List.length_nil, show 0 + 1 ≤ sizeLine by omega, cast1, sl_lst, cut_1to _ (show r ≤ N by omega), items_lst]
    refine pu_lcr (fun j => .int (E (j + 1) r - E 0 r)) (by omega) (fun j hj => ?_) ?_
    · simp only [v_var, v_int, v_str, v_bl, v_non, v_bin, v_neg, v_not, v_bop, v_ife, v_cmp, v_cmp2, v_call, v_scall_s, v_meth, v_methk, v_attr, v_blt, v_isi, v_lst, v_tup, v_idx, v_sl, p_no, p_part, v_lc, v_lcif, v_lc2, i_seq, i_range1, i_range2, i_zip, i_enum, evs_nil, evs_cons, t_not, t_bop, t_ife, t_var, t_bl, t_cmp, t_cmp2, t_call, t_scall, t_meth, t_methk, t_attr, t_blt, t_isi, t_lc, t_idx, t_bin, bopT_and_t, bopT_and_f, bopT_or_t, bopT_or_f, bopM_and_t, bopM_and_f, bopM_or_t, bopM_or_f, tru_bl, tru_int, tru_lst, tru_tup, neg_int, part_int, add_int, sub_int, lt_int, le_int, gt_int, ge_int, eq_int, ne_int, eq_bl, ne_bl, cmpI_lt, cmpI_le, len_lst, len_tup, int_int, int_bl, list_lst, list_tup, tuple_lst, sum_ints, all_bls, any_bls, app_key, s_nil, s_cons, nx_nx, nx_rt, nx_bk, nx_ct, s_asg, s_unp, s_par, s_fld, s_app, s_bset, s_expr, s_ret, s_retN, s_ifs, s_for, s_while, s_pass, s_brk, s_cont, res_rt, res_nx, self_nx, ret_bnd, fail_bnd, bnd_assoc, seq_bnd, opt_s, opt_n, gV_0, gV_s, glo_c, fls_nil, fls_cons, hass_nil, hass_cons, fl_int, fl_bl, fl_str, fl_non, fl_bag, fl_lst, fl_tup, fl_ins, has_int, has_bl, has_str, has_non, has_bag, has_lst, has_tup, has_ins, fz_own, fz_sh, fz_brw, bw_own, bw_sh, bw_brw, ub_own, ub_sh, ub_brw, so_own, so_sh, so_brw, tt_own, tt_sh, tt_brw, keep_f, keeps_f, keep_t, keeps_t, attr_prop, attr_fld, meth_m, methk_m, mul_m, add_m, sub_m, eq_m, ne_m, tru_m, bool_m, fl_rowL, fl_rowT, has_rowL, has_rowT, fl_tabL, fl_tabT, has_tabLt, has_tabTt, hb_L_sh, hb_L_own, hb_T_sh, hb_T_own, ite_self, fls_ints, hass_ints, fls_im, hass_im, fls_rowL, fls_rowT, List.set_cons_zero, List.set_cons_succ, wipeE, setsE, tgE, ITg.ix, giveE, IE.vars, IEs.vars, reduceCtorEq, decide_false, decide_true, Bool.or_false, Bool.false_or, Bool.or_true, Bool.true_or, Bool.and_true, Bool.true_and, Bool.and_false, Bool.false_and, Bool.not_true, Bool.not_false, if_true, if_false, ite_true, ite_false, Bool.false_eq_true, ne_eq, not_false_eq_true, not_true_eq_false, List.cons_append, List.nil_append, List.append_nil, List.mem_cons, List.not_mem_nil, or_false, false_or, or_true, true_or, Nat.reduceEqDiff, Nat.reduceAdd, eq_self, and_self, and_true, true_and, Option.map_some, Option.map_none, List.getElem?_cons_zero, List.getElem?_cons_succ, idx_rowL, hr]
    · have hl : ([D.int (E 0 r)] : List D).length + ((List.range r).map fun j => D.int (E (j + 1) r - E 0 r)).length ≤ sizeLine := by simp; omega
      simp only [add_lst _ _ hl, v_var, v_int, v_str, v_bl, v_non, v_bin, v_neg, v_not, v_bop, v_ife, v_cmp, v_cmp2, v_call, v_scall_s, v_meth, v_methk, v_attr, v_blt, v_isi, v_lst, v_tup, v_idx, v_sl, p_no, p_part, v_lc, v_lcif, v_lc2, i_seq, i_range1, i_range2, i_zip, i_enum, evs_nil, evs_cons, t_not, t_bop, t_ife, t_var, t_bl, t_cmp, t_cmp2, t_call, t_scall, t_meth, t_methk, t_attr, t_blt, t_isi, t_lc, t_idx, t_bin, bopT_and_t, bopT_and_f, bopT_or_t, bopT_or_f, bopM_and_t, bopM_and_f, bopM_or_t, bopM_or_f, tru_bl, tru_int, tru_lst, tru_tup, neg_int, part_int, add_int, sub_int, lt_int, le_int, gt_int, ge_int, eq_int, ne_int, eq_bl, ne_bl, cmpI_lt, cmpI_le, len_lst, len_tup, int_int, int_bl, list_lst, list_tup, tuple_lst, sum_ints, all_bls, any_bls, app_key, s_nil, s_cons, nx_nx, nx_rt, nx_bk, nx_ct, s_asg, s_unp, s_par, s_fld, s_app, s_bset, s_expr, s_ret, s_retN, s_ifs, s_for, s_while, s_pass, s_brk, s_cont, res_rt, res_nx, self_nx, ret_bnd, fail_bnd, bnd_assoc, seq_bnd, opt_s, opt_n, gV_0, gV_s, glo_c, fls_nil, fls_cons, hass_nil, hass_cons, fl_int, fl_bl, fl_str, fl_non, fl_bag, fl_lst, fl_tup, fl_ins, has_int, has_bl, has_str, has_non, has_bag, has_lst, has_tup, has_ins, fz_own, fz_sh, fz_brw, bw_own, bw_sh, bw_brw, ub_own, ub_sh, ub_brw, so_own, so_sh, so_brw, tt_own, tt_sh, tt_brw, keep_f, keeps_f, keep_t, keeps_t, attr_prop, attr_fld, meth_m, methk_m, mul_m, add_m, sub_m, eq_m, ne_m, tru_m, bool_m, fl_rowL, fl_rowT, has_rowL, has_rowT, fl_tabL, fl_tabT, has_tabLt, has_tabTt, hb_L_sh, hb_L_own, hb_T_sh, hb_T_own, ite_self, fls_ints, hass_ints, fls_im, hass_im, fls_rowL, fls_rowT, List.set_cons_zero, List.set_cons_succ, wipeE, setsE, tgE, ITg.ix, giveE, IE.vars, IEs.vars, reduceCtorEq, decide_false, decide_true, Bool.or_false, Bool.false_or, Bool.or_true, Bool.true_or, Bool.and_true, Bool.true_and, Bool.and_false, Bool.false_and, Bool.not_true, Bool.not_false, if_true, if_false, ite_true, ite_false, Bool.false_eq_true, ne_eq, not_false_eq_true, not_true_eq_false, List.cons_append, List.nil_append, List.append_nil, List.mem_cons, List.not_mem_nil, or_false, false_or, or_true, true_or, Nat.reduceEqDiff, Nat.reduceAdd, eq_self, and_self, and_true, true_and, Option.map_some, Option.map_none, List.getElem?_cons_zero, List.getElem?_cons_succ, rd_row, appE, List.length_map, List.length_range, show r < sizeLine by omega, fls_map, fl_rowL]
      rw [← rowL_def, range_snoc (fun i => rowL .own ((List.range (i + 1)).map (rdE E i)))]
      exact pu_nx ⟨_, _, rfl⟩
  · rintro _ ⟨env, rfl, z1, z4, rfl⟩
    simp only [v_var, v_int, v_str, v_bl, v_non, v_bin, v_neg, v_not, v_bop, v_ife, v_cmp, v_cmp2, v_call, v_scall_s, v_meth, v_methk, v_attr, v_blt, v_isi, v_lst, v_tup, v_idx, v_sl, p_no, p_part, v_lc, v_lcif, v_lc2, i_seq, i_range1, i_range2, i_zip, i_enum, evs_nil, evs_cons, t_not, t_bop, t_ife, t_var, t_bl, t_cmp, t_cmp2, t_call, t_scall, t_meth, t_methk, t_attr, t_blt, t_isi, t_lc, t_idx, t_bin, bopT_and_t, bopT_and_f, bopT_or_t, bopT_or_f, bopM_and_t, bopM_and_f, bopM_or_t, bopM_or_f, tru_bl, tru_int, tru_lst, tru_tup, neg_int, part_int, add_int, sub_int, lt_int, le_int, gt_int, ge_int, eq_int, ne_int, eq_bl, ne_bl, cmpI_lt, cmpI_le, len_lst, len_tup, int_int, int_bl, list_lst, list_tup, tuple_lst, sum_ints, all_bls, any_bls, app_key, s_nil, s_cons, nx_nx, nx_rt, nx_bk, nx_ct, s_asg, s_unp, s_par, s_fld, s_app, s_bset, s_expr, s_ret, s_retN, s_ifs, s_for, s_while, s_pass, s_brk, s_cont, res_rt, res_nx, self_nx, ret_bnd, fail_bnd, bnd_assoc, seq_bnd, opt_s, opt_n, gV_0, gV_s, glo_c, fls_nil, fls_cons, hass_nil, hass_cons, fl_int, fl_bl, fl_str, fl_non, fl_bag, fl_lst, fl_tup, fl_ins, has_int, has_bl, has_str, has_non, has_bag, has_lst, has_tup, has_ins, fz_own, fz_sh, fz_brw, bw_own, bw_sh, bw_brw, ub_own, ub_sh, ub_brw, so_own, so_sh, so_brw, tt_own, tt_sh, tt_brw, keep_f, keeps_f, keep_t, keeps_t, attr_prop, attr_fld, meth_m, methk_m, mul_m, add_m, sub_m, eq_m, ne_m, tru_m, bool_m, fl_rowL, fl_rowT, has_rowL, has_rowT, fl_tabL, fl_tabT, has_tabLt, has_tabTt, hb_L_sh, hb_L_own, hb_T_sh, hb_T_own, ite_self, fls_ints, hass_ints, fls_im, hass_im, fls_rowL, fls_rowT, List.set_cons_zero, List.set_cons_succ, wipeE, setsE, tgE, ITg.ix, giveE, IE.vars, IEs.vars, reduceCtorEq, decide_false, decide_true, Bool.or_false, Bool.false_or, Bool.or_true, Bool.true_or, Bool.and_true, Bool.true_and, Bool.and_false, Bool.false_and, Bool.not_true, Bool.not_false, if_true, if_false, ite_true, ite_false, Bool.false_eq_true, ne_eq, not_false_eq_true, not_true_eq_false, List.cons_append, List.nil_append, List.append_nil, List.mem_cons, List.not_mem_nil, or_false, false_or, or_true, true_or, Nat.reduceEqDiff, Nat.reduceAdd, eq_self, and_self, and_true, true_and, Option.map_some, Option.map_none, List.getElem?_cons_zero, List.getElem?_cons_succ, fls_map, fl_rowL]
    exact pu_ret (tabL_def _ _ _ _).symm
theorem units_ok [Has P d_law_units] {N : Nat} (hN : N ≤ 4) : callP P W noP (n + 1) "_law_units" [.int (N : Int)] = ret (.lst .own ((List.range (N + 1)).map fun i => rowL .own ((List.range N).map (unitS i)))) := by
  have hS : sizeLine = 2 ^ 24 := rfl
  rw [c_law_units]
  simp only [b_law_units, v_var, v_int, v_str, v_bl, v_non, v_bin, v_neg, v_not, v_bop, v_ife, v_cmp, v_cmp2, v_call, v_scall_s, v_meth, v_methk, v_attr, v_blt, v_isi, v_lst, v_tup, v_idx, v_sl, p_no, p_part, v_lc, v_lcif, v_lc2, i_seq, i_range1, i_range2, i_zip, i_enum, evs_nil, evs_cons, t_not, t_bop, t_ife, t_var, t_bl, t_cmp, t_cmp2, t_call, t_scall, t_meth, t_methk, t_attr, t_blt, t_isi, t_lc, t_idx, t_bin, bopT_and_t, bopT_and_f, bopT_or_t, bopT_or_f, bopM_and_t, bopM_and_f, bopM_or_t, bopM_or_f, tru_bl, tru_int, tru_lst, tru_tup, neg_int, part_int, add_int, sub_int, lt_int, le_int, gt_int, ge_int, eq_int, ne_int, eq_bl, ne_bl, cmpI_lt, cmpI_le, len_lst, len_tup, int_int, int_bl, list_lst, list_tup, tuple_lst, sum_ints, all_bls, any_bls, app_key, s_nil, s_cons, nx_nx, nx_rt, nx_bk, nx_ct, s_asg, s_unp, s_par, s_fld, s_app, s_bset, s_expr, s_ret, s_retN, s_ifs, s_for, s_while, s_pass, s_brk, s_cont, res_rt, res_nx, self_nx, ret_bnd, fail_bnd, bnd_assoc, seq_bnd, opt_s, opt_n, gV_0, gV_s, glo_c, fls_nil, fls_cons, hass_nil, hass_cons, fl_int, fl_bl, fl_str, fl_non, fl_bag, fl_lst, fl_tup, fl_ins, has_int, has_bl, has_str, has_non, has_bag, has_lst, has_tup, has_ins, fz_own, fz_sh, fz_brw, bw_own, bw_sh, bw_brw, ub_own, ub_sh, ub_brw, so_own, so_sh, so_brw, tt_own, tt_sh, tt_brw, keep_f, keeps_f, keep_t, keeps_t, attr_prop, attr_fld, meth_m, methk_m, mul_m, add_m, sub_m, eq_m, ne_m, tru_m, bool_m, fl_rowL, fl_rowT, has_rowL, has_rowT, fl_tabL, fl_tabT, has_tabLt, has_tabTt, hb_L_sh, hb_L_own, hb_T_sh, hb_T_own, ite_self, fls_ints, hass_ints, fls_im, hass_im, fls_rowL, fls_rowT, List.set_cons_zero, List.set_cons_succ, wipeE, setsE, tgE, ITg.ix, giveE, IE.vars, IEs.vars, reduceCtorEq, decide_false, decide_true, Bool.or_false, Bool.false_or, Bool.or_true, Bool.true_or, Bool.and_true, Bool.true_and, Bool.and_false, Bool.false_and, Bool.not_true, Bool.not_false, if_true, if_false, ite_true, ite_false, Bool.false_eq_true, ne_eq, not_false_eq_true, not_true_eq_false, List.cons_append, List.nil_append, List.append_nil, List.mem_cons, List.not_mem_nil, or_false, false_or, or_true, true_or, Nat.reduceEqDiff, Nat.reduceAdd, eq_self, and_self, and_true, true_and, Option.map_some, Option.map_none, List.getElem?_cons_zero, List.getElem?_cons_succ, seq_ret, List.length_cons, List.length_nil, show 0 + 1 ≤ sizeLine by omega, mul_l1 .own 0 N (by omega), range1_nat _ (show N ≤ sizeLine by omega)]
  refine bnd_lcr (fun i => rowL .own ((List.range N).map (unitS (i + 1)))) (by omega) (fun i hi => ?_) ?_
  · simp only [v_var, v_int, v_str, v_bl, v_non, v_bin, v_neg, v_not, v_bop, v_ife, v_cmp, v_cmp2, v_call, v_scall_s, v_meth, v_methk, v_attr, v_blt, v_isi, v_lst, v_tup, v_idx, v_sl, p_no, p_part, v_lc, v_lcif, v_lc2, i_seq, i_range1, i_range2, i_zip, i_enum, evs_nil, evs_cons, t_not, t_bop, t_ife, t_var, t_bl, t_cmp, t_cmp2, t_call, t_scall, t_meth, t_methk, t_attr, t_blt, t_isi, t_lc, t_idx, t_bin, bopT_and_t, bopT_and_f, bopT_or_t, bopT_or_f, bopM_and_t, bopM_and_f, bopM_or_t, bopM_or_f, tru_bl, tru_int, tru_lst, tru_tup, neg_int, part_int, add_int, sub_int, lt_int, le_int, gt_int, ge_int, eq_int, ne_int, eq_bl, ne_bl, cmpI_lt, cmpI_le, len_lst, len_tup, int_int, int_bl, list_lst, list_tup, tuple_lst, sum_ints, all_bls, any_bls, app_key, s_nil, s_cons, nx_nx, nx_rt, nx_bk, nx_ct, s_asg, s_unp, s_par, s_fld, s_app, s_bset, s_expr, s_ret, s_retN, s_ifs, s_for, s_while, s_pass, s_brk, s_cont, res_rt, res_nx, self_nx, ret_bnd, fail_bnd, bnd_assoc, seq_bnd, opt_s, opt_n, gV_0, gV_s, glo_c, fls_nil, fls_cons, hass_nil, hass_cons, fl_int, fl_bl, fl_str, fl_non, fl_bag, fl_lst, fl_tup, fl_ins, has_int, has_bl, has_str, has_non, has_bag, has_lst, has_tup, has_ins, fz_own, fz_sh, fz_brw, bw_own, bw_sh, bw_brw, ub_own, ub_sh, ub_brw, so_own, so_sh, so_brw, tt_own, tt_sh, tt_brw, keep_f, keeps_f, keep_t, keeps_t, attr_prop, attr_fld, meth_m, methk_m, mul_m, add_m, sub_m, eq_m, ne_m, tru_m, bool_m, fl_rowL, fl_rowT, has_rowL, has_rowT, fl_tabL, fl_tabT, has_tabLt, has_tabTt, hb_L_sh, hb_L_own, hb_T_sh, hb_T_own, ite_self, fls_ints, hass_ints, fls_im, hass_im, fls_rowL, fls_rowT, List.set_cons_zero, List.set_cons_succ, wipeE, setsE, tgE, ITg.ix, giveE, IE.vars, IEs.vars, reduceCtorEq, decide_false, decide_true, Bool.or_false, Bool.false_or, Bool.or_true, Bool.true_or, Bool.and_true, Bool.true_and, Bool.and_false, Bool.false_and, Bool.not_true, Bool.not_false, if_true, if_false, ite_true, ite_false, Bool.false_eq_true, ne_eq, not_false_eq_true, not_true_eq_false, List.cons_append, List.nil_append, List.append_nil, List.mem_cons, List.not_mem_nil, or_false, false_or, or_true, true_or, Nat.reduceEqDiff, Nat.reduceAdd, eq_self, and_self, and_true, true_and, Option.map_some, Option.map_none, List.getElem?_cons_zero, List.getElem?_cons_succ, range1_nat _ (show N ≤ sizeLine by omega)]
    refine lc_r (fun j => .int (unitS (i + 1) j)) (by omega) (fun j hj => ?_) (rowL_def _ _ _)
    simp only [v_var, v_int, v_str, v_bl, v_non, v_bin, v_neg, v_not, v_bop, v_ife, v_cmp, v_cmp2, v_call, v_scall_s, v_meth, v_methk, v_attr, v_blt, v_isi, v_lst, v_tup, v_idx, v_sl, p_no, p_part, v_lc, v_lcif, v_lc2, i_seq, i_range1, i_range2, i_zip, i_enum, evs_nil, evs_cons, t_not, t_bop, t_ife, t_var, t_bl, t_cmp, t_cmp2, t_call, t_scall, t_meth, t_methk, t_attr, t_blt, t_isi, t_lc, t_idx, t_bin, bopT_and_t, bopT_and_f, bopT_or_t, bopT_or_f, bopM_and_t, bopM_and_f, bopM_or_t, bopM_or_f, tru_bl, tru_int, tru_lst, tru_tup, neg_int, part_int, add_int, sub_int, lt_int, le_int, gt_int, ge_int, eq_int, ne_int, eq_bl, ne_bl, cmpI_lt, cmpI_le, len_lst, len_tup, int_int, int_bl, list_lst, list_tup, tuple_lst, sum_ints, all_bls, any_bls, app_key, s_nil, s_cons, nx_nx, nx_rt, nx_bk, nx_ct, s_asg, s_unp, s_par, s_fld, s_app, s_bset, s_expr, s_ret, s_retN, s_ifs, s_for, s_while, s_pass, s_brk, s_cont, res_rt, res_nx, self_nx, ret_bnd, fail_bnd, bnd_assoc, seq_bnd, opt_s, opt_n, gV_0, gV_s, glo_c, fls_nil, fls_cons, hass_nil, hass_cons, fl_int, fl_bl, fl_str, fl_non, fl_bag, fl_lst, fl_tup, fl_ins, has_int, has_bl, has_str, has_non, has_bag, has_lst, has_tup, has_ins, fz_own, fz_sh, fz_brw, bw_own, bw_sh, bw_brw, ub_own, ub_sh, ub_brw, so_own, so_sh, so_brw, tt_own, tt_sh, tt_brw, keep_f, keeps_f, keep_t, keeps_t, attr_prop, attr_fld, meth_m, methk_m, mul_m, add_m, sub_m, eq_m, ne_m, tru_m, bool_m, fl_rowL, fl_rowT, has_rowL, has_rowT, fl_tabL, fl_tabT, has_tabLt, has_tabTt, hb_L_sh, hb_L_own, hb_T_sh, hb_T_own, ite_self, fls_ints, hass_ints, fls_im, hass_im, fls_rowL, fls_rowT, List.set_cons_zero, List.set_cons_succ, wipeE, setsE, tgE, ITg.ix, giveE, IE.vars, IEs.vars, reduceCtorEq, decide_false, decide_true, Bool.or_false, Bool.false_or, Bool.or_true, Bool.true_or, Bool.and_true, Bool.true_and, Bool.and_false, Bool.false_and, Bool.not_true, Bool.not_false, if_true, if_false, ite_true, ite_false, Bool.false_eq_true, ne_eq, not_false_eq_true, not_true_eq_false, List.cons_append, List.nil_append, List.append_nil, List.mem_cons, List.not_mem_nil, or_false, false_or, or_true, true_or, Nat.reduceEqDiff, Nat.reduceAdd, eq_self, and_self, and_true, true_and, Option.map_some, Option.map_none, List.getElem?_cons_zero, List.getElem?_cons_succ]
    congr 2
    show (if decide ((j : Int) = (i : Int)) = true then (1 : Int) else 0) = if j = i then 1 else 0
    by_cases h : j = i
    · rw [if_pos h, if_pos (decide_eq_true (by omega))]
    · rw [if_neg h, if_neg (by simp; omega)]
  · have hl : ([D.lst .own ((List.range N).map fun _ => D.int 0)] : List D).length + ((List.range N).map fun i => rowL .own ((List.range N).map (unitS (i + 1)))).length ≤ sizeLine := by simp; omega
    have e1 : D.lst .own ((List.range N).map fun _ => D.int 0) :: (List.range N).map (fun i => rowL .own ((List.range N).map (unitS (i + 1)))) = (List.range (N + 1)).map fun i => rowL .own ((List.range N).map (unitS i)) := by
      rw [List.range_succ_eq_map, List.map_cons, List.map_map, rowL_def]; rfl
    simp only [add_lst _ _ hl, v_var, v_int, v_str, v_bl, v_non, v_bin, v_neg, v_not, v_bop, v_ife, v_cmp, v_cmp2, v_call, v_scall_s, v_meth, v_methk, v_attr, v_blt, v_isi, v_lst, v_tup, v_idx, v_sl, p_no, p_part, v_lc, v_lcif, v_lc2, i_seq, i_range1, i_range2, i_zip, i_enum, evs_nil, evs_cons, t_not, t_bop, t_ife, t_var, t_bl, t_cmp, t_cmp2, t_call, t_scall, t_meth, t_methk, t_attr, t_blt, t_isi, t_lc, t_idx, t_bin, bopT_and_t, bopT_and_f, bopT_or_t, bopT_or_f, bopM_and_t, bopM_and_f, bopM_or_t, bopM_or_f, tru_bl, tru_int, tru_lst, tru_tup, neg_int, part_int, add_int, sub_int, lt_int, le_int, gt_int, ge_int, eq_int, ne_int, eq_bl, ne_bl, cmpI_lt, cmpI_le, len_lst, len_tup, int_int, int_bl, list_lst, list_tup, tuple_lst, sum_ints, all_bls, any_bls, app_key, s_nil, s_cons, nx_nx, nx_rt, nx_bk, nx_ct, s_asg, s_unp, s_par, s_fld, s_app, s_bset, s_expr, s_ret, s_retN, s_ifs, s_for, s_while, s_pass, s_brk, s_cont, res_rt, res_nx, self_nx, ret_bnd, fail_bnd, bnd_assoc, seq_bnd, opt_s, opt_n, gV_0, gV_s, glo_c, fls_nil, fls_cons, hass_nil, hass_cons, fl_int, fl_bl, fl_str, fl_non, fl_bag, fl_lst, fl_tup, fl_ins, has_int, has_bl, has_str, has_non, has_bag, has_lst, has_tup, has_ins, fz_own, fz_sh, fz_brw, bw_own, bw_sh, bw_brw, ub_own, ub_sh, ub_brw, so_own, so_sh, so_brw, tt_own, tt_sh, tt_brw, keep_f, keeps_f, keep_t, keeps_t, attr_prop, attr_fld, meth_m, methk_m, mul_m, add_m, sub_m, eq_m, ne_m, tru_m, bool_m, fl_rowL, fl_rowT, has_rowL, has_rowT, fl_tabL, fl_tabT, has_tabLt, has_tabTt, hb_L_sh, hb_L_own, hb_T_sh, hb_T_own, ite_self, fls_ints, hass_ints, fls_im, hass_im, fls_rowL, fls_rowT, List.set_cons_zero, List.set_cons_succ, wipeE, setsE, tgE, ITg.ix, giveE, IE.vars, IEs.vars, reduceCtorEq, decide_false, decide_true, Bool.or_false, Bool.false_or, Bool.or_true, Bool.true_or, Bool.and_true, Bool.true_and, Bool.and_false, Bool.false_and, Bool.not_true, Bool.not_false, if_true, if_false, ite_true, ite_false, Bool.false_eq_true, ne_eq, not_false_eq_true, not_true_eq_false, List.cons_append, List.nil_append, List.append_nil, List.mem_cons, List.not_mem_nil, or_false, false_or, or_true, true_or, Nat.reduceEqDiff, Nat.reduceAdd, eq_self, and_self, and_true, true_and, Option.map_some, Option.map_none, List.getElem?_cons_zero, List.getElem?_cons_succ, e1, fls_map, fl_rowL]
theorem Sb.unit (N i : Nat) : Sb N 1 (unitS i) := fun r _ => by
  cases i with
  | zero => simp [unitS]
  | succ i =>
    show (if r = i then (1 : Int) else 0).natAbs < 2 ^ 1
    split <;> decide
theorem hass_rows {ι : Type} (h : ι → List Int) (xs : List ι) : D.hass .brw (xs.map fun i => rowL .sh (h i)) = false := hass_f (fun i => by rw [has_rowL]; rfl) xs
theorem then_ok [Has P d_law_on] [Has P d_law_read_off] [Has P d_law_units] [Has P d_law_then] {N a b : Nat} {e f : Ta} (hN : N ≤ 4) (he : Tb N a e) (hf : Tb N b f) (ha : a + 4 ≤ 400000) (hb : b ≤ 400000) :
    callP P W noP (n + 2) "_law_then" [tabL .sh .sh (tab N e), tabL .sh .sh (tab N f)] = ret (tabL .sh .sh (tab N (mulE e f))) := by
  have hS : sizeLine = 2 ^ 24 := rfl
  rw [c_law_then]
  simp only [b_law_then, v_var, v_int, v_str, v_bl, v_non, v_bin, v_neg, v_not, v_bop, v_ife, v_cmp, v_cmp2, v_call, v_scall_s, v_meth, v_methk, v_attr, v_blt, v_isi, v_lst, v_tup, v_idx, v_sl, p_no, p_part, v_lc, v_lcif, v_lc2, i_seq, i_range1, i_range2, i_zip, i_enum, evs_nil, evs_cons, t_not, t_bop, t_ife, t_var, t_bl, t_cmp, t_cmp2, t_call, t_scall, t_meth, t_methk, t_attr, t_blt, t_isi, t_lc, t_idx, t_bin, bopT_and_t, bopT_and_f, bopT_or_t, bopT_or_f, bopM_and_t, bopM_and_f, bopM_or_t, bopM_or_f, tru_bl, tru_int, tru_lst, tru_tup, neg_int, part_int, add_int, sub_int, lt_int, le_int, gt_int, ge_int, eq_int, ne_int, eq_bl, ne_bl, cmpI_lt, cmpI_le, len_lst, len_tup, int_int, int_bl, list_lst, list_tup, tuple_lst, sum_ints, all_bls, any_bls, app_key, s_nil, s_cons, nx_nx, nx_rt, nx_bk, nx_ct, s_asg, s_unp, s_par, s_fld, s_app, s_bset, s_expr, s_ret, s_retN, s_ifs, s_for, s_while, s_pass, s_brk, s_cont, res_rt, res_nx, self_nx, ret_bnd, fail_bnd, bnd_assoc, seq_bnd, opt_s, opt_n, gV_0, gV_s, glo_c, fls_nil, fls_cons, hass_nil, hass_cons, fl_int, fl_bl, fl_str, fl_non, fl_bag, fl_lst, fl_tup, fl_ins, has_int, has_bl, has_str, has_non, has_bag, has_lst, has_tup, has_ins, fz_own, fz_sh, fz_brw, bw_own, bw_sh, bw_brw, ub_own, ub_sh, ub_brw, so_own, so_sh, so_brw, tt_own, tt_sh, tt_brw, keep_f, keeps_f, keep_t, keeps_t, attr_prop, attr_fld, meth_m, methk_m, mul_m, add_m, sub_m, eq_m, ne_m, tru_m, bool_m, fl_rowL, fl_rowT, has_rowL, has_rowT, fl_tabL, fl_tabT, has_tabLt, has_tabTt, hb_L_sh, hb_L_own, hb_T_sh, hb_T_own, ite_self, fls_ints, hass_ints, fls_im, hass_im, fls_rowL, fls_rowT, List.set_cons_zero, List.set_cons_succ, wipeE, setsE, tgE, ITg.ix, giveE, IE.vars, IEs.vars, reduceCtorEq, decide_false, decide_true, Bool.or_false, Bool.false_or, Bool.or_true, Bool.true_or, Bool.and_true, Bool.true_and, Bool.and_false, Bool.false_and, Bool.not_true, Bool.not_false, if_true, if_false, ite_true, ite_false, Bool.false_eq_true, ne_eq, not_false_eq_true, not_true_eq_false, List.cons_append, List.nil_append, List.append_nil, List.mem_cons, List.not_mem_nil, or_false, false_or, or_true, true_or, Nat.reduceEqDiff, Nat.reduceAdd, eq_self, and_self, and_true, true_and, Option.map_some, Option.map_none, List.getElem?_cons_zero, List.getElem?_cons_succ, len_tabL, units_ok hN, items_lst, fls_map, fl_rowL]
  refine bnd_lcr (fun i => rowL .sh ((List.range N).map (act f (act e (unitS i))))) (by omega) (fun i hi => ?_) ?_
  · simp only [v_var, v_int, v_str, v_bl, v_non, v_bin, v_neg, v_not, v_bop, v_ife, v_cmp, v_cmp2, v_call, v_scall_s, v_meth, v_methk, v_attr, v_blt, v_isi, v_lst, v_tup, v_idx, v_sl, p_no, p_part, v_lc, v_lcif, v_lc2, i_seq, i_range1, i_range2, i_zip, i_enum, evs_nil, evs_cons, t_not, t_bop, t_ife, t_var, t_bl, t_cmp, t_cmp2, t_call, t_scall, t_meth, t_methk, t_attr, t_blt, t_isi, t_lc, t_idx, t_bin, bopT_and_t, bopT_and_f, bopT_or_t, bopT_or_f, bopM_and_t, bopM_and_f, bopM_or_t, bopM_or_f, tru_bl, tru_int, tru_lst, tru_tup, neg_int, part_int, add_int, sub_int, lt_int, le_int, gt_int, ge_int, eq_int, ne_int, eq_bl, ne_bl, cmpI_lt, cmpI_le, len_lst, len_tup, int_int, int_bl, list_lst, list_tup, tuple_lst, sum_ints, all_bls, any_bls, app_key, s_nil, s_cons, nx_nx, nx_rt, nx_bk, nx_ct, s_asg, s_unp, s_par, s_fld, s_app, s_bset, s_expr, s_ret, s_retN, s_ifs, s_for, s_while, s_pass, s_brk, s_cont, res_rt, res_nx, self_nx, ret_bnd, fail_bnd, bnd_assoc, seq_bnd, opt_s, opt_n, gV_0, gV_s, glo_c, fls_nil, fls_cons, hass_nil, hass_cons, fl_int, fl_bl, fl_str, fl_non, fl_bag, fl_lst, fl_tup, fl_ins, has_int, has_bl, has_str, has_non, has_bag, has_lst, has_tup, has_ins, fz_own, fz_sh, fz_brw, bw_own, bw_sh, bw_brw, ub_own, ub_sh, ub_brw, so_own, so_sh, so_brw, tt_own, tt_sh, tt_brw, keep_f, keeps_f, keep_t, keeps_t, attr_prop, attr_fld, meth_m, methk_m, mul_m, add_m, sub_m, eq_m, ne_m, tru_m, bool_m, fl_rowL, fl_rowT, has_rowL, has_rowT, fl_tabL, fl_tabT, has_tabLt, has_tabTt, hb_L_sh, hb_L_own, hb_T_sh, hb_T_own, ite_self, fls_ints, hass_ints, fls_im, hass_im, fls_rowL, fls_rowT, List.set_cons_zero, List.set_cons_succ, wipeE, setsE, tgE, ITg.ix, giveE, IE.vars, IEs.vars, reduceCtorEq, decide_false, decide_true, Bool.or_false, Bool.false_or, Bool.or_true, Bool.true_or, Bool.and_true, Bool.true_and, Bool.and_false, Bool.false_and, Bool.not_true, Bool.not_false, if_true, if_false, ite_true, ite_false, Bool.false_eq_true, ne_eq, not_false_eq_true, not_true_eq_false, List.cons_append, List.nil_append, List.append_nil, List.mem_cons, List.not_mem_nil, or_false, false_or, or_true, true_or, Nat.reduceEqDiff, Nat.reduceAdd, eq_self, and_self, and_true, true_and, Option.map_some, Option.map_none, List.getElem?_cons_zero, List.getElem?_cons_succ, on_ok (n := n) hN he (Sb.unit N i) (by omega) (by omega), on_ok (n := n) hN hf (Sb.act hN he (Sb.unit N i)) hb (by omega)]
  · simp only [v_var, v_int, v_str, v_bl, v_non, v_bin, v_neg, v_not, v_bop, v_ife, v_cmp, v_cmp2, v_call, v_scall_s, v_meth, v_methk, v_attr, v_blt, v_isi, v_lst, v_tup, v_idx, v_sl, p_no, p_part, v_lc, v_lcif, v_lc2, i_seq, i_range1, i_range2, i_zip, i_enum, evs_nil, evs_cons, t_not, t_bop, t_ife, t_var, t_bl, t_cmp, t_cmp2, t_call, t_scall, t_meth, t_methk, t_attr, t_blt, t_isi, t_lc, t_idx, t_bin, bopT_and_t, bopT_and_f, bopT_or_t, bopT_or_f, bopM_and_t, bopM_and_f, bopM_or_t, bopM_or_f, tru_bl, tru_int, tru_lst, tru_tup, neg_int, part_int, add_int, sub_int, lt_int, le_int, gt_int, ge_int, eq_int, ne_int, eq_bl, ne_bl, cmpI_lt, cmpI_le, len_lst, len_tup, int_int, int_bl, list_lst, list_tup, tuple_lst, sum_ints, all_bls, any_bls, app_key, s_nil, s_cons, nx_nx, nx_rt, nx_bk, nx_ct, s_asg, s_unp, s_par, s_fld, s_app, s_bset, s_expr, s_ret, s_retN, s_ifs, s_for, s_while, s_pass, s_brk, s_cont, res_rt, res_nx, self_nx, ret_bnd, fail_bnd, bnd_assoc, seq_bnd, opt_s, opt_n, gV_0, gV_s, glo_c, fls_nil, fls_cons, hass_nil, hass_cons, fl_int, fl_bl, fl_str, fl_non, fl_bag, fl_lst, fl_tup, fl_ins, has_int, has_bl, has_str, has_non, has_bag, has_lst, has_tup, has_ins, fz_own, fz_sh, fz_brw, bw_own, bw_sh, bw_brw, ub_own, ub_sh, ub_brw, so_own, so_sh, so_brw, tt_own, tt_sh, tt_brw, keep_f, keeps_f, keep_t, keeps_t, attr_prop, attr_fld, meth_m, methk_m, mul_m, add_m, sub_m, eq_m, ne_m, tru_m, bool_m, fl_rowL, fl_rowT, has_rowL, has_rowT, fl_tabL, fl_tabT, has_tabLt, has_tabTt, hb_L_sh, hb_L_own, hb_T_sh, hb_T_own, ite_self, fls_ints, hass_ints, fls_im, hass_im, fls_rowL, fls_rowT, List.set_cons_zero, List.set_cons_succ, wipeE, setsE, tgE, ITg.ix, giveE, IE.vars, IEs.vars, reduceCtorEq, decide_false, decide_true, Bool.or_false, Bool.false_or, Bool.or_true, Bool.true_or, Bool.and_true, Bool.true_and, Bool.and_false, Bool.false_and, Bool.not_true, Bool.not_false, if_true, if_false, ite_true, ite_false, Bool.false_eq_true, ne_eq, not_false_eq_true, not_true_eq_false, List.cons_append, List.nil_append, List.append_nil, List.mem_cons, List.not_mem_nil, or_false, false_or, or_true, true_or, Nat.reduceEqDiff, Nat.reduceAdd, eq_self, and_self, and_true, true_and, Option.map_some, Option.map_none, List.getElem?_cons_zero, List.getElem?_cons_succ, fls_map, fl_rowL, hass_rows, read_off_ok (n := n) (E := fun i => act f (act e (unitS i))) hN]
    rw [tab_eq.mpr ((rd_congr fun i _ r _ => (act_mul e f (unitS i) r).symm).trans (rd_act N (mulE e f)))]
theorem back_law [Has P d_law_undone] [Has P d_law_read_off] [Has P d_law_units] [Has P d_law_back] {N a : Nat} {e : Ta} (hN : N ≤ 4) (he : Tb N a e) (ha : 4 * (a + 2) + 4 ≤ 400000) :
    callP P W noP (n + 2) "_law_back" [tabL .sh .sh (tab N e)] = ret (tabL .sh .sh (tab N (invE e))) := by
  have hS : sizeLine = 2 ^ 24 := rfl
  rw [c_law_back]
  simp only [b_law_back, v_var, v_int, v_str, v_bl, v_non, v_bin, v_neg, v_not, v_bop, v_ife, v_cmp, v_cmp2, v_call, v_scall_s, v_meth, v_methk, v_attr, v_blt, v_isi, v_lst, v_tup, v_idx, v_sl, p_no, p_part, v_lc, v_lcif, v_lc2, i_seq, i_range1, i_range2, i_zip, i_enum, evs_nil, evs_cons, t_not, t_bop, t_ife, t_var, t_bl, t_cmp, t_cmp2, t_call, t_scall, t_meth, t_methk, t_attr, t_blt, t_isi, t_lc, t_idx, t_bin, bopT_and_t, bopT_and_f, bopT_or_t, bopT_or_f, bopM_and_t, bopM_and_f, bopM_or_t, bopM_or_f, tru_bl, tru_int, tru_lst, tru_tup, neg_int, part_int, add_int, sub_int, lt_int, le_int, gt_int, ge_int, eq_int, ne_int, eq_bl, ne_bl, cmpI_lt, cmpI_le, len_lst, len_tup, int_int, int_bl, list_lst, list_tup, tuple_lst, sum_ints, all_bls, any_bls, app_key, s_nil, s_cons, nx_nx, nx_rt, nx_bk, nx_ct, s_asg, s_unp, s_par, s_fld, s_app, s_bset, s_expr, s_ret, s_retN, s_ifs, s_for, s_while, s_pass, s_brk, s_cont, res_rt, res_nx, self_nx, ret_bnd, fail_bnd, bnd_assoc, seq_bnd, opt_s, opt_n, gV_0, gV_s, glo_c, fls_nil, fls_cons, hass_nil, hass_cons, fl_int, fl_bl, fl_str, fl_non, fl_bag, fl_lst, fl_tup, fl_ins, has_int, has_bl, has_str, has_non, has_bag, has_lst, has_tup, has_ins, fz_own, fz_sh, fz_brw, bw_own, bw_sh, bw_brw, ub_own, ub_sh, ub_brw, so_own, so_sh, so_brw, tt_own, tt_sh, tt_brw, keep_f, keeps_f, keep_t, keeps_t, attr_prop, attr_fld, meth_m, methk_m, mul_m, add_m, sub_m, eq_m, ne_m, tru_m, bool_m, fl_rowL, fl_rowT, has_rowL, has_rowT, fl_tabL, fl_tabT, has_tabLt, has_tabTt, hb_L_sh, hb_L_own, hb_T_sh, hb_T_own, ite_self, fls_ints, hass_ints, fls_im, hass_im, fls_rowL, fls_rowT, List.set_cons_zero, List.set_cons_succ, wipeE, setsE, tgE, ITg.ix, giveE, IE.vars, IEs.vars, reduceCtorEq, decide_false, decide_true, Bool.or_false, Bool.false_or, Bool.or_true, Bool.true_or, Bool.and_true, Bool.true_and, Bool.and_false, Bool.false_and, Bool.not_true, Bool.not_false, if_true, if_false, ite_true, ite_false, Bool.false_eq_true, ne_eq, not_false_eq_true, not_true_eq_false, List.cons_append, List.nil_append, List.append_nil, List.mem_cons, List.not_mem_nil, or_false, false_or, or_true, true_or, Nat.reduceEqDiff, Nat.reduceAdd, eq_self, and_self, and_true, true_and, Option.map_some, Option.map_none, List.getElem?_cons_zero, List.getElem?_cons_succ, len_tabL, units_ok hN, items_lst, fls_map, fl_rowL]
  refine bnd_lcr (fun i => rowL .sh ((List.range N).map (act (invE e) (unitS i)))) (by omega) (fun i hi => ?_) ?_
  · simp only [v_var, v_int, v_str, v_bl, v_non, v_bin, v_neg, v_not, v_bop, v_ife, v_cmp, v_cmp2, v_call, v_scall_s, v_meth, v_methk, v_attr, v_blt, v_isi, v_lst, v_tup, v_idx, v_sl, p_no, p_part, v_lc, v_lcif, v_lc2, i_seq, i_range1, i_range2, i_zip, i_enum, evs_nil, evs_cons, t_not, t_bop, t_ife, t_var, t_bl, t_cmp, t_cmp2, t_call, t_scall, t_meth, t_methk, t_attr, t_blt, t_isi, t_lc, t_idx, t_bin, bopT_and_t, bopT_and_f, bopT_or_t, bopT_or_f, bopM_and_t, bopM_and_f, bopM_or_t, bopM_or_f, tru_bl, tru_int, tru_lst, tru_tup, neg_int, part_int, add_int, sub_int, lt_int, le_int, gt_int, ge_int, eq_int, ne_int, eq_bl, ne_bl, cmpI_lt, cmpI_le, len_lst, len_tup, int_int, int_bl, list_lst, list_tup, tuple_lst, sum_ints, all_bls, any_bls, app_key, s_nil, s_cons, nx_nx, nx_rt, nx_bk, nx_ct, s_asg, s_unp, s_par, s_fld, s_app, s_bset, s_expr, s_ret, s_retN, s_ifs, s_for, s_while, s_pass, s_brk, s_cont, res_rt, res_nx, self_nx, ret_bnd, fail_bnd, bnd_assoc, seq_bnd, opt_s, opt_n, gV_0, gV_s, glo_c, fls_nil, fls_cons, hass_nil, hass_cons, fl_int, fl_bl, fl_str, fl_non, fl_bag, fl_lst, fl_tup, fl_ins, has_int, has_bl, has_str, has_non, has_bag, has_lst, has_tup, has_ins, fz_own, fz_sh, fz_brw, bw_own, bw_sh, bw_brw, ub_own, ub_sh, ub_brw, so_own, so_sh, so_brw, tt_own, tt_sh, tt_brw, keep_f, keeps_f, keep_t, keeps_t, attr_prop, attr_fld, meth_m, methk_m, mul_m, add_m, sub_m, eq_m, ne_m, tru_m, bool_m, fl_rowL, fl_rowT, has_rowL, has_rowT, fl_tabL, fl_tabT, has_tabLt, has_tabTt, hb_L_sh, hb_L_own, hb_T_sh, hb_T_own, ite_self, fls_ints, hass_ints, fls_im, hass_im, fls_rowL, fls_rowT, List.set_cons_zero, List.set_cons_succ, wipeE, setsE, tgE, ITg.ix, giveE, IE.vars, IEs.vars, reduceCtorEq, decide_false, decide_true, Bool.or_false, Bool.false_or, Bool.or_true, Bool.true_or, Bool.and_true, Bool.true_and, Bool.and_false, Bool.false_and, Bool.not_true, Bool.not_false, if_true, if_false, ite_true, ite_false, Bool.false_eq_true, ne_eq, not_false_eq_true, not_true_eq_false, List.cons_append, List.nil_append, List.append_nil, List.mem_cons, List.not_mem_nil, or_false, false_or, or_true, true_or, Nat.reduceEqDiff, Nat.reduceAdd, eq_self, and_self, and_true, true_and, Option.map_some, Option.map_none, List.getElem?_cons_zero, List.getElem?_cons_succ, undone_ok (n := n) hN he (Sb.unit N i) (by omega)]
  · simp only [v_var, v_int, v_str, v_bl, v_non, v_bin, v_neg, v_not, v_bop, v_ife, v_cmp, v_cmp2, v_call, v_scall_s, v_meth, v_methk, v_attr, v_blt, v_isi, v_lst, v_tup, v_idx, v_sl, p_no, p_part, v_lc, v_lcif, v_lc2, i_seq, i_range1, i_range2, i_zip, i_enum, evs_nil, evs_cons, t_not, t_bop, t_ife, t_var, t_bl, t_cmp, t_cmp2, t_call, t_scall, t_meth, t_methk, t_attr, t_blt, t_isi, t_lc, t_idx, t_bin, bopT_and_t, bopT_and_f, bopT_or_t, bopT_or_f, bopM_and_t, bopM_and_f, bopM_or_t, bopM_or_f, tru_bl, tru_int, tru_lst, tru_tup, neg_int, part_int, add_int, sub_int, lt_int, le_int, gt_int, ge_int, eq_int, ne_int, eq_bl, ne_bl, cmpI_lt, cmpI_le, len_lst, len_tup, int_int, int_bl, list_lst, list_tup, tuple_lst, sum_ints, all_bls, any_bls, app_key, s_nil, s_cons, nx_nx, nx_rt, nx_bk, nx_ct, s_asg, s_unp, s_par, s_fld, s_app, s_bset, s_expr, s_ret, s_retN, s_ifs, s_for, s_while, s_pass, s_brk, s_cont, res_rt, res_nx, self_nx, ret_bnd, fail_bnd, bnd_assoc, seq_bnd, opt_s, opt_n, gV_0, gV_s, glo_c, fls_nil, fls_cons, hass_nil, hass_cons, fl_int, fl_bl, fl_str, fl_non, fl_bag, fl_lst, fl_tup, fl_ins, has_int, has_bl, has_str, has_non, has_bag, has_lst, has_tup, has_ins, fz_own, fz_sh, fz_brw, bw_own, bw_sh, bw_brw, ub_own, ub_sh, ub_brw, so_own, so_sh, so_brw, tt_own, tt_sh, tt_brw, keep_f, keeps_f, keep_t, keeps_t, attr_prop, attr_fld, meth_m, methk_m, mul_m, add_m, sub_m, eq_m, ne_m, tru_m, bool_m, fl_rowL, fl_rowT, has_rowL, has_rowT, fl_tabL, fl_tabT, has_tabLt, has_tabTt, hb_L_sh, hb_L_own, hb_T_sh, hb_T_own, ite_self, fls_ints, hass_ints, fls_im, hass_im, fls_rowL, fls_rowT, List.set_cons_zero, List.set_cons_succ, wipeE, setsE, tgE, ITg.ix, giveE, IE.vars, IEs.vars, reduceCtorEq, decide_false, decide_true, Bool.or_false, Bool.false_or, Bool.or_true, Bool.true_or, Bool.and_true, Bool.true_and, Bool.and_false, Bool.false_and, Bool.not_true, Bool.not_false, if_true, if_false, ite_true, ite_false, Bool.false_eq_true, ne_eq, not_false_eq_true, not_true_eq_false, List.cons_append, List.nil_append, List.append_nil, List.mem_cons, List.not_mem_nil, or_false, false_or, or_true, true_or, Nat.reduceEqDiff, Nat.reduceAdd, eq_self, and_self, and_true, true_and, Option.map_some, Option.map_none, List.getElem?_cons_zero, List.getElem?_cons_succ, fls_map, fl_rowL, hass_rows, read_off_ok (n := n) (E := fun i => act (invE e) (unitS i)) hN]
    rw [tab_eq.mpr (rd_act N (invE e))]
end
end TI.TL

set_option Elab.async false
set_option linter.all false
set_option maxRecDepth 100000
set_option maxHeartbeats 2000000
/-! the laws' turned and crossed; statements one by one -/
namespace TI.TL
open PySem PySem.Spec PyProof.Rows L2
section
variable {P : Pg} {cl : Str → List D → M D} {W n : Nat}
theorem turned_law [Has P d_law_on] [Has P d_law_undone] [Has P d_law_read_off] [Has P d_law_units] [Has P d_law_then] [Has P d_law_back] [Has P d_law_turned] {N a b : Nat} {e f : Ta} (hN : N ≤ 4) (he : Tb N a e) (hf : Tb N b f) (hb : 4 * (b + 2) + a + 8 ≤ 400000) :
    callP P W noP (n + 3) "_law_turned" [tabL .sh .sh (tab N e), tabL .sh .sh (tab N f)] = ret (tabL .sh .sh (tab N (turnE e f))) := by
  rw [c_law_turned]
  simp only [b_law_turned, v_var, v_int, v_str, v_bl, v_non, v_bin, v_neg, v_not, v_bop, v_ife, v_cmp, v_cmp2, v_call, v_scall_s, v_meth, v_methk, v_attr, v_blt, v_isi, v_lst, v_tup, v_idx, v_sl, p_no, p_part, v_lc, v_lcif, v_lc2, i_seq, i_range1, i_range2, i_zip, i_enum, evs_nil, evs_cons, t_not, t_bop, t_ife, t_var, t_bl, t_cmp, t_cmp2, t_call, t_scall, t_meth, t_methk, t_attr, t_blt, t_isi, t_lc, t_idx, t_bin, bopT_and_t, bopT_and_f, bopT_or_t, bopT_or_f, bopM_and_t, bopM_and_f, bopM_or_t, bopM_or_f, tru_bl, tru_int, tru_lst, tru_tup, neg_int, part_int, add_int, sub_int, lt_int, le_int, gt_int, ge_int, eq_int, ne_int, eq_bl, ne_bl, cmpI_lt, cmpI_le, len_lst, len_tup, int_int, int_bl, list_lst, list_tup, tuple_lst, sum_ints, all_bls, any_bls, app_key, s_nil, s_cons, nx_nx, nx_rt, nx_bk, nx_ct, s_asg, s_unp, s_par, s_fld, s_app, s_bset, s_expr, s_ret, s_retN, s_ifs, s_for, s_while, s_pass, s_brk, s_cont, res_rt, res_nx, self_nx, ret_bnd, fail_bnd, bnd_assoc, seq_bnd, opt_s, opt_n, gV_0, gV_s, glo_c, fls_nil, fls_cons, hass_nil, hass_cons, fl_int, fl_bl, fl_str, fl_non, fl_bag, fl_lst, fl_tup, fl_ins, has_int, has_bl, has_str, has_non, has_bag, has_lst, has_tup, has_ins, fz_own, fz_sh, fz_brw, bw_own, bw_sh, bw_brw, ub_own, ub_sh, ub_brw, so_own, so_sh, so_brw, tt_own, tt_sh, tt_brw, keep_f, keeps_f, keep_t, keeps_t, attr_prop, attr_fld, meth_m, methk_m, mul_m, add_m, sub_m, eq_m, ne_m, tru_m, bool_m, fl_rowL, fl_rowT, has_rowL, has_rowT, fl_tabL, fl_tabT, has_tabLt, has_tabTt, hb_L_sh, hb_L_own, hb_T_sh, hb_T_own, ite_self, fls_ints, hass_ints, fls_im, hass_im, fls_rowL, fls_rowT, List.set_cons_zero, List.set_cons_succ, wipeE, setsE, tgE, ITg.ix, giveE, IE.vars, IEs.vars, reduceCtorEq, decide_false, decide_true, Bool.or_false, Bool.false_or, Bool.or_true, Bool.true_or, Bool.and_true, Bool.true_and, Bool.and_false, Bool.false_and, Bool.not_true, Bool.not_false, if_true, if_false, ite_true, ite_false, Bool.false_eq_true, ne_eq, not_false_eq_true, not_true_eq_false, List.cons_append, List.nil_append, List.append_nil, List.mem_cons, List.not_mem_nil, or_false, false_or, or_true, true_or, Nat.reduceEqDiff, Nat.reduceAdd, eq_self, and_self, and_true, true_and, Option.map_some, Option.map_none, List.getElem?_cons_zero, List.getElem?_cons_succ, back_law (n := n) hN hf (by omega), then_ok (n := n) hN (Tb.inv hN hf) he (by omega) (by omega), then_ok (n := n) hN (Tb.mul hN (Tb.inv hN hf) he) hf (by omega) (by omega), turnE]
theorem crossed_law [Has P d_law_on] [Has P d_law_undone] [Has P d_law_read_off] [Has P d_law_units] [Has P d_law_then] [Has P d_law_back] [Has P d_law_crossed] {N a b : Nat} {e f : Ta} (hN : N ≤ 4) (he : Tb N a e) (hf : Tb N b f) (hb : 4 * (a + b + 10) + 20 ≤ 400000) :
    callP P W noP (n + 3) "_law_crossed" [tabL .sh .sh (tab N e), tabL .sh .sh (tab N f)] = ret (tabL .sh .sh (tab N (mulE (invE (mulE f e)) (mulE e f)))) := by
  rw [c_law_crossed]
  simp only [b_law_crossed, v_var, v_int, v_str, v_bl, v_non, v_bin, v_neg, v_not, v_bop, v_ife, v_cmp, v_cmp2, v_call, v_scall_s, v_meth, v_methk, v_attr, v_blt, v_isi, v_lst, v_tup, v_idx, v_sl, p_no, p_part, v_lc, v_lcif, v_lc2, i_seq, i_range1, i_range2, i_zip, i_enum, evs_nil, evs_cons, t_not, t_bop, t_ife, t_var, t_bl, t_cmp, t_cmp2, t_call, t_scall, t_meth, t_methk, t_attr, t_blt, t_isi, t_lc, t_idx, t_bin, bopT_and_t, bopT_and_f, bopT_or_t, bopT_or_f, bopM_and_t, bopM_and_f, bopM_or_t, bopM_or_f, tru_bl, tru_int, tru_lst, tru_tup, neg_int, part_int, add_int, sub_int, lt_int, le_int, gt_int, ge_int, eq_int, ne_int, eq_bl, ne_bl, cmpI_lt, cmpI_le, len_lst, len_tup, int_int, int_bl, list_lst, list_tup, tuple_lst, sum_ints, all_bls, any_bls, app_key, s_nil, s_cons, nx_nx, nx_rt, nx_bk, nx_ct, s_asg, s_unp, s_par, s_fld, s_app, s_bset, s_expr, s_ret, s_retN, s_ifs, s_for, s_while, s_pass, s_brk, s_cont, res_rt, res_nx, self_nx, ret_bnd, fail_bnd, bnd_assoc, seq_bnd, opt_s, opt_n, gV_0, gV_s, glo_c, fls_nil, fls_cons, hass_nil, hass_cons, fl_int, fl_bl, fl_str, fl_non, fl_bag, fl_lst, fl_tup, fl_ins, has_int, has_bl, has_str, has_non, has_bag, has_lst, has_tup, has_ins, fz_own, fz_sh, fz_brw, bw_own, bw_sh, bw_brw, ub_own, ub_sh, ub_brw, so_own, so_sh, so_brw, tt_own, tt_sh, tt_brw, keep_f, keeps_f, keep_t, keeps_t, attr_prop, attr_fld, meth_m, methk_m, mul_m, add_m, sub_m, eq_m, ne_m, tru_m, bool_m, fl_rowL, fl_rowT, has_rowL, has_rowT, fl_tabL, fl_tabT, has_tabLt, has_tabTt, hb_L_sh, hb_L_own, hb_T_sh, hb_T_own, ite_self, fls_ints, hass_ints, fls_im, hass_im, fls_rowL, fls_rowT, List.set_cons_zero, List.set_cons_succ, wipeE, setsE, tgE, ITg.ix, giveE, IE.vars, IEs.vars, reduceCtorEq, decide_false, decide_true, Bool.or_false, Bool.false_or, Bool.or_true, Bool.true_or, Bool.and_true, Bool.true_and, Bool.and_false, Bool.false_and, Bool.not_true, Bool.not_false, if_true, if_false, ite_true, ite_false, Bool.false_eq_true, ne_eq, not_false_eq_true, not_true_eq_false, List.cons_append, List.nil_append, List.append_nil, List.mem_cons, List.not_mem_nil, or_false, false_or, or_true, true_or, Nat.reduceEqDiff, Nat.reduceAdd, eq_self, and_self, and_true, true_and, Option.map_some, Option.map_none, List.getElem?_cons_zero, List.getElem?_cons_succ, then_ok (n := n) hN hf he (by omega) (by omega), back_law (n := n) hN (Tb.mul hN hf he) (by omega), then_ok (n := n) hN he hf (by omega) (by omega), then_ok (n := n) hN (Tb.inv hN (Tb.mul hN hf he)) (Tb.mul hN he hf) (by omega) (by omega)]
theorem dr_s {s : IS} {ss : ISs} {env : Env} {c d : Nat} {I : Env → Prop} {Q : Fw → Prop} (h : Dr c (exS P cl W s env) (Nx I)) (k : ∀ env', I env' → Dr d (exSs P cl W ss env') Q) : Dr (c + d) (exSs P cl W (.cons s ss) env) Q := by
  rw [s_cons]
  refine dr_bnd h fun r hr => ?_
  obtain ⟨e, rfl, he⟩ := hr
  exact k e he
theorem dr_p {s : IS} {ss : ISs} {env env' : Env} {d : Nat} {Q : Fw → Prop} (h : exS P cl W s env = ret (.nx env')) (k : Dr d (exSs P cl W ss env') Q) : Dr d (exSs P cl W (.cons s ss) env) Q := by
  rw [s_cons, h, ret_bnd]
  exact k
theorem dr_nil {env : Env} {I : Env → Prop} (h : I env) : Dr 0 (exSs P cl W .nil env) (Nx I) := dr_ret ⟨env, rfl, h⟩
theorem dr_nx {c : Nat} {env : Env} {I : Env → Prop} (h : I env) : Dr c (ret (.nx env)) (Nx I) := dr_ret' ⟨env, rfl, h⟩
theorem dr_forr {c : Nat} {tg : ITg} {body : ISs} {k : Nat} {g : Nat → D} {env : Env} (I : Nat → Env → Prop) (h0 : I 0 env)
    (H : ∀ i (h : i < k) env, I i env → Dr c (bnd (opt (tgE tg (g i).ub.so env)) (exSs P cl W body)) (Nx (I (i + 1)))) :
    Dr (c * k) (forM P cl W tg body ((List.range k).map g) env) (Nx (I k)) := by
  have q := dr_for (P := P) (cl := cl) (W := W) (tg := tg) (body := body) (xs := List.range k) (g := g) (c := c) I h0 (fun i h env hi => by
    rw [List.getElem_range]
    exact H i (by simpa using h) env hi)
  rwa [List.length_range] at q
theorem range1_lit5 : range1D (.int 5) = some ((List.range 5).map fun (i : Nat) => D.int (i : Int)) := range1_nat 5 (by decide)
theorem range1_lit8 : range1D (.int 8) = some ((List.range 8).map fun (i : Nat) => D.int (i : Int)) := range1_nat 8 (by decide)
theorem range1_lit6 : range1D (.int 6) = some ((List.range 6).map fun (i : Nat) => D.int (i : Int)) := range1_nat 6 (by decide)
end
theorem Tb.of {N m k : Nat} {e : Ta} (h : ∀ r c, c ≤ r → r < N → (e r c).natAbs ≤ m) (hk : m < 2 ^ k) : Tb N k e := fun r c hc hr => Nat.lt_of_le_of_lt (h r c hc hr) hk
theorem dp_row (f : Fl) (r : List Int) : dpD (rowL f r) = 1 := by
  unfold rowL
  rw [dpD]
  have : ∀ r : List Int, dpDs (r.map D.int) = 0 := fun r => by induction r with
    | nil => rfl
    | cons x r ih => rw [List.map_cons, dpDs, ih]; rfl
  rw [this]
theorem dp_tab (f g : Fl) (t : List (List Int)) : dpD (tabL f g t) ≤ 2 := by
  unfold tabL
  rw [dpD]
  have : dpDs (t.map (rowL g)) ≤ 1 := by induction t with
    | nil => exact Nat.zero_le _
    | cons x r ih => rw [List.map_cons, dpDs, dp_row]; omega
  omega
theorem plDs_of : ∀ {ds : List D}, (∀ d ∈ ds, plD d = true) → plDs ds = true
  | [], _ => rfl
  | d :: ds, h => by rw [plDs, h d List.mem_cons_self, plDs_of fun x hx => h x (List.mem_cons_of_mem _ hx)]; rfl
theorem pl_tab (N : Nat) (h : N ≤ 4) (f g : Fl) (e : Ta) : plD (tabL f g (tab N e)) = true := by
  have hS : sizeLine = 2 ^ 24 := rfl
  rw [tabL_def, plD, plDs_of, Bool.and_true]
  · exact decide_eq_true (by simp; omega)
  · intro d hd
    obtain ⟨r, hr, rfl⟩ := List.mem_map.mp hd
    have := List.mem_range.mp hr
    rw [rowL_def, plD, plDs_of, Bool.and_true]
    · exact decide_eq_true (by simp; omega)
    · intro d hd
      obtain ⟨c, _, rfl⟩ := List.mem_map.mp hd
      rfl
end TI.TL

set_option Elab.async false
set_option linter.all false
set_option maxRecDepth 100000
set_option maxHeartbeats 4000000
namespace K57
open PySem PySem.Spec PyProof.Rows L2 TI TI.TL
def lawN : List Str := ["_law_script", "_law_bag", "_law_names", "_law_drawn", "_law_made", "_law_e", "_law_at", "_law_told_here", "_law_missing", "_law_last", "_law_other"]
def lawB : ISs := (.cons (.asg 2 (.lst (.cons (.str "InvalidSize") (.cons (.str "InvalidPlace") (.cons (.str "InvalidCount") (.cons (.str "InvalidProgram") (.cons (.str "TooWide") (.cons (.str "OpenCounts") .nil)))))))) (.cons (.asg 2 (.bin .Add (.var 2) (.lst (.cons (.str "InvalidRecipe") (.cons (.str "TooSteep") (.cons (.str "InvalidModulus") (.cons (.str "TooMany") (.cons (.str "InvalidName") (.cons (.str "DuplicateName") .nil))))))))) (.cons (.asg 2 (.bin .Add (.var 2) (.lst (.cons (.str "WrongKind") (.cons (.str "CapacityExceeded") (.cons (.str "InvalidLimit") (.cons (.str "InvalidCommand") (.cons (.str "InUse") (.cons (.str "ParseError") .nil))))))))) (.cons (.asg 2 (.bin .Add (.var 2) (.lst (.cons (.str "InvalidState") (.cons (.str "InvalidDeed") (.cons (.str "InvalidPolynomial") (.cons (.str "NotWhole") (.cons (.str "SizesDiffer") .nil)))))))) (.cons (.asg 2 (.bin .Add (.var 2) (.lst (.cons (.str "InvalidWorkshop") (.cons (.str "InvalidRemainders") .nil))))) (.cons (.asg 3 (.call "_law_any" (.cons (.var 1) (.cons (.lst (.cons .non (.cons (.int 3) (.cons (.str "b") (.cons (.tup (.cons (.int 1) (.cons (.int 2) .nil))) (.cons (.lst (.cons (.int 4) .nil)) (.cons (.bl true) (.cons (.neg (.int 7)) .nil)))))))) .nil)))) (.cons (.asg 4 (.call "_law_some_errors" (.cons (.var 3) .nil))) (.cons (.ifs (.bop .Or (.not (.call "_law_like" (.cons (.lc (.name 5) (.seq (.var 4)) (.attr (.var 5) "code")) (.cons (.var 2) .nil)))) (.not (.call "_law_like" (.cons (.call "_law_told" (.cons (.var 4) .nil)) (.cons (.bin .Mult (.lst (.cons (.var 3) .nil)) (.int 18)) .nil))))) (.cons (.ret (.bl false)) .nil) .nil) (.cons (.forr (.name 5) (.seq (.var 4)) (.cons (.ifs (.not (.call "_law_like" (.cons (.lst (.cons (.isi (.var 5) ["TallyError"]) (.cons (.isi (.var 5) ["ValueError"]) (.cons (.isi (.var 5) ["LookupError"]) .nil)))) (.cons (.lst (.cons (.bl true) (.cons (.bl true) (.cons (.bl false) .nil)))) .nil)))) (.cons (.ret (.bl false)) .nil) .nil) .nil)) (.cons (.asg 4 (.bin .Add (.var 4) (.lst (.cons (.exck "UnknownName" "name" (.var 3)) (.cons (.exc "NothingLeft" .nil) .nil))))) (.cons (.forr (.name 6) (.range1 (.blt "len" (.cons (.var 4) .nil))) (.cons (.ifs (.cmp .NotEq (.call "_law_kinds" (.cons (.idx (.var 4) (.var 6)) .nil)) (.lc (.name 10) (.range1 (.blt "len" (.cons (.var 4) .nil))) (.cmp .Eq (.var 6) (.var 10)))) (.cons (.ret (.bl false)) .nil) .nil) .nil)) (.cons (.par [8, 9] (.cons (.idx (.var 4) (.int 25)) (.cons (.idx (.var 4) (.int 26)) .nil))) (.cons (.asg 7 (.lst (.cons (.attr (.var 8) "code") (.cons (.attr (.var 8) "name") (.cons (.attr (.var 9) "code") (.cons (.isi (.var 8) ["Missing"]) (.cons (.isi (.var 8) ["LookupError"]) .nil))))))) (.cons (.asg 7 (.bin .Add (.var 7) (.lst (.cons (.isi (.var 8) ["TallyError"]) (.cons (.isi (.var 9) ["IndexError"]) (.cons (.isi (.var 9) ["Missing"]) (.cons (.isi (.var 9) ["TallyError"]) .nil))))))) (.cons (.ifs (.not (.call "_law_like" (.cons (.var 7) (.cons (.lst (.cons (.str "UnknownName") (.cons (.var 3) (.cons (.str "NothingLeft") (.cons (.bl true) (.cons (.bl true) (.cons (.bl false) (.cons (.bl true) (.cons (.bl false) (.cons (.bl false) .nil)))))))))) .nil)))) (.cons (.ret (.bl false)) .nil) .nil) (.cons (.ret (.cmp .Eq (.call "_law_by_name" .nil) (.bin .Mult (.lst (.cons (.int 5) .nil)) (.int 12)))) .nil))))))))))))))))
def PP : Pg where
  con := []
  fns := (["_law_draw", "_law_any", "_law_like", "_law_some_errors", "_law_kinds", "_law_told", "_law_by_name"] : List Str)
  cls := []
  att := []
  isc := ["CapacityExceeded", "DuplicateName", "InUse", "InvalidCommand", "InvalidCount", "InvalidDeed", "InvalidLimit", "InvalidModulus", "InvalidName", "InvalidPlace", "InvalidPolynomial", "InvalidProgram", "InvalidRecipe", "InvalidRemainders", "InvalidSize", "InvalidState", "InvalidWorkshop", "Missing", "NotWhole", "NothingLeft", "OpenCounts", "ParseError", "SizesDiffer", "TallyError", "TooMany", "TooSteep", "TooWide", "UnknownName", "WrongKind"]
  mro := []
  defs := ([d_law_draw, d_law_any, d_law_like, d_law_some_errors, d_law_kinds, d_law_told, d_law_by_name] : List Def)
  exs := ([("InvalidSize", ⟨["given"], [("code", .str "InvalidSize"), ("given", .par "given")], ["InvalidSize", "TallyError", "ValueError"]⟩), ("InvalidState", ⟨[], [("code", .str "InvalidState")], ["InvalidState", "TallyError", "ValueError"]⟩), ("InvalidDeed", ⟨[], [("code", .str "InvalidDeed")], ["InvalidDeed", "TallyError", "ValueError"]⟩), ("InvalidPlace", ⟨["given"], [("code", .str "InvalidPlace"), ("given", .par "given")], ["InvalidPlace", "TallyError", "ValueError"]⟩), ("InvalidPolynomial", ⟨[], [("code", .str "InvalidPolynomial")], ["InvalidPolynomial", "TallyError", "ValueError"]⟩), ("NotWhole", ⟨[], [("code", .str "NotWhole")], ["NotWhole", "TallyError", "ValueError"]⟩), ("SizesDiffer", ⟨[], [("code", .str "SizesDiffer")], ["SizesDiffer", "TallyError", "ValueError"]⟩), ("InvalidCount", ⟨["given"], [("code", .str "InvalidCount"), ("given", .par "given")], ["InvalidCount", "TallyError", "ValueError"]⟩), ("InvalidProgram", ⟨["path"], [("code", .str "InvalidProgram"), ("path", .par "path")], ["InvalidProgram", "TallyError", "ValueError"]⟩), ("TooWide", ⟨["most"], [("code", .str "TooWide"), ("most", .par "most")], ["TooWide", "TallyError", "ValueError"]⟩), ("OpenCounts", ⟨["letters"], [("code", .str "OpenCounts"), ("letters", .par "letters")], ["OpenCounts", "TallyError", "ValueError"]⟩), ("InvalidRecipe", ⟨["line"], [("code", .str "InvalidRecipe"), ("line", .par "line")], ["InvalidRecipe", "TallyError", "ValueError"]⟩), ("InvalidWorkshop", ⟨[], [("code", .str "InvalidWorkshop")], ["InvalidWorkshop", "TallyError", "ValueError"]⟩), ("TooSteep", ⟨["most"], [("code", .str "TooSteep"), ("most", .par "most")], ["TooSteep", "TallyError", "ValueError"]⟩), ("InvalidModulus", ⟨["given"], [("code", .str "InvalidModulus"), ("given", .par "given")], ["InvalidModulus", "TallyError", "ValueError"]⟩), ("InvalidRemainders", ⟨[], [("code", .str "InvalidRemainders")], ["InvalidRemainders", "TallyError", "ValueError"]⟩), ("TooMany", ⟨["most"], [("code", .str "TooMany"), ("most", .par "most")], ["TooMany", "TallyError", "ValueError"]⟩), ("InvalidName", ⟨["name"], [("code", .str "InvalidName"), ("name", .par "name")], ["InvalidName", "TallyError", "ValueError"]⟩), ("DuplicateName", ⟨["name"], [("code", .str "DuplicateName"), ("name", .par "name")], ["DuplicateName", "TallyError", "ValueError"]⟩), ("WrongKind", ⟨["name"], [("code", .str "WrongKind"), ("name", .par "name")], ["WrongKind", "TallyError", "ValueError"]⟩)] : List (Str × Exc)) ++ ([("CapacityExceeded", ⟨["limit"], [("code", .str "CapacityExceeded"), ("limit", .par "limit")], ["CapacityExceeded", "TallyError", "ValueError"]⟩), ("InvalidLimit", ⟨["given"], [("code", .str "InvalidLimit"), ("given", .par "given")], ["InvalidLimit", "TallyError", "ValueError"]⟩), ("InvalidCommand", ⟨["word"], [("code", .str "InvalidCommand"), ("word", .par "word")], ["InvalidCommand", "TallyError", "ValueError"]⟩), ("InUse", ⟨["user"], [("code", .str "InUse"), ("user", .par "user")], ["InUse", "TallyError", "ValueError"]⟩), ("ParseError", ⟨["line"], [("code", .str "ParseError"), ("line", .par "line")], ["ParseError", "TallyError", "ValueError"]⟩), ("UnknownName", ⟨["name"], [("code", .str "UnknownName"), ("name", .par "name")], ["UnknownName", "Missing", "LookupError"]⟩), ("NothingLeft", ⟨[], [("code", .str "NothingLeft")], ["NothingLeft", "IndexError", "LookupError"]⟩)] : List (Str × Exc))
  file := "/claim/cut.py"
instance : Has PP d_law_draw := ⟨d_law_draw, by rfl, rfl, rfl, rfl, rfl⟩
instance : Has PP d_law_any := ⟨d_law_any, by rfl, rfl, rfl, rfl, rfl⟩
instance : Has PP d_law_like := ⟨d_law_like, by rfl, rfl, rfl, rfl, rfl⟩
instance : Has PP d_law_some_errors := ⟨d_law_some_errors, by rfl, rfl, rfl, rfl, rfl⟩
instance : Has PP d_law_kinds := ⟨d_law_kinds, by rfl, rfl, rfl, rfl, rfl⟩
instance : Has PP d_law_told := ⟨d_law_told, by rfl, rfl, rfl, rfl, rfl⟩
instance : Has PP d_law_by_name := ⟨d_law_by_name, by rfl, rfl, rfl, rfl, rfl⟩
instance : HasP PP "_law_draw" (d_law_draw).ps := ⟨by rfl⟩
instance : HasP PP "_law_any" (d_law_any).ps := ⟨by rfl⟩
instance : HasP PP "_law_like" (d_law_like).ps := ⟨by rfl⟩
instance : HasP PP "_law_some_errors" (d_law_some_errors).ps := ⟨by rfl⟩
instance : HasP PP "_law_kinds" (d_law_kinds).ps := ⟨by rfl⟩
instance : HasP PP "_law_told" (d_law_told).ps := ⟨by rfl⟩
instance : HasP PP "_law_by_name" (d_law_by_name).ps := ⟨by rfl⟩
end K57

set_option Elab.async false
set_option linter.all false
set_option maxRecDepth 100000
set_option maxHeartbeats 4000000
namespace K57
open PySem PySem.Spec PyProof.Rows L2 TI TI.TL
def top (i : Nat) : Stmt := PySem.Challenge.pw_crosstally_k57_errors_apart.main.body.getD i (.Pass ⟨0, 0, 0, 0⟩)
def cls_body (s : Stmt) : List Stmt := match s with
  | .ClassDef _ _ _ b _ _ _ _ _ _ _ => b
  | _ => []
abbrev sd_law_draw : Stmt := top 32
def ed_law_draw : DefE := ⟨.glo "_law_draw", "_law_draw", "_law_draw", (defArgs sd_law_draw).args, defBody sd_law_draw, defScope sd_law_draw⟩
abbrev sd_law_any : Stmt := top 33
def ed_law_any : DefE := ⟨.glo "_law_any", "_law_any", "_law_any", (defArgs sd_law_any).args, defBody sd_law_any, defScope sd_law_any⟩
abbrev sd_law_like : Stmt := top 34
def ed_law_like : DefE := ⟨.glo "_law_like", "_law_like", "_law_like", (defArgs sd_law_like).args, defBody sd_law_like, defScope sd_law_like⟩
abbrev sd_law_some_errors : Stmt := top 35
def ed_law_some_errors : DefE := ⟨.glo "_law_some_errors", "_law_some_errors", "_law_some_errors", (defArgs sd_law_some_errors).args, defBody sd_law_some_errors, defScope sd_law_some_errors⟩
abbrev sd_law_kinds : Stmt := top 36
def ed_law_kinds : DefE := ⟨.glo "_law_kinds", "_law_kinds", "_law_kinds", (defArgs sd_law_kinds).args, defBody sd_law_kinds, defScope sd_law_kinds⟩
abbrev sd_law_told : Stmt := top 37
def ed_law_told : DefE := ⟨.glo "_law_told", "_law_told", "_law_told", (defArgs sd_law_told).args, defBody sd_law_told, defScope sd_law_told⟩
abbrev sd_law_by_name : Stmt := top 38
def ed_law_by_name : DefE := ⟨.glo "_law_by_name", "_law_by_name", "_law_by_name", (defArgs sd_law_by_name).args, defBody sd_law_by_name, defScope sd_law_by_name⟩
abbrev sLaw : Stmt := top 39
abbrev sCells : Stmt := top 31
def locs0 : List (Str × TI.Loc) := [("_law_draw", .glo "_law_draw"), ("_law_any", .glo "_law_any"), ("_law_like", .glo "_law_like"), ("_law_some_errors", .glo "_law_some_errors"), ("_law_kinds", .glo "_law_kinds"), ("_law_told", .glo "_law_told"), ("_law_by_name", .glo "_law_by_name")]
def locs : List (Str × TI.Loc) := locs0
def loc (k : Str) : TI.Loc := (locs.lookup k).getD (.glo "")
def pairs0 : List (Def × DefE) := [(d_law_draw, ed_law_draw), (d_law_any, ed_law_any), (d_law_like, ed_law_like), (d_law_some_errors, ed_law_some_errors), (d_law_kinds, ed_law_kinds), (d_law_told, ed_law_told), (d_law_by_name, ed_law_by_name)]
def pairs : List (Def × DefE) := pairs0
def loose0 : List PySem.Str := ["TallyError", "InvalidSize", "InvalidState", "InvalidDeed", "InvalidPlace", "InvalidPolynomial", "NotWhole", "SizesDiffer", "InvalidCount", "InvalidProgram", "TooWide", "OpenCounts", "InvalidRecipe", "InvalidWorkshop", "TooSteep", "InvalidModulus", "InvalidRemainders", "TooMany", "InvalidName", "DuplicateName"]
def loose1 : List PySem.Str := ["WrongKind", "CapacityExceeded", "InvalidLimit", "InvalidCommand", "InUse", "ParseError", "Missing", "UnknownName", "NothingLeft", "_law_cells", "_law_draw", "_law_any", "_law_like", "_law_some_errors", "_law_kinds", "_law_told", "_law_by_name"]
def loose : List PySem.Str := loose0 ++ loose1
def lawIx : Nat := 39
theorem pr_d_law_draw : pairB PP loc (d_law_draw, ed_law_draw) = true := by decide +kernel
theorem pr_d_law_any : pairB PP loc (d_law_any, ed_law_any) = true := by decide +kernel
theorem pr_d_law_like : pairB PP loc (d_law_like, ed_law_like) = true := by decide +kernel
theorem pr_d_law_some_errors : pairB PP loc (d_law_some_errors, ed_law_some_errors) = true := by decide +kernel
theorem pr_d_law_kinds : pairB PP loc (d_law_kinds, ed_law_kinds) = true := by decide +kernel
theorem pr_d_law_told : pairB PP loc (d_law_told, ed_law_told) = true := by decide +kernel
theorem pr_d_law_by_name : pairB PP loc (d_law_by_name, ed_law_by_name) = true := by decide +kernel
theorem pairs_ok0 : pairs0.all (pairB PP loc) = true := by
  simp only [pairs0, List.all_cons, List.all_nil, Bool.and_true, Bool.and_eq_true]
  exact ⟨pr_d_law_draw, pr_d_law_any, pr_d_law_like, pr_d_law_some_errors, pr_d_law_kinds, pr_d_law_told, pr_d_law_by_name⟩
theorem pairs_ok : pairs.all (pairB PP loc) = true := by
  simp only [pairs, List.all_append, Bool.and_eq_true]
  exact pairs_ok0
theorem law_ok : mSs PP ⟨lawN, defScope sLaw, wrOf (defScope sLaw)⟩ false lawB ((defBody sLaw).drop 1) = true := by decide +kernel
end K57

set_option Elab.async false
set_option linter.all false
set_option maxRecDepth 100000
set_option maxHeartbeats 0
namespace K57
open PySem PySem.Spec PyProof.Rows L2 TI TI.TL
def eCells : DefE := ⟨.glo "_law_cells", "_law_cells", "_law_cells", (defArgs sCells).args, defBody sCells, defScope sCells⟩
def eLaw : DefE := ⟨.glo "law", "law", "law", (defArgs sLaw).args, defBody sLaw, defScope sLaw⟩
def fn : List DefE := pairs.map (·.2) ++ [eCells, eLaw]
def ex (K : PySem.W.Frag) : Bool := txtB PP [] loc K && gloB K "_law_cells" && gloB K "law"
abbrev R : PySem.W.OpenRow := PySem.W.OpenLaw.row PySem.Challenge.rw_crosstally_k57_errors_apart
abbrev hk : PySem.W.Hook := hookE 7 fn ex
def ob (s : PySem.W.SharedT) : AlE := obsEG 7 fn ex (HandSHeadRun.getT s)
theorem ob_eq (s : PySem.W.SharedT) : ob s = hk.obs s.abs := obsEG_eq (HandSHeadRun.getT_eq s)
theorem run (w : World) : HandSHeadRun.RunEq R (PySem.W.view R.prog [lawIx]) hk ob 9000 loose w := by
  intro os
  kernel_rfl
end K57

set_option Elab.async false
set_option linter.all false
set_option maxRecDepth 100000
set_option maxHeartbeats 4000000
namespace K57
open PySem PySem.Spec PyProof.Rows L2 TI TI.TL
def cellSt (st c : Int) : Int := (st * 44221 + c % 2147483497 + 23) % 2147483587
def seedOf (ns : List Int) : Int := ns.foldl cellSt 5612
def spCells (K : PySem.W.Frag) : Sp := fun vs H Q _ => ∃ (a : Addr) (ns : List Int), vs = [.ref a] ∧ SqL K H a (ns.map V.int) ∧ ns.length ≤ 63 ∧
  ∀ H' β ι, Ex H H' → H β = none → H ι = none → β ≠ ι → H' ι = some (.lst (ns.map V.int)) → H' β = some (.lst [.ref ι, .int 0, .int 0, .int (seedOf ns), .int 0]) → Q (.ref β) H'
theorem scC : FnScope ["_law_script", "_law_state", "_law_cell"] ["_law_script"] (defScope sCells) := ⟨rfl, rfl, rfl, by decide +kernel, rfl, by decide +kernel, by decide +kernel⟩
theorem cellSt_in (st c : Int) : 0 ≤ cellSt st c ∧ cellSt st c < 2147483587 := ⟨Int.emod_nonneg _ (by decide), Int.emod_lt_of_pos _ (by decide)⟩
theorem fold_in : ∀ (ns : List Int) (s : Int), 0 ≤ s ∧ s < 2147483587 → 0 ≤ ns.foldl cellSt s ∧ ns.foldl cellSt s < 2147483587
  | [], _, h => h
  | c :: ns, s, _ => fold_in ns (cellSt s c) (cellSt_in s c)
theorem seed_in (ns : List Int) : 0 ≤ seedOf ns ∧ seedOf ns < 2147483587 := fold_in ns 5612 (by decide)
theorem seed_succ {ns : List Int} {i : Nat} {c : Int} (h : ns[i]? = some c) : seedOf (ns.take (i + 1)) = cellSt (seedOf (ns.take i)) c := by
  unfold seedOf
  rw [List.take_add_one, h, List.foldl_append]
  rfl
theorem cut_all {xs : List V} (h : xs.length ≤ 63) : cutV xs none (some 63) = xs := by
  have e1 : HT.sIx xs.length 0 none = 0 := rfl
  have e2 : HT.sIx xs.length xs.length (some 63) = xs.length := by
    unfold HT.sIx
    simp only
    split <;> omega
  unfold cutV
  rw [e1, e2]
  simp
section
variable {P : Program} {w : World} {K : PySem.W.Frag} {mg : Str → Option Value} {base : Heap} {f : Addr} {fd : FuncData}
theorem ok_cells (F : FunD K "_law_cells" "_law_cells" (plainArgs (defArgs sCells).args) (defBody sCells) (defScope sCells) [] [] f fd) (gI : mg "int" = none) (gL : mg "list" = none) :
    FnOk P w K mg base (L2.CX P w) 1 f fd ["_law_script"] (spCells K) := by
  refine F.ok scC (fun vs H Q E h => ?_) (fun cdv A outer s H vs Q E hr h => ⟨_, pss_cons (ps_set (i := 1) scC.nd rfl (Or.inl rfl) pe_int)
    (pss_cons (ps_for (passes_of rfl) rfl (pi_list (pe_slice sl_list (pv 0) po_none (po_some pe_int))) (pg_name (i := 2) scC.nd rfl (Or.inl rfl))
      (pss_one (ps_set (i := 1) scC.nd rfl (Or.inl rfl) (pe_op op_mod (pe_callTy call_int1 rfl gI boot_int (pa_cons (pe_op op_add (pe_op op_add (pe_op op_mul (pv 1) pe_int)
        (pe_op op_mod (pe_callTy call_int1 rfl gI boot_int (pa_cons (pv 2) pa_nil)) pe_int)) pe_int) pa_nil)) pe_int))))
    (pss_one (ps_ret (pe_lst (pa_cons (pe_callTy call_list_of rfl gL boot_list (pa_cons (pe_slice sl_list (pv 0) po_none (po_some pe_int)) pa_nil))
      (pa_cons pe_int (pa_cons pe_int (pa_cons (pv 1) (pa_cons pe_int pa_nil))))))))), ?_⟩)
  · obtain ⟨a, ns, rfl, _⟩ := h
    rfl
  · obtain ⟨a, ns, rfl, hS, hl, hQ⟩ := h
    have hl2 : (ns.map V.int).length ≤ 63 := by simpa using hl
    refine Evl.q_asg Evl.ev_c fun H1 e1 => ?_
    have hS1 : SqL K H1 a (ns.map V.int) := Evl.ex_l e1 hS
    refine Evl.q_forNLn (xs := ns.map V.int) (H := H1) (fun H2 e2 Q2 q2 => ?_) (fun p i σ' H' => (∃ z, σ' = [some (.ref a), some (.int (seedOf (ns.take i))), z]) ∧ Evl.Ex H H' ∧ H' p = some (.lst (ns.map V.int)))
      (fun p H2 hp e2 h2 => ⟨⟨_, rfl⟩, e1.trans e2, h2⟩) (fun p i σ' H' _ z => .inl (.inl z.2.2)) (fun p i x σ' H' hx z => ?_) (fun p σ' H' z => ?_)
    · have r := Evl.el_sl (σ := [some (V.ref a), some (V.int 5612), none]) (H := H1) (te := tVar 0) (lo := none) (hi := some 63) (Evl.ev_var rfl) Evl.eo_none (Evl.eo_some Evl.ev_c) hS1
      rw [cut_all hl2] at r
      exact r H2 e2 Q2 q2
    · obtain ⟨⟨z0, rfl⟩, ex, hp⟩ := z
      rw [List.getElem?_map] at hx
      cases hc : ns[i]? with
      | none =>
        rw [hc] at hx
        cases hx
      | some c =>
        rw [hc] at hx
        cases hx
        have b := seed_in (ns.take i)
        refine ⟨_, rfl, _, _, rfl, rfl, Or.inl ⟨by omega, by omega⟩, _, rfl, Or.inl ⟨c, rfl, _, _, rfl, rfl, (by decide : (0 : Int) < 2147483497), _, _, rfl, rfl, _, _, rfl, rfl, Or.inl ⟨_, rfl, _, _, rfl, rfl, (by decide : (0 : Int) < 2147483587), ⟨some (V.int c), ?_⟩, ex, hp⟩⟩⟩
        rw [seed_succ hc]
        rfl
    · obtain ⟨⟨z0, rfl⟩, ex, hp⟩ := z
      rw [List.length_map, List.take_length]
      have hS2 : SqL K H' a (ns.map V.int) := Evl.ex_l ex hS
      refine ⟨_, rfl, 63, rfl, a, ns.map V.int, rfl, hS2, fun p1 h1 => ?_⟩
      rw [cut_all hl2]
      refine ⟨p1, ns.map V.int, rfl, Or.inl (Or.inl (Or.inl upd_same)), fun l h2 => ⟨_, rfl, (by decide : 5 ≤ sizeLine), fun p h3 => ?_⟩⟩
      have n1 : l ≠ p1 := fun z => by
        rw [z, upd_same] at h2
        cases h2
      rw [upd_ne n1] at h2
      have n2 : p ≠ l := fun z => by
        rw [z, upd_same] at h3
        cases h3
      rw [upd_ne n2] at h3
      have n3 : p ≠ p1 := fun z => by
        rw [z, upd_same] at h3
        cases h3
      rw [upd_ne n3] at h3
      have fr : ∀ q, H' q = none → H q = none := fun q hq => by
        cases e : H q with
        | none => rfl
        | some o =>
          rw [ex q o e] at hq
          cases hq
      refine hQ _ p l (fun q o e => ?_) (fr p h3) (fr l h2) n2 ?_ upd_same
      · have e2 := ex q o e
        have m1 : q ≠ p := fun z => by rw [z, h3] at e2; cases e2
        have m2 : q ≠ l := fun z => by rw [z, h2] at e2; cases e2
        have m3 : q ≠ p1 := fun z => by rw [z, h1] at e2; cases e2
        rw [upd_ne m1, upd_ne m2, upd_ne m3]
        exact e2
      · rw [upd_ne (Ne.symm n2)]
        exact upd_same
end
end K57

set_option Elab.async false
set_option linter.all false
set_option maxRecDepth 100000
set_option maxHeartbeats 4000000
namespace K57
open PySem PySem.Spec PyProof.Rows L2 TI TI.TL
def bag0 (ns : List Int) : Bag := ⟨ns, 0, 0, seedOf ns, 0⟩
def lawE : TI.Env := none :: some .bag :: List.replicate (lawN.length - 2) none
/-- the law's body holds, told of the compact form -/
def LawHolds (n W : Nat) : Prop := ∀ ns : List Int, ns.length ≤ 63 → ∃ fl b', exSs PP (callP PP W noP n) W lawB lawE (bag0 ns) = some (.rt (.bl true) fl, b')
def spLaw (K : PySem.W.Frag) : Sp := fun vs H Q _ => ∃ (a : Addr) (ns : List Int), vs = [.ref a] ∧ SqL K H a (ns.map V.int) ∧ ns.length ≤ 63 ∧ ∀ H', Q (.bl true) H'
theorem scL : FnScope lawN ["_law_script"] (defScope sLaw) := ⟨rfl, rfl, rfl, by decide +kernel, rfl, by decide +kernel, by decide +kernel⟩
theorem pss_ex {X : Cx} {sts : List Stmt} {ι : Type} {t : ι → TS} (h : ∀ i, PSs X sts (t i)) : PSs X sts (fun D σ H => ∃ i, t i D σ H) :=
  ⟨fun pins s σ H D I ⟨i, q⟩ => (h i).run pins s σ H D I q⟩
theorem hn : ∀ c, PP.at c "" = none := by
  intro c
  cases e : PP.at c "" with
  | none => rfl
  | some q =>
    have m := lookup_in e
    have k : PP.att.all (fun z => !decide (z.1.2 = "")) = true := by decide +kernel
    have := List.all_eq_true.mp k _ m
    cases this
/-- the program, if own errors are made -/
def PrOk (P : Program) : Prop := PP.exs = [] ∨ (PP.file = P.main.file ∧ (P.main.scope.names.lookup ("super" : Str)).isSome = false)
section
variable {P : Program} {w : World} {K : PySem.W.Frag} {mg : Str → Option Value} {h : Heap} {base : Heap}
def Txs (K : PySem.W.Frag) : Type := { t : Tx // t.K = K ∧ t.ca = He.ga K }
theorem txt_k (hP : PrOk P) (X : K.In h) (G : h.Ns mainGlobals mg) (c : obsE fn ex K = valE fn) {tx : Tx} (e1 : tx.K = K) (e2 : tx.ca = He.ga K) : Txt tx P w mg base PP noP 0 (fun key => locAd K (loc key)) :=
  txt_of X G e1 e2 c (fun q => (and2 (and2 q).1).1) pairs rfl (fun q hq => List.mem_append_left _ (List.mem_map_of_mem hq)) pairs_ok hn hP (prims := []) (fun key hk => by cases hk) (fun _ _ => rfl) (fun key f e => by cases e)
theorem fac_k (hP : PrOk P) (X : K.In h) (G : h.Ns mainGlobals mg) (c : obsE fn ex K = valE fn) (n W : Nat) {tx : Tx} (e1 : tx.K = K) (e2 : tx.ca = He.ga K) : FacAll tx P w tx.K mg base PP (0 + 3 * n) (callP PP W noP n) := by
  have T : Txt tx P w mg base PP noP 0 (fun key => locAd K (loc key)) := txt_k hP X G c e1 e2
  exact txt_fac T (txt_all T n).1 (txt_all T n).2
theorem ok_law {f fc : Addr} {fd fdc : FuncData} (hP : PrOk P) (X : K.In h) (G : h.Ns mainGlobals mg) (c : obsE fn ex K = valE fn) (n W : Nat) (math : LawHolds n W)
    (F : FunD K "law" "law" (plainArgs (defArgs sLaw).args) (defBody sLaw) (defScope sLaw) [] [] f fd)
    (FC : FunD K "_law_cells" "_law_cells" (plainArgs (defArgs sCells).args) (defBody sCells) (defScope sCells) [] [] fc fdc) (gc : mg "_law_cells" = some (.ref fc)) :
    FnOk P w K mg base (L2.CX P w) (0 + 3 * n + 3) f fd ["_law_script"] (spLaw K) := by
  have T0 : Txt ⟨K, He.ga K, 0, 0⟩ P w mg base PP noP 0 (fun key => locAd K (loc key)) := txt_k hP X G c rfl rfl
  have GC : FnOk P w K mg base (L2.CX P w) 1 fc fdc ["_law_script"] (spCells K) := ok_cells FC (T0.nb _ (by decide)) (T0.nb _ (by decide))
  have bC : L2.Binds K fdc ["_law_script"] [] := FC.bindsN fun _ _ _ _ _ _ us hl => match us, hl with | [_], _ => rfl
  refine F.ok scL (fun vs H Q E h => ?_) (fun cdv A outer s H vs Q E hr h => ⟨_, pss_cons (ps_set (i := 1) scL.nd rfl (Or.inl rfl)
    (pe_call GC (hr.mono (by omega)) rfl gc FC.kp bC .nil passL (pa_cons (pv 0) pa_nil)))
    (pss_ex (ι := Txs K) fun tx => sSs (tx := tx.1) hn W (S := ⟨lawN, defScope sLaw, wrOf (defScope sLaw)⟩) ?_ ?_ (fac_k (base := base) (P := P) (w := w) hP X G c n W tx.2.1 tx.2.2 _ rfl rfl tx.2.1.symm rfl rfl hr) lawB _ law_ok), ?_⟩)
  · obtain ⟨a, ns, rfl, _⟩ := h
    rfl
  · exact inCx_def scL
  · exact passes_of rfl
  · obtain ⟨a, ns, rfl, hS, hl, hQ⟩ := h
    obtain ⟨fl, b', e⟩ := math ns hl
    refine ⟨_, rfl, a, ns, rfl, hS, hl, fun H' β ι ex hβ hι ne h1 h2 => ?_⟩
    refine ⟨⟨⟨K, He.ga K, β, ι⟩, rfl, rfl⟩, [β], H', none, [], lawE, bag0 ns, .rt (.bl true) fl, b', ?_, fun z => absurd rfl z, e, fun u H2 F q => ?_⟩
    · refine ⟨List.nodup_nil, fun a z => (by cases z), List.mem_singleton.mpr rfl, fun a z => ?_, ?_, ExB.refl _, ?_, ⟨h2, Ne.symm ne, h1⟩, fun v z => by cases z⟩
      · rw [List.mem_singleton.mp z, h2]
        intro z2
        cases z2
      · show H' ι ≠ none
        rw [h1]
        intro z2
        cases z2
      · exact ⟨_, _, rfl, _, _, [], [], rfl, ⟨rfl, rfl⟩, ⟨_, _, rfl, _, _, rfl, _, _, rfl, _, _, rfl, _, _, rfl, _, _, rfl, _, _, rfl, _, _, rfl, _, _, rfl, rfl, rfl⟩, rfl⟩
    · obtain ⟨v, vs', F1, F2, e1, ⟨rv, _⟩, ⟨r2, _⟩, _⟩ := q.rep
      subst rv
      subst r2
      cases e1
      exact hQ _
end
end K57

set_option Elab.async false
set_option linter.all false
set_option maxRecDepth 100000
set_option maxHeartbeats 0
namespace TI
open PySem PySem.Spec PyProof.Rows L2
/-- the end of a law, the exception context at the world -/
theorem walk_ofW {l : PySem.W.OpenLaw} {n k : Nat} {q : Program} {loose : List Str} {XP : (Str → Option Value) → Heap → Prop} {YP : World → Heap → Prop} {d : DefRec} {CX : World → CXT} {x : Str}
    (hn : l.most = some n) (hn2 : n ≤ sizeLine) (hdf : d.params.defaults = []) (hr : Room k callerA)
    (F : ∀ (w : World) (mg : Str → Option Value) (fa : Addr) (h : Heap), YP w h → h.Ns mainGlobals mg → mg d.name = some (.ref fa) →
      ∃ (K : PySem.W.Frag) (fd : FuncData) (sp : Sp), K.In h ∧ (∀ (s : Shared) (u : Value), BindsTo s fd ⟨[u], []⟩ [(x, u)]) ∧
        (∀ (H : Hp) (a : Addr) (ns : List Int), ns.length ≤ n → Only H → SqL K H a (ns.map V.int) → sp [.ref a] H (fun v _ => v = .bl true) fun _ _ _ => False) ∧
        ∀ base : Heap, K.In base → base.Ns mainGlobals mg → FnOk l.prog w K mg base (CX w) k fa fd [x] sp)
    (hCX : ∀ (w : World) (H : Hp) (s : Shared) (e : Value) (s' : Shared), CX w [] H s (fun _ _ _ => False) e s' → False) :
    PySem.W.WalkO q loose XP YP l.row.toRowW d [] (fun f vs => PySem.call f vs) := by
  refine Att.attach_call hn hdf fun w s₀ s₁ mg mb fa o pm cd doc a vs ns G Y ho hd hcd hmg hobj hints hlen hg => ?_
  obtain ⟨K, fd, sp, KX, hb, hsp, hF⟩ := F w mg fa _ Y G.T.g hmg
  exact law_call KX G.T.g G.T.b G.T.builtins G.T.nolimit hg hobj hints (Nat.le_trans hlen hn2) hr hF hb (fun H hO hS => hsp H a ns hlen hO hS) fun H e s' => hCX w H s₁ e s'
end TI
namespace K57
open PySem PySem.Spec PyProof.Rows L2 TI TI.TL
theorem facts {P : Program} {w : World} {K : PySem.W.Frag} {h : Heap} {mg : Str → Option Value} {f : Addr} (hP : PrOk P) (X : K.In h) (G : h.Ns mainGlobals mg) (hfa : mg ("law" : Str) = some (.ref f)) (c : obsE fn ex K = valE fn) {n W : Nat} (math : LawHolds n W) :
    ∃ fd : FuncData, (∀ (s : Shared) (v : Value), BindsTo s fd ⟨[v], []⟩ [("_law_script", v)]) ∧ ∀ base : Heap, K.In base → base.Ns mainGlobals mg → FnOk P w K mg base (L2.CX P w) (0 + 3 * n + 3) f fd ["_law_script"] (spLaw K) := by
  have t := says_ex c
  obtain ⟨t1, gl⟩ := and2 t
  obtain ⟨t0, gc⟩ := and2 t1
  obtain ⟨fd, F⟩ := says_def c (d := eLaw) (List.mem_append_right _ (.tail _ (.head _)))
  obtain ⟨fdc, FC⟩ := says_def c (d := eCells) (List.mem_append_right _ (.head _))
  have e := hfa.symm.trans (gloB_ok X G gl)
  cases e
  have b := FunD.bindsA (ps := ["_law_script"]) F fun _ _ _ _ _ _ us hl => match us, hl with | [_], _ => rfl
  exact ⟨fd, fun s v => b s [v] rfl, fun base _ _ => ok_law hP X G c n W math F FC (gloB_ok X G gc)⟩
end K57
open PySem PySem.W PySem.Calls PyProof.Rows
theorem k57_holds (math : K57.LawHolds 12 9) : PySem.Challenge.rw_crosstally_k57_errors_apart.Holds := by
  w_on; o_law
  refine HandSHeadRun.head_any (r := OpenLaw.row PySem.Challenge.rw_crosstally_k57_errors_apart) (q := view (OpenLaw.row PySem.Challenge.rw_crosstally_k57_errors_apart).prog [K57.lawIx]) (H := K57.hk) (ob := K57.ob) (M := 9000) (loose := K57.loose) (d := HandSHeadRun.topDef (OpenLaw.row PySem.Challenge.rw_crosstally_k57_errors_apart).prog K57.lawIx) (kwd := []) K57.ob_eq
    (by kernel_rfl) (fun s => by kernel_rfl) K57.run (by kernel_rfl) (by kernel_rfl) (by kernel_rfl) (by rfl) (by first | assumption | decide +kernel) (by decide +kernel) ⟨rfl, rfl, rfl, rfl, rfl, by decide +kernel⟩ ?hw ?hc
  case hw => w_witness2
  case hc =>
    refine TI.walk_ofW (l := PySem.Challenge.rw_crosstally_k57_errors_apart) (n := 63) (k := 0 + 3 * 12 + 3) (x := "_law_script") (CX := fun w => L2.CX (PySem.Challenge.rw_crosstally_k57_errors_apart).prog w) rfl (by decide) (by kernel_rfl) ⟨rfl, by decide, by decide⟩ ?F ?C
    case F =>
      intro w mg fa h Y G hmg0
      obtain ⟨K, KX, c⟩ := Y
      have hmg : mg ("law" : PySem.Str) = some (.ref fa) := by
        have e : (HandSHeadRun.topDef (OpenLaw.row PySem.Challenge.rw_crosstally_k57_errors_apart).prog K57.lawIx).name = ("law" : PySem.Str) := by kernel_rfl
        rw [← e]
        exact hmg0
      obtain ⟨fd, hb, hF⟩ := K57.facts (P := (PySem.Challenge.rw_crosstally_k57_errors_apart).prog) (w := w) (by first | exact .inl rfl | exact .inr ⟨by kernel_rfl, by kernel_rfl⟩) KX G hmg c math
      exact ⟨K, fd, K57.spLaw K, KX, hb, fun H a ns hl _ hS => ⟨a, ns, rfl, hS, hl, fun _ => rfl⟩, hF⟩
    case C =>
      intro w H s e s' h
      obtain ⟨_, _, _, _, _, _, _, _, _, _, _, _, z⟩ := h
      exact z

set_option Elab.async false
set_option linter.all false
set_option maxRecDepth 100000
set_option maxHeartbeats 4000000
namespace TI.TL
open PySem PySem.Spec PyProof.Rows L2 K57
def okR : Fw → M Unit
  | .rt (.bl true) _ => ret ()
  | _ => fail
theorem dr_okR {m : M Fw} (h : bnd m okR = ret ()) : Dr 0 m fun r => ∃ fl, r = .rt (.bl true) fl := by
  intro N b hN hb
  have e := congrFun h b
  obtain ⟨a, b', e1, e2⟩ := bnd_some (show bnd m okR b = some ((), b) from e)
  cases a with
  | rt v fl =>
    cases v with
    | bl k =>
      cases k with
      | true => cases e2; exact ⟨_, _, e1, hb, fl, rfl⟩
      | false => cases e2
    | _ => cases e2
  | _ => cases e2
def things : List D := [.non, .int 3, .str "b", .tup .sh [.int 1, .int 2], .lst .sh [.int 4], .bl true, .int (-7)]
def tailS : Nat → ISs → ISs
  | 0, ss => ss
  | n + 1, .cons _ ss => tailS n ss
  | _, ss => ss
def nm1 : List D := [.str "InvalidSize", .str "InvalidPlace", .str "InvalidCount", .str "InvalidProgram", .str "TooWide", .str "OpenCounts"]
def nm2 : List D := nm1 ++ [.str "InvalidRecipe", .str "TooSteep", .str "InvalidModulus", .str "TooMany", .str "InvalidName", .str "DuplicateName"]
def nm3 : List D := nm2 ++ [.str "WrongKind", .str "CapacityExceeded", .str "InvalidLimit", .str "InvalidCommand", .str "InUse", .str "ParseError"]
def nm4 : List D := nm3 ++ [.str "InvalidState", .str "InvalidDeed", .str "InvalidPolynomial", .str "NotWhole", .str "SizesDiffer"]
def nm5 : List D := nm4 ++ [.str "InvalidWorkshop", .str "InvalidRemainders"]
theorem rest_ok57 (d : D) (h : d ∈ things) : bnd (exSs PP (callP PP 9 noP 12) 9 (tailS 6 lawB) [none, some .bag, some (.lst .own nm5), some d, none, none, none, none, none, none, none]) okR = ret () := by
  simp only [things, List.mem_cons, List.not_mem_nil, or_false] at h
  rcases h with rfl | rfl | rfl | rfl | rfl | rfl | rfl
  · funext b; kernel_rfl
  · funext b; kernel_rfl
  · funext b; kernel_rfl
  · funext b; kernel_rfl
  · funext b; kernel_rfl
  · funext b; kernel_rfl
  · funext b; kernel_rfl
theorem law_dr57 : Dr 2000 (exSs PP (callP PP 9 noP 12) 9 lawB (none :: some .bag :: List.replicate (lawN.length - 2) none)) (fun r => ∃ fl, r = .rt (.bl true) fl) := by
  have hS : sizeLine = 2 ^ 24 := rfl
  have hl : (none :: some .bag :: List.replicate (lawN.length - 2) none : Env) = [none, some .bag, none, none, none, none, none, none, none, none, none] := rfl
  rw [hl]
  have hR := rest_ok57
  simp only [lawB, tailS] at hR ⊢
  refine dr_p (env' := [none, some .bag, some (.lst .own nm1), none, none, none, none, none, none, none, none]) (by funext b; kernel_rfl) ?_
  refine dr_p (env' := [none, some .bag, some (.lst .own nm2), none, none, none, none, none, none, none, none]) (by funext b; kernel_rfl) ?_
  refine dr_p (env' := [none, some .bag, some (.lst .own nm3), none, none, none, none, none, none, none, none]) (by funext b; kernel_rfl) ?_
  refine dr_p (env' := [none, some .bag, some (.lst .own nm4), none, none, none, none, none, none, none, none]) (by funext b; kernel_rfl) ?_
  refine dr_p (env' := [none, some .bag, some (.lst .own nm5), none, none, none, none, none, none, none, none]) (by funext b; kernel_rfl) ?_
  refine dr_le (dr_s (c := 1) (d := 0) (I := fun env => ∃ d ∈ things, env = [none, some .bag, some (.lst .own nm5), some d, none, none, none, none, none, none, none]) ?_ fun env h => ?_) (by decide)
  · simp only [v_var, v_int, v_str, v_bl, v_non, v_bin, v_neg, v_not, v_bop, v_ife, v_cmp, v_cmp2, v_call, v_scall_s, v_meth, v_methk, v_attr, v_blt, v_isi, v_lst, v_tup, v_idx, v_sl, p_no, p_part, v_lc, v_lcif, v_lc2, i_seq, i_range1, i_range2, i_zip, i_enum, evs_nil, evs_cons, t_not, t_bop, t_ife, t_var, t_bl, t_cmp, t_cmp2, t_call, t_scall, t_meth, t_methk, t_attr, t_blt, t_isi, t_lc, t_idx, t_bin, bopT_and_t, bopT_and_f, bopT_or_t, bopT_or_f, bopM_and_t, bopM_and_f, bopM_or_t, bopM_or_f, tru_bl, tru_int, tru_lst, tru_tup, neg_int, part_int, add_int, sub_int, lt_int, le_int, gt_int, ge_int, eq_int, ne_int, eq_bl, ne_bl, cmpI_lt, cmpI_le, len_lst, len_tup, int_int, int_bl, list_lst, list_tup, tuple_lst, sum_ints, all_bls, any_bls, app_key, s_nil, s_cons, nx_nx, nx_rt, nx_bk, nx_ct, s_asg, s_unp, s_par, s_fld, s_app, s_bset, s_expr, s_ret, s_retN, s_ifs, s_for, s_while, s_pass, s_brk, s_cont, res_rt, res_nx, self_nx, ret_bnd, fail_bnd, bnd_assoc, seq_bnd, opt_s, opt_n, gV_0, gV_s, glo_c, fls_nil, fls_cons, hass_nil, hass_cons, fl_int, fl_bl, fl_str, fl_non, fl_bag, fl_lst, fl_tup, fl_ins, has_int, has_bl, has_str, has_non, has_bag, has_lst, has_tup, has_ins, fz_own, fz_sh, fz_brw, bw_own, bw_sh, bw_brw, ub_own, ub_sh, ub_brw, so_own, so_sh, so_brw, tt_own, tt_sh, tt_brw, keep_f, keeps_f, keep_t, keeps_t, attr_prop, attr_fld, meth_m, methk_m, mul_m, add_m, sub_m, eq_m, ne_m, tru_m, bool_m, fl_rowL, fl_rowT, has_rowL, has_rowT, fl_tabL, fl_tabT, has_tabLt, has_tabTt, hb_L_sh, hb_L_own, hb_T_sh, hb_T_own, ite_self, fls_ints, hass_ints, fls_im, hass_im, fls_rowL, fls_rowT, List.set_cons_zero, List.set_cons_succ, wipeE, setsE, tgE, ITg.ix, giveE, IE.vars, IEs.vars, reduceCtorEq, decide_false, decide_true, Bool.or_false, Bool.false_or, Bool.or_true, Bool.true_or, Bool.and_true, Bool.true_and, Bool.and_false, Bool.false_and, Bool.not_true, Bool.not_false, if_true, if_false, ite_true, ite_false, Bool.false_eq_true, ne_eq, not_false_eq_true, not_true_eq_false, List.cons_append, List.nil_append, List.append_nil, List.mem_cons, List.not_mem_nil, or_false, false_or, or_true, true_or, Nat.reduceEqDiff, Nat.reduceAdd, eq_self, and_self, and_true, true_and, Option.map_some, Option.map_none, List.getElem?_cons_zero, List.getElem?_cons_succ, seq_ret, List.length_cons, List.length_nil, show 0 + 1 ≤ sizeLine by omega, show 0 + 1 + 1 ≤ sizeLine by omega, show 0 + 1 + 1 + 1 + 1 + 1 + 1 + 1 ≤ sizeLine by omega]
    refine dr_le (dr_bnd (c := 1) (d := 0) (any_ok (n := 10) (ds := things) (fun d hd => ?_) (by decide) (by decide)) fun d hd => ?_) (by decide)
    · simp only [things, List.mem_cons, List.not_mem_nil, or_false] at hd
      rcases hd with rfl | rfl | rfl | rfl | rfl | rfl | rfl <;> rfl
    · refine dr_nx ⟨d, hd, ?_⟩
      simp only [things, List.mem_cons, List.not_mem_nil, or_false] at hd
      rcases hd with rfl | rfl | rfl | rfl | rfl | rfl | rfl <;> rfl
  · obtain ⟨d, hd, rfl⟩ := h
    exact dr_okR (hR d hd)
theorem law_holds (b : Bag) (hb : BOk 0 b) : ∃ fl b', exSs PP (callP PP 9 noP 12) 9 lawB (none :: some .bag :: List.replicate (lawN.length - 2) none) b = some (.rt (.bl true) fl, b') := by
  obtain ⟨a, b', e, _, fl, rfl⟩ := law_dr57 0 b (by decide) hb
  exact ⟨fl, b', e⟩
end TI.TL

set_option Elab.async false
set_option maxRecDepth 100000 in
set_option maxHeartbeats 0 in
theorem PySem.Challenge.cw_crosstally_k57_errors_apart_holds : PySem.Challenge.rw_crosstally_k57_errors_apart.Holds := by
  exact k57_holds fun ns _ => TI.TL.law_holds (K57.bag0 ns) ⟨Int.le_refl 0, K57.seed_in ns, Int.le_refl 0, Int.le_refl 0⟩
