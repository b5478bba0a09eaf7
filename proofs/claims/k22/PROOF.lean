import PyProof.Rows.All
import Wide.All
import OpenK.AllK
import Wide.FinOn
import HandS.ForMost
import HandS.Evl
import HandS.Zip
import HandS.TupAny
import HandS.Wide
import HandS.IsInst
import HandS.Steps
import HandS.Flow
import KE.GoesMore
import KE.GoesZip
import KE.GoesEnum
import PySem.Challenge.RW_cutyard_k22_whole_verdicts_read
set_option Elab.async false
set_option linter.all false
set_option maxRecDepth 100000
set_option maxHeartbeats 4000000
/-! DR: rules over HandS: a list or a tuple walked, zip and enumerate of either, xs[i] op= e, sums of rules. -/
namespace Dr
open PySem PySem.Spec PyProof.Rows L2

/-! ### a list (true) or a tuple (false) -/
def SqK (K : PySem.W.Frag) (k : Bool) (H : Hp) (a : Addr) (xs : List V) : Prop := match k with
  | true => SqL K H a xs
  | false => SqT K H a xs
def HsK (k : Bool) (h : Heap) (a : Addr) (items : Array Value) : Prop := match k with
  | true => h.IsList a items
  | false => h.IsTuple a items
def ItK (k : Bool) (h : Heap) (it a : Addr) (i : Nat) : Prop := match k with
  | true => h.IsListIter it a i
  | false => h.IsTupleIter it a i
def itObj (k : Bool) (a : Addr) : Obj := match k with
  | true => { cls := .type "list_iterator", data := .fields #[.ref a, .int 0 0] }
  | false => { cls := .type "tuple_iterator", data := .fields #[.ref a, .int 0 0] }
theorem HsK.lt {k : Bool} {h : Heap} {a : Addr} {items : Array Value} (x : HsK k h a items) : a < h.objs.size := by
  cases k with
  | true => obtain ⟨o, e, _⟩ := x; exact Heap.lt_size e
  | false => obtain ⟨o, e, _⟩ := x; exact Heap.lt_size e
theorem ItK.lt {k : Bool} {h : Heap} {it a : Addr} {i : Nat} (x : ItK k h it a i) : it < h.objs.size := by
  cases k with
  | true => obtain ⟨o, e, _⟩ := x; exact Heap.lt_size e
  | false => obtain ⟨o, e, _⟩ := x; exact Heap.lt_size e
theorem ItK.obj {k : Bool} {h : Heap} {it a : Addr} {i : Nat} (x : ItK k h it a i) : ∃ o, h.get? it = some o ∧ ∀ v, o.data ≠ .cell v := by
  cases k with
  | true =>
    obtain ⟨o, e, _, d⟩ := x
    exact ⟨o, e, fun v q => by rw [d] at q; cases q⟩
  | false =>
    obtain ⟨o, e, _, d⟩ := x
    exact ⟨o, e, fun v q => by rw [d] at q; cases q⟩
theorem ItK.at {k : Bool} {h h' : Heap} {it a : Addr} {i : Nat} (x : ItK k h it a i) (e : ∀ o, h.get? it = some o → h'.get? it = some o) : ItK k h' it a i := by
  cases k with
  | true => exact Heap.IsListIter.at x e
  | false => exact Heap.IsTupleIter.at x e
theorem ItK.new {k : Bool} {h : Heap} {it a : Addr} (x : h.get? it = some (itObj k a)) : ItK k h it a 0 := by
  cases k with
  | true => exact ⟨_, x, rfl, rfl⟩
  | false => exact ⟨_, x, rfl, rfl⟩
theorem seq_ne_it {k k' : Bool} {h : Heap} {it a b : Addr} {i : Nat} {items : Array Value} (x : ItK k h it a i) (y : HsK k' h b items) : b ≠ it := by
  intro q
  subst q
  have t : ∀ {m n : String}, m ≠ n → ∀ {o o' : Obj}, h.get? b = some o → o.cls = .type m → h.get? b = some o' → o'.cls = .type n → False := by
    intro m n ne o o' e1 c1 e2 c2
    rw [e1] at e2
    cases e2
    rw [c1] at c2
    injection c2 with z
    exact ne z
  cases k <;> cases k' <;> (obtain ⟨o, e, c, _⟩ := x; obtain ⟨o', e', c', _⟩ := y; exact t (by decide) e c e' c')
theorem draws_k {prog : Program} {w : World} {A : Around} (hh : A.handled = none) (k : Bool) (it a : Addr) (hne : a ≠ it) (items : Array Value) :
    Draws prog w A it [it, a] items.size (fun i v => items[i]? = some v) (fun i h => ItK k h it a i ∧ HsK k h a items) := by
  cases k with
  | true => exact Draws.list hh it a hne items
  | false => exact Draws.tuple hh it a hne items
theorem begins_k (k : Bool) (a : Addr) (items : Array Value) : Begins (.ref a) (itObj k a) fun h => HsK k h a items := by
  cases k with
  | true => exact begins_list a items
  | false => exact begins_tuple a items
section
variable {X : Cx} {pins : List (Addr × Obj)} {σ : L2.St} {H : Hp} {s : Shared}
theorem inv_seq {k : Bool} {a : Addr} {xs : List V} (I : Inv X pins σ H s) (h : SqK X.K k H a xs) : ∃ its : List Value, Vals xs its ∧ HsK k s.heap a its.toArray ∧ xs.length ≤ sizeLine := by
  cases k with
  | true =>
    obtain ⟨its, r, p, z⟩ := I.list h
    exact ⟨its, r, p.isList, z⟩
  | false =>
    obtain ⟨its, r, p, z⟩ := I.tuple h
    exact ⟨its, r, p, z⟩
theorem inv_seq_inj {k : Bool} {a : Addr} {xs ys : List V} (I : Inv X pins σ H s) (h : SqK X.K k H a xs) (h' : SqK X.K k H a ys) : xs = ys := by
  cases k with
  | true => exact I.list_inj h h'
  | false => exact I.tuple_inj h h'
end

/-! ### for x in a list or a tuple -/
def Its1 (K : PySem.W.Frag) (k : Bool) (a : Addr) : It := match k with
  | true => Itl K a
  | false => Itt K a
def iSeq (K : PySem.W.Frag) (tl : TE) : TI := fun σ H R => tl σ H fun x H1 => ∃ (a : Addr) (k : Bool) (xs : List V), x = .ref a ∧ SqK K k H1 a xs ∧ R (Its1 K k a) H1
theorem pi_seq {X : Cx} {tg l : Expr} {tl : TE} (hl : PE X l tl) : PI X tg l (iSeq X.K tl) := by
  refine ⟨fun pins s σ H R I h => ?_⟩
  refine thn (hl.run pins s σ H _ I h) fun v s1 ⟨x, H1, I1, r1, q1⟩ => ?_
  obtain ⟨a, k, xs, ex, hq, q⟩ := q1
  subst ex
  cases r1
  have fp : ∀ b, b ∈ [s1.heap.objs.size] → FpOk X pins H1 b := fun b hb => by
    have eb : b = s1.heap.objs.size := by simpa using hb
    subst eb
    exact I1.fpOk (Nat.le_refl _) (I1.hok.fresh (Nat.le_refl _))
  cases k with
  | true =>
    obtain ⟨its, rv, p, _⟩ := I1.list hq
    refine wpAny_pyIter_list p.isList ?_
    exact ⟨_, [s1.heap.objs.size], _, _, H1, rfl, I1.kept (t' := s1.toks) fun b o e => Heap.get?_push_of_some _ e, turn_list a _, ⟨_, Heap.get?_push_size _ rfl, rfl, rfl⟩, fp, q⟩
  | false =>
    obtain ⟨its, rv, p, _⟩ := I1.tuple hq
    refine wpAny_pyIter_tuple (show s1.heap.IsTuple a its.toArray from p) ?_
    exact ⟨_, [s1.heap.objs.size], _, _, H1, rfl, I1.kept (t' := s1.toks) fun b o e => Heap.get?_push_of_some _ e, turn_tuple a _, ⟨_, Heap.get?_push_size _ rfl, rfl, rfl⟩, fp, q⟩

/-! ### for a, b in zip(x, y), each a list or a tuple -/
def ItzK (K : PySem.W.Frag) (k k' : Bool) (a b : Addr) : It :=
  ⟨fun i H => ∃ (xs ys : List V) (x y : V), SqK K k H a xs ∧ SqK K k' H b ys ∧ xs[i]? = some x ∧ ys[i]? = some y,
    fun i H v H' => ∃ T x y, v = .ref T ∧ H T = none ∧ H' = upd H T (.tup [x, y]) ∧ (∀ xs, SqK K k H a xs → xs[i]? = some x) ∧ ∀ ys, SqK K k' H b ys → ys[i]? = some y,
    fun i H => ∃ xs ys : List V, SqK K k H a xs ∧ SqK K k' H b ys ∧ i ≤ xs.length ∧ i ≤ ys.length ∧ (i = xs.length ∨ i = ys.length)⟩
theorem turn_zipK {P : Program} {w : World} {K : PySem.W.Frag} {elts : List Expr} {kk : Nat} {tpos : Pos} (k k' : Bool) {a b z TI TO i1 i2 : Addr} (S : ZipSep2 z TI TO i1 i2 [i1, a] [i2, b]) :
    Turn P w K (.Tuple elts kk tpos) (ItzK K k k' a b) [z, TI, TO, i1, i2] z (fun i h => IsZip h z TI TO .none ∧ IsTupOf2 h TI (.ref i1) (.ref i2) ∧ (∃ x y, IsTupOf2 h TO x y) ∧ ItK k h i1 a i ∧ ItK k' h i2 b i) where
  mem := by simp
  obj := fun i h st c hc => by
    obtain ⟨hz, hTI, ⟨x, y, hTO⟩, h1, h2⟩ := st
    have e' : c = z ∨ c = TI ∨ c = TO ∨ c = i1 ∨ c = i2 := by simpa using hc
    rcases e' with q | q | q | q | q
    · subst q; exact ⟨_, hz, fun v q => nomatch q⟩
    · subst q; exact ⟨_, hTI, fun v q => nomatch q⟩
    · subst q; exact ⟨_, hTO, fun v q => nomatch q⟩
    · subst q; exact h1.obj
    · subst q; exact h2.obj
  keep := fun i h h' st kp => by
    obtain ⟨hz, hTI, ⟨x, y, hTO⟩, h1, h2⟩ := st
    exact ⟨kp z (by simp) _ hz, kp TI (by simp) _ hTI, ⟨x, y, kp TO (by simp) _ hTO⟩, h1.at fun o q => kp i1 (by simp) o q, h2.at fun o q => kp i2 (by simp) o q⟩
  item := by
    intro X hP hw hK hc i pins s σ H E I hf st hg
    subst hP hw hK
    obtain ⟨hz, hTI, ⟨x0, y0, hTO⟩, h1, h2⟩ := st
    obtain ⟨xs, ys, x, y, hqx, hqy, hx, hy⟩ := hg
    obtain ⟨its, rv, p, _⟩ := inv_seq I hqx
    obtain ⟨its2, rv2, p2, _⟩ := inv_seq I hqy
    have hh : X.A.in1.handled = none := I.ok.hd hc
    have ne1 : a ≠ i1 := seq_ne_it h1 p
    have ne2 : b ≠ i2 := seq_ne_it h2 p2
    obtain ⟨u, hu, ru⟩ := rv.get hx
    obtain ⟨u2, hu2, ru2⟩ := rv2.get hy
    have hu' : its.toArray[i]? = some u := by simpa using hu
    have hu2' : its2.toArray[i]? = some u2 := by simpa using hu2
    have lt1 : i < its.toArray.size := by simpa using (List.getElem?_eq_some_iff.mp hu).1
    have lt2 : i < its2.toArray.size := by simpa using (List.getElem?_eq_some_iff.mp hu2).1
    have hzl : z < s.heap.objs.size := Heap.lt_size hz
    refine wpAny_pyNext_zipD2_item S (draws_k hh k i1 a ne1 its.toArray) (draws_k hh k' i2 b ne2 its2.toArray) hz hTI hTO ⟨h1, p⟩ ⟨h2, p2⟩ lt1 lt2 fun x1 x2 h' tk y1 y2 z' TO' st1 st2 hT hsz hk => ?_
    have ex1 : x1 = u := Option.some.inj (y1.symm.trans hu')
    have ex2 : x2 = u2 := Option.some.inj (y2.symm.trans hu2')
    subst ex1 ex2
    refine ⟨_, rfl, wpAny_letOwnedTupleGo_zip (s := { s with heap := h', toks := tk }) z' fun h'' z'' sb => ?_⟩
    have hT2 : h''.get? s.heap.objs.size = some { cls := .type "tuple", data := .seq #[x1, x2] } := (sb.2 _ (Nat.ne_of_gt hzl)).trans hT
    have new : ObjOk X.prog X.w (upd H s.heap.objs.size (.tup [x, y])) h'' s.heap.objs.size (.tup [x, y]) :=
      ⟨by show 2 ≤ sizeLine; decide, [x1, x2], .cons ru (.cons ru2 .nil), ⟨_, hT2, rfl, _, rfl⟩⟩
    have I1 : Inv X pins σ (upd H s.heap.objs.size (.tup [x, y])) { s with heap := h'', toks := tk } :=
      I.turnedNew (ch := [z, TI, TO, i1, i2]) (fun c o hb q => (sb.2 c (fun q' => hb (by simp [q']))).trans (hk c o (fun q' => hb (by simp [q'])) (fun q' => hb (by simp [q'])) (fun q' => hb (by simp [q'])) (fun q' => hb (by simp [q'])) q)) hf (Nat.le_refl _) new
    refine ⟨.ref s.heap.objs.size, _, I1, rfl, ⟨_, x, y, rfl, I.hok.fresh (Nat.le_refl _), rfl, fun l hl => by rw [inv_seq_inj I hl hqx]; exact hx, fun l hl => by rw [inv_seq_inj I hl hqy]; exact hy⟩, ⟨z'', ?_, ⟨x1, x2, ?_⟩, ?_, ?_⟩, fun c hcm => ?_⟩
    · exact (sb.2 _ S.TIz).trans (hk _ _ S.TIz S.TITO S.TIi1 S.TIi2 hTI)
    · exact (sb.2 _ S.TOz).trans TO'
    · exact st1.1.at fun o q => (sb.2 _ S.zi1.symm).trans q
    · exact st2.1.at fun o q => (sb.2 _ S.zi2.symm).trans q
    · have hlt : c < s.heap.objs.size := by
        have e' : c = z ∨ c = TI ∨ c = TO ∨ c = i1 ∨ c = i2 := by simpa using hcm
        rcases e' with q | q | q | q | q
        · subst q; exact hzl
        · subst q; exact Heap.lt_size hTI
        · subst q; exact Heap.lt_size hTO
        · subst q; exact h1.lt
        · subst q; exact h2.lt
      rw [upd_ne (Nat.ne_of_lt hlt)]
      exact (hf c hcm).1
  done := by
    intro X hP hw hK hc i pins s σ H E I hf st hg
    subst hP hw hK
    obtain ⟨hz, hTI, ⟨x0, y0, hTO⟩, h1, h2⟩ := st
    obtain ⟨xs, ys, hqx, hqy, hl1, hl2, hend⟩ := hg
    obtain ⟨its, rv, p, _⟩ := inv_seq I hqx
    obtain ⟨its2, rv2, p2, _⟩ := inv_seq I hqy
    have hh : X.A.in1.handled = none := I.ok.hd hc
    have ne1 : a ≠ i1 := seq_ne_it h1 p
    have ne2 : b ≠ i2 := seq_ne_it h2 p2
    have l1 := rv.length
    have l2 := rv2.length
    have s1 : its.toArray.size = xs.length := by rw [List.size_toArray]; exact l1.symm
    have s2 : its2.toArray.size = ys.length := by rw [List.size_toArray]; exact l2.symm
    exact wpAny_pyNext_zipD2_end S (draws_k hh k i1 a ne1 its.toArray) (draws_k hh k' i2 b ne2 its2.toArray) hz hTI hTO ⟨h1, p⟩ ⟨h2, p2⟩ (by omega) (by omega) (by omega) fun h' tk hk =>
      ⟨rfl, I.turnedL (t' := tk) (ch := [z, TI, TO, i1, i2]) (fun c o hb q => hk c o (fun q' => hb (by simp [q'])) (fun q' => hb (by simp [q'])) (fun q' => hb (by simp [q'])) (fun q' => hb (by simp [q'])) q) hf⟩
  self := fun A i s Q E st h => wpAny_pyIter_zip st.1 h

def iZipK (K : PySem.W.Frag) (ta : TA) : TI := fun σ H R => ta σ H fun vs H1 => ∃ (a b : Addr) (k k' : Bool) (xs ys : List V), vs = [.ref a, .ref b] ∧ SqK K k H1 a xs ∧ SqK K k' H1 b ys ∧ R (ItzK K k k' a b) H1
theorem pi_zipK {X : Cx} {e e2 : Expr} {ta : TA} {p pos tpos : Pos} {elts : List Expr} {kk : Nat} (hg : Gl X "zip") (hm : X.mg "zip" = none) (ha : PA X [e, e2] ta)
    (hs : starEach [e, e2] X.env = (false, eval e X.env) :: starEach [e2] X.env := by rfl) (hpl : (backTo pos (starEach [e2] X.env)).any (·.1) = false := by rfl) :
    PI X (.Tuple elts kk tpos) (.Call (.Name "zip" p) [e, e2] [] pos) (iZipK X.K ta) := by
  refine ⟨fun pins s σ H R I h => ?_⟩
  refine Call_ (ld_blt I hg hm PyProof.Rows.boot_zip (PyProof.Rows.callWith_type1 (thn (ha.run pos pins s σ H _ I h) fun us s1 ⟨vs, H1, I1, r1, q1⟩ => ?_) hs hpl))
  obtain ⟨a, b, k, k', xs, ys, ex, hqx, hqy, q⟩ := q1
  subst ex
  cases r1 with
  | cons r rr =>
    cases rr with
    | cons r' rr =>
      cases rr
      cases r
      cases r'
      obtain ⟨its, rv, p1, _⟩ := inv_seq I1 hqx
      obtain ⟨its2, rv2, p2, _⟩ := inv_seq I1 hqy
      have la := p1.lt
      have lb := p2.lt
      refine zip_begins2 (begins_k k a its.toArray) (begins_k k' b its2.toArray) p1 p2 fun h' hz hTI hTO h1 h2 hsz hk => wpAny_pyIter_zip hz ?_
      have S := zip_sep2 (N := s1.heap.objs.size) (fp1 := [a]) (fp2 := [b]) (fun c hc => by rw [List.mem_singleton.mp hc]; exact la) (fun c hc => by rw [List.mem_singleton.mp hc]; exact lb)
      refine ⟨s1.heap.objs.size + 4, [s1.heap.objs.size + 4, s1.heap.objs.size + 2, s1.heap.objs.size + 3, s1.heap.objs.size, s1.heap.objs.size + 1], _, _, H1, rfl, I1.kept (t' := s1.toks) hk, turn_zipK k k' S, ⟨hz, hTI, ⟨_, _, hTO⟩, ItK.new h1, ItK.new h2⟩, fun c hcm => ?_, q⟩
      have e' : c = s1.heap.objs.size + 4 ∨ c = s1.heap.objs.size + 2 ∨ c = s1.heap.objs.size + 3 ∨ c = s1.heap.objs.size ∨ c = s1.heap.objs.size + 1 := by simpa using hcm
      have hle : s1.heap.objs.size ≤ c := by
        rcases e' with q | q | q | q | q <;> (subst q; first | exact Nat.le_refl _ | exact Nat.le_add_right _ _)
      exact I1.fpOk hle (I1.hok.fresh hle)

/-! ### for i, x in enumerate(x), x a list or a tuple -/
set_option maxHeartbeats 4000000 in
theorem meets_enum1 {v : Value} {o : Obj} {H : Heap → Prop} (B : Begins v o H) :
    Meets (Builtin.«enumerate.__new__» ⟨[.type "enumerate", v], []⟩) (fun _ R s => H s.heap ∧
      R (.ok (.ret (.ref (s.heap.push o).objs.size))) { s with heap := (s.heap.push o).push { cls := .type "enumerate", data := .fields #[.none, .bool false, .ref s.heap.objs.size, rawInt 0, .none, .none] } }) :=
  .of_wp fun prog w A R s h => by
    obtain ⟨hp, g, d, tk, os⟩ := s
    obtain ⟨b1, h⟩ := h
    have hsub := sub_enumerate
    have begin1 : ∀ {A' : Around} {E : Value → Shared → Prop} {Q : Value → Shared → Prop}, Q (.ref hp.objs.size) ⟨hp.push o, g, d, tk, os⟩ → wpAny (model prog w) A' (pyIter v) Q E ⟨hp, g, d, tk, os⟩ :=
      fun q => B.iter prog w _ _ ⟨hp, g, d, tk, os⟩ _ b1 q
    wp_walk using begin1
    refine wpAny_stack_any fun st => wpAny_pure ?_
    split
    · rename_i c _ _ _ _ _
      cases (c == Value.type "enumerate") <;> (wp_walk using begin1; exact ⟨_, rfl, h⟩)
    · wp_walk using begin1
      exact ⟨_, rfl, h⟩
theorem enum_begins1 {prog : Program} {w : World} {A : Around} {E : Value → Shared → Prop} {s : Shared} {v : Value} {o : Obj} {H : Heap → Prop} {Q : Value → Shared → Prop} (B : Begins v o H) (b1 : H s.heap)
    (h : ∀ h', IsEnum h' (s.heap.objs.size + 1) s.heap.objs.size 0 .none → h'.get? s.heap.objs.size = some o → h'.objs.size = s.heap.objs.size + 2 →
      (∀ b u, s.heap.get? b = some u → h'.get? b = some u) → Q (.ref (s.heap.objs.size + 1)) { s with heap := h' }) :
    wpAny (model prog w) A (call (.type "enumerate") [v]) Q E s := by
  refine callType_new F.called_enumerate (by decide) (F.typeCall_enumerate_1 _) (F.newCall_enumerate_1 _) (fun ob => F.args_object_init_2 ob _) F.entry_enumerate_new (meets_enum1 B) ⟨b1, ?_⟩
  have sz : (s.heap.push o).objs.size = s.heap.objs.size + 1 := Heap.size_push ..
  show _ ∧ _
  rw [sz]
  have he : IsEnum ((s.heap.push o).push { cls := .type "enumerate", data := .fields #[.none, .bool false, .ref s.heap.objs.size, rawInt 0, .none, .none] }) (s.heap.objs.size + 1) s.heap.objs.size 0 .none := by
    have g := Heap.get?_push_size (s.heap.push o) (o := { cls := .type "enumerate", data := .fields #[.none, .bool false, .ref s.heap.objs.size, rawInt 0, .none, .none] }) rfl
    rw [sz] at g
    exact g
  exact ⟨⟨_, he, rfl⟩, h _ he (Heap.get?_push_of_some _ (Heap.get?_push_size _ B.free)) (by rw [Heap.size_push, sz]) fun b u x => Heap.get?_push_of_some _ (Heap.get?_push_of_some _ x)⟩
def IteK (K : PySem.W.Frag) (k : Bool) (a : Addr) : It :=
  ⟨fun i H => ∃ (xs : List V) (x : V), SqK K k H a xs ∧ xs[i]? = some x, fun i H v H' => ∃ T x, v = .ref T ∧ H T = none ∧ H' = upd H T (.tup [.int (i : Nat), x]) ∧ ∀ xs, SqK K k H a xs → xs[i]? = some x,
    fun i H => ∃ xs : List V, SqK K k H a xs ∧ i = xs.length⟩
theorem turn_enumK {P : Program} {w : World} {K : PySem.W.Frag} {elts : List Expr} {kk : Nat} {tpos : Pos} (k : Bool) (a e it : Addr) (hne : e ≠ it) (hea : e ≠ a) (hia : a ≠ it) :
    Turn P w K (.Tuple elts kk tpos) (IteK K k a) [e, it] e (fun i h => (∃ old, IsEnum h e it ((i : Nat) : Int) old) ∧ ItK k h it a i) where
  mem := by simp
  obj := fun i h st b hb => by
    obtain ⟨⟨old, he⟩, hi⟩ := st
    have e' : b = e ∨ b = it := by simpa using hb
    rcases e' with z | z
    · subst z; exact ⟨_, he, fun v q => nomatch q⟩
    · subst z; exact hi.obj
  keep := fun i h h' st kp => let ⟨⟨old, he⟩, hi⟩ := st; ⟨⟨old, kp e (by simp) _ he⟩, hi.at fun o q => kp it (by simp) o q⟩
  item := by
    intro X hP hw hK hc i pins s σ H E I hf st hg
    subst hP hw hK
    obtain ⟨⟨old, he⟩, hit⟩ := st
    obtain ⟨xs, x, hq, hx⟩ := hg
    obtain ⟨its, rv, p, _⟩ := inv_seq I hq
    have hh : X.A.in1.handled = none := I.ok.hd hc
    obtain ⟨u, hu, ru⟩ := rv.get hx
    have hu' : its.toArray[i]? = some u := by simpa using hu
    have lt1 : i < its.toArray.size := by simpa using (List.getElem?_eq_some_iff.mp hu).1
    have hel : e < s.heap.objs.size := Heap.lt_size he
    have hil := hit.lt
    refine wpAny_pyNext_enum_itemC (draws_k hh k it a hia its.toArray) he ⟨hit, p⟩ lt1 hne (by simp [hne, hea]) fun y h' tk hy ho st' hT hsz hk => ?_
    have ey : y = u := Option.some.inj (hy.symm.trans hu')
    subst ey
    refine ⟨_, rfl, wpAny_letOwnedTupleGo_enum (s := { s with heap := h', toks := tk + 1 }) ho fun h'' he' sb => ?_⟩
    have hT2 : h''.get? s.heap.objs.size = some { cls := .type "tuple", data := .seq #[.int i tk, y] } := (sb.2 _ (Nat.ne_of_gt hel)).trans hT
    have new : ObjOk X.prog X.w (upd H s.heap.objs.size (.tup [.int (i : Nat), x])) h'' s.heap.objs.size (.tup [.int (i : Nat), x]) :=
      ⟨by show 2 ≤ sizeLine; decide, [.int i tk, y], .cons ⟨_, rfl⟩ (.cons ru .nil), ⟨_, hT2, rfl, _, rfl⟩⟩
    have I1 : Inv X pins σ (upd H s.heap.objs.size (.tup [.int (i : Nat), x])) { s with heap := h'', toks := tk + 1 } :=
      I.turnedNew (ch := [e, it]) (fun b ob hb q => (sb.2 b (fun z => hb (by simp [z]))).trans (hk b ob (fun z => hb (by simp [z])) (fun z => hb (by simp [z])) q)) hf (Nat.le_refl _) new
    refine ⟨.ref s.heap.objs.size, _, I1, rfl, ⟨_, x, rfl, I.hok.fresh (Nat.le_refl _), rfl, fun ys hy => by rw [inv_seq_inj I hy hq]; exact hx⟩, ⟨⟨y, ?_⟩, st'.1.at fun o q => (sb.2 it (Ne.symm hne)).trans q⟩, fun b hb => ?_⟩
    · have e1 : ((i + 1 : Nat) : Int) = (i : Int) + 1 := by omega
      rw [e1]
      exact he'
    · have hb' : b < s.heap.objs.size := by
        have e' : b = e ∨ b = it := by simpa using hb
        rcases e' with z | z
        · subst z; exact hel
        · subst z; exact hil
      rw [upd_ne (Nat.ne_of_lt hb')]
      exact (hf b hb).1
  done := by
    intro X hP hw hK hc i pins s σ H E I hf st hg
    subst hP hw hK
    obtain ⟨⟨old, he⟩, hit⟩ := st
    obtain ⟨xs, hq, hx⟩ := hg
    obtain ⟨its, rv, p, _⟩ := inv_seq I hq
    have hh : X.A.in1.handled = none := I.ok.hd hc
    have l1 : i = its.toArray.size := by rw [List.size_toArray, hx]; exact rv.length
    subst l1
    obtain ⟨f0, f1, f2, f3, f4, f5⟩ := hf it (by simp)
    exact wpAny_pyNext_enum_endD (draws_k hh k it a hia its.toArray) he ⟨hit, p⟩ fun h' eb => ⟨rfl, I.turned (t' := s.toks) (fun b o hb q => eb b o hb q) f0 f1 f3 f4 f5⟩
  self := fun A i s Q E st h => let ⟨⟨_, he⟩, _⟩ := st; wpAny_pyIter_enum he h
def iEnumK (K : PySem.W.Frag) (ta : TA) : TI := fun σ H R => ta σ H fun vs H1 => ∃ (a : Addr) (k : Bool) (xs : List V), vs = [.ref a] ∧ SqK K k H1 a xs ∧ R (IteK K k a) H1
theorem pi_enumK {X : Cx} {e : Expr} {ta : TA} {p pos tpos : Pos} {elts : List Expr} {kk : Nat} (hg : Gl X "enumerate") (hm : X.mg "enumerate" = none) (ha : PA X [e] ta) (hs : starEach [e] X.env = [(false, eval e X.env)] := by rfl) :
    PI X (.Tuple elts kk tpos) (.Call (.Name "enumerate" p) [e] [] pos) (iEnumK X.K ta) := by
  refine ⟨fun pins s σ H R I h => ?_⟩
  refine Call_ (ld_blt I hg hm boot_enumerate (PyProof.Rows.callWith_type1 (thn (ha.run pos pins s σ H _ I h) fun us s1 ⟨vs, H1, I1, r1, q1⟩ => ?_) hs rfl))
  obtain ⟨a, k, xs, ex, hq, q⟩ := q1
  subst ex
  cases r1 with
  | cons r rr =>
    cases rr
    cases r
    obtain ⟨its, rv, p', _⟩ := inv_seq I1 hq
    have la := p'.lt
    refine enum_begins1 (begins_k k a its.toArray) p' fun h' he hit hsz hk => wpAny_pyIter_enum he ?_
    refine ⟨s1.heap.objs.size + 1, [s1.heap.objs.size + 1, s1.heap.objs.size], _, _, H1, rfl, I1.kept (t' := s1.toks) hk,
      turn_enumK k a (s1.heap.objs.size + 1) s1.heap.objs.size (Nat.succ_ne_self _) (Nat.ne_of_gt (Nat.lt_succ_of_lt la)) (Nat.ne_of_lt la), ⟨⟨.none, he⟩, ItK.new hit⟩, fun b hb => ?_, q⟩
    have e' : b = s1.heap.objs.size + 1 ∨ b = s1.heap.objs.size := by simpa using hb
    have hle : s1.heap.objs.size ≤ b := by
      rcases e' with z | z <;> (subst z; first | exact Nat.le_refl _ | exact Nat.le_add_right _ _)
    exact I1.fpOk hle (I1.hok.fresh hle)

/-! ### xs[i] op= e, sums of rules -/
section
variable {X : Cx}
def rAddA (K : PySem.W.Frag) : R2 := fun x y H Q => (∃ i j, x = .int i ∧ y = .int j ∧ Q (.int (i + j)) H) ∨ rCat x y H Q ∨ rCatA K x y H Q
theorem op_addA : OpR X (binaryOp .Add) (rAddA X.K) := OpR.or op_add (OpR.or op_cat op_catA)
def rMulA : R2 := fun x y H Q => rI CMul (fun i j => .int (i * j)) x y H Q ∨ rRep x y H Q
theorem op_mulA : OpR X (binaryOp .Mult) rMulA := OpR.or op_mul op_rep
def rSlA2 (K : PySem.W.Frag) : V → Option Int → Option Int → Hp → VK → Prop := fun x lo hi H Q => rSlL K x lo hi H Q ∨ rSlA K x lo hi H Q
theorem sl_any : SlR X (rSlA2 X.K) := SlR.or sl_list sl_tupA
end
def gIxK (K : PySem.W.Frag) : V → V → Hp → VK → Prop := fun o i H Q => ∃ (p : Addr) (xs : List V) (j : Nat) (v : V), o = .ref p ∧ i = .int (j : Int) ∧ SqL K H p xs ∧ xs[j]? = some v ∧ Q v H
theorem get_list {X : Cx} : PGet X (gIxK X.K) := by
  intro pins s σ H o i ov iv Q I r1 r2 h
  obtain ⟨p, xs, j, v, rfl, rfl, hq, hv, q⟩ := h
  cases r1
  obtain ⟨t, rfl⟩ := r2
  obtain ⟨its, r, pl, hz⟩ := I.list hq
  obtain ⟨u, hu, ru⟩ := r.get hv
  have hl := line63
  have hlen := r.length
  have hj := (List.getElem?_eq_some_iff.mp hu).1
  have hz' : sizeLine = 16777216 := sizeLine_eq
  exact wpAny_getItem_list pl.isList (Int.natCast_nonneg _) (by omega) (by simpa using hu) ⟨v, H, I, ru, q⟩
/-- a test that is a value's truth -/
def tTr (K : PySem.W.Frag) (ta : TE) : TT := fun σ H Q => ta σ H fun x H' => ∃ k, TruV K x H' k ∧ Q k H'
theorem pt_tr {X : Cx} {a : Expr} {ta : TE} (ha : PE X a ta) (he : ∀ whole, isTrue a X.env whole = (do let v ← whole; standAt a.pos; holding [v] (truthy v)) := by intro _; rfl) : PT X a (tTr X.K ta) := pt_truth ha he

/-! ### the rules with K as it stands in the def (a comprehension's block bears another context) -/
section
variable (K : PySem.W.Frag) {X : Cx}
theorem ix_k (h : X.K = K := by rfl) : IxR X (rIx K) := by
  subst h
  exact ix_seq
theorem add_k (h : X.K = K := by rfl) : OpR X (binaryOp .Add) (rAddA K) := by
  subst h
  exact op_addA
theorem sl_k (h : X.K = K := by rfl) : SlR X (rSlA2 K) := by
  subst h
  exact sl_any
theorem len_k (h : X.K = K := by rfl) : CallR X (.builtin "len") (Evl.rLenS K) := by
  subst h
  exact call_len_seq
theorem list_k (h : X.K = K := by rfl) : CallR X (.type "list") (Evl.rListS K) := by
  subst h
  exact call_list_of
def rTupS (K : PySem.W.Frag) : List V → Hp → VK → Prop := fun xs H Q => ∃ p ys, xs = [.ref p] ∧ ((SqL K H p ys ∧ ∀ l, H l = none → Q (.ref l) (upd H l (.tup ys))) ∨ (SqT K H p ys ∧ Q (.ref p) H))
theorem tuple_k (h : X.K = K := by rfl) : CallR X (.type "tuple") (rTupS K) := by
  subst h
  exact call_tuple_of
theorem sum_k (h : X.K = K := by rfl) (hc : X.calm = true := by rfl) : CallR X (.builtin "sum") (rSum K) := by
  subst h
  exact cr_sum hc
theorem any_k (h : X.K = K := by rfl) (hc : X.calm = true := by rfl) : CallR X (.builtin "any") (rAny K) := by
  subst h
  exact cr_any hc
theorem all_k (h : X.K = K := by rfl) (hc : X.calm = true := by rfl) : CallR X (.builtin "all") (rAll K) := by
  subst h
  exact cr_all hc
theorem isi_k (h : X.K = K := by rfl) : CallR X (.builtin "isinstance") (rIsi K) := by
  subst h
  exact call_isi
theorem tup_k {es : List Expr} {k : Nat} {t : TGs} {n : Nat} {pos : Pos} (h : PGs X es t) (hK : X.K = K := by rfl) (hc : X.calm = true := by rfl)
    (hn : (assignEach es X.env).length = n := by rfl) (hst : (assignEach es X.env).findIdx? (·.1) = none := by rfl) : PG X (.Tuple es k pos) (gTup K n t) := by
  subst hK
  exact pg_tup hc h hn hst
theorem seq_k {tg l : Expr} {tl : TE} (hl : PE X l tl) (h : X.K = K := by rfl) : PI X tg l (iSeq K tl) := by
  subst h
  exact pi_seq hl
theorem tr_k {a : Expr} {ta : TE} (ha : PE X a ta) (h : X.K = K := by rfl) (he : ∀ whole, isTrue a X.env whole = (do let v ← whole; standAt a.pos; holding [v] (truthy v)) := by intro _; rfl) : PT X a (tTr K ta) := by
  subst h
  exact pt_tr ha he
theorem zip_k {e e2 : Expr} {ta : TA} {p pos tpos : Pos} {elts : List Expr} {kk : Nat} (hg : Gl X "zip") (hm : X.mg "zip" = none) (ha : PA X [e, e2] ta) (h : X.K = K := by rfl)
    (hs : starEach [e, e2] X.env = (false, eval e X.env) :: starEach [e2] X.env := by rfl) (hpl : (backTo pos (starEach [e2] X.env)).any (·.1) = false := by rfl) : PI X (.Tuple elts kk tpos) (.Call (.Name "zip" p) [e, e2] [] pos) (iZipK K ta) := by
  subst h
  exact pi_zipK hg hm ha hs hpl
theorem enum_k {e : Expr} {ta : TA} {p pos tpos : Pos} {elts : List Expr} {kk : Nat} (hg : Gl X "enumerate") (hm : X.mg "enumerate" = none) (ha : PA X [e] ta) (h : X.K = K := by rfl) (hs : starEach [e] X.env = [(false, eval e X.env)] := by rfl) :
    PI X (.Tuple elts kk tpos) (.Call (.Name "enumerate" p) [e] [] pos) (iEnumK K ta) := by
  subst h
  exact pi_enumK hg hm ha hs
theorem app_k {o e : Expr} {to te : TE} {apos cpos : Pos} (ho : PE X o to) (he : PE X e te) (h : X.K = K := by rfl)
    (hbase : attributeBase o "append" X.env (eval o X.env) = eval o X.env := by rfl)
    (hfew : ((backTo cpos (starEach [e] X.env)).all (fun x => !x.1) && (backToKw cpos (keywordEach [] X.env)).all (fun x => x.1.isSome)
      && decide ([e].length + ([] : List Keyword).length + (if ([] : List Keyword).isEmpty then 0 else 1) < 30)) = true := by rfl)
    (hline : (apos.endLine == cpos.line) = true := by rfl) (hs : starEach [e] X.env = (false, eval e X.env) :: starEach [] X.env := by rfl) (hplain : (backTo cpos (starEach [] X.env)).any (·.1) = false := by rfl) :
    PE X (.Call (.Attribute o "append" apos) [e] [] cpos) (tBM K "list" rAppend to (tCons te tNil)) := by
  subst h
  exact pe_bm PySem.F.plainAttrs_list PySem.F.slot_list_append PySem.F.type_list_append mt_append ho (pa_cons he pa_nil hs) hbase hfew hline hs hplain
theorem pop_k {o : Expr} {to : TE} {apos cpos : Pos} (ho : PE X o to) (h : X.K = K := by rfl) (hbase : attributeBase o "pop" X.env (eval o X.env) = eval o X.env := by rfl) (hline : (apos.endLine == cpos.line) = true := by rfl) :
    PE X (.Call (.Attribute o "pop" apos) [] [] cpos) (tBM0 K "list" rPop to) := by
  subst h
  exact pe_bm0 PySem.F.plainAttrs_list PySem.F.slot_list_pop PySem.F.type_list_pop mt_pop ho hbase hline
theorem get_k (h : X.K = K := by rfl) : PGet X (gIxK K) := by
  subst h
  exact get_list
def rAbs : List V → Hp → VK → Prop := fun xs H Q => ∃ i, xs = [.int i] ∧ Q (.int (if i < 0 then -i else i)) H
theorem abs_k : CallR X (.builtin "abs") rAbs := call_abs
def rMax2 : List V → Hp → VK → Prop := fun xs H Q => ∃ i j, xs = [.int i, .int j] ∧ Q (.int (if j > i then j else i)) H
theorem max_k (hc : X.calm = true := by rfl) : CallR X (.builtin "max") rMax2 := call_max2 hc
def rMin2 : List V → Hp → VK → Prop := fun xs H Q => ∃ i j, xs = [.int i, .int j] ∧ Q (.int (if j < i then j else i)) H
theorem min_k (hc : X.calm = true := by rfl) : CallR X (.builtin "min") rMin2 := call_min2 hc
def rInt1 : List V → Hp → VK → Prop := fun xs H Q => (∃ i, xs = [.int i] ∧ Q (.int i) H) ∨ ∃ k, xs = [.bl k] ∧ Q (.int (if k then 1 else 0)) H
theorem int_k : CallR X (.type "int") rInt1 := call_int1
end

/-! ### the defs of the text, by their promises -/
structure Def (P : Program) (w : World) (K : PySem.W.Frag) (mg : Str → Option Value) (base : Heap) (k : Nat) (x : Str) (ps : List Str) (sp : Sp) : Prop where
  ex : ∃ (f : Addr) (fd : FuncData), FnOk P w K mg base CX0 k f fd ps sp ∧ mg x = some (.ref f) ∧ PySem.W.keepIn K (.ref f) = true ∧ Binds K fd ps []
theorem pe_def {X : Cx} {j k : Nat} {x : Str} {ps : List Str} {sp : Sp} {e : Expr} {es : List Expr} {t : TA} {p pos : Pos} (F : Def X.prog X.w X.K X.mg X.base j x ps sp) (hr : Room k X.A) (hg : Gl X x) (ha : PA X (e :: es) t) (hj : j ≤ k := by decide)
    (hd : (x == ("__debug__" : Str)) = false := by decide) (hs : starEach (e :: es) X.env = (false, eval e X.env) :: starEach es X.env := by rfl) (hpl : (backTo pos (starEach es X.env)).any (·.1) = false := by rfl) :
    PE X (.Call (.Name x p) (e :: es) [] pos) (tCall sp [] E0 t) := by
  obtain ⟨f, fd, G, hm, hk, hb⟩ := F.ex
  exact pe_call G (hr.mono hj) hg hm hk hb .nil pass0 ha hd hs hpl

/-- which built-ins the text's names leave alone -/
structure Tx (mg : Str → Option Value) : Prop where
  len : mg "len" = none
  zip : mg "zip" = none
  range : mg "range" = none
  enumerate : mg "enumerate" = none
  tuple : mg "tuple" = none
  list : mg "list" = none
  any : mg "any" = none
  all : mg "all" = none
  max : mg "max" = none
  min : mg "min" = none
  abs : mg "abs" = none
  sum : mg "sum" = none
  int : mg "int" = none
  isinstance : mg "isinstance" = none
  bool : mg "bool" = none
theorem bt_len : bootBuiltins "len" = some (.builtin "len") := by decide +kernel
theorem bt_any : bootBuiltins "any" = some (.builtin "any") := by decide +kernel
theorem bt_all : bootBuiltins "all" = some (.builtin "all") := by decide +kernel
theorem bt_max : bootBuiltins "max" = some (.builtin "max") := by decide +kernel
theorem bt_min : bootBuiltins "min" = some (.builtin "min") := by decide +kernel
theorem bt_abs : bootBuiltins "abs" = some (.builtin "abs") := by decide +kernel
theorem bt_sum : bootBuiltins "sum" = some (.builtin "sum") := by decide +kernel
theorem bt_isinstance : bootBuiltins "isinstance" = some (.builtin "isinstance") := by decide +kernel
theorem bt_tuple : bootBuiltins "tuple" = some (.type "tuple") := by decide +kernel
theorem bt_list : bootBuiltins "list" = some (.type "list") := by decide +kernel
theorem bt_int : bootBuiltins "int" = some (.type "int") := by decide +kernel
theorem bt_bool : bootBuiltins "bool" = some (.type "bool") := by decide +kernel
end Dr
/-! DL: a layer over HandS where a def's proof speaks of data alone. -/
namespace Dl
open PySem L2 Dr Evl

/-! ### data and what stands for it -/
inductive Dt where
  | non | bl (b : Bool) | int (i : Int) | str (s : Str) | tup (ds : List Dt) | lst (ds : List Dt) | scr (ns : List Int)
mutual
def IsD (K : PySem.W.Frag) (F : Hp) : Dt → V → Prop
  | .non, v => v = .non
  | .bl b, v => v = .bl b
  | .int i, v => v = .int i
  | .str s, v => v = .str s
  | .tup ds, v => ∃ a xs, v = .ref a ∧ F a = some (.tup xs) ∧ IsDs K F ds xs
  | .lst ds, v => ∃ a xs, v = .ref a ∧ F a = some (.lst xs) ∧ IsDs K F ds xs
  | .scr ns, v => ∃ a, v = .ref a ∧ SqL K F a (ns.map V.int)
def IsDs (K : PySem.W.Frag) (F : Hp) : List Dt → List V → Prop
  | [], xs => xs = []
  | d :: ds, xs => ∃ y ys, xs = y :: ys ∧ IsD K F d y ∧ IsDs K F ds ys
end
mutual
/-- nothing in it is a list -/
def Dt.imm : Dt → Bool
  | .tup ds => immL ds
  | .lst _ => false
  | .scr _ => false
  | _ => true
def immL : List Dt → Bool
  | [] => true
  | d :: ds => d.imm && immL ds
end
section
variable {K : PySem.W.Frag} {F F' H H' : Hp}
mutual
theorem IsD.mono (e : Ex F F') : ∀ {d : Dt} {v : V}, IsD K F d v → IsD K F' d v
  | .non, _, h => h
  | .bl _, _, h => h
  | .int _, _, h => h
  | .str _, _, h => h
  | .tup _, _, h => let ⟨a, xs, e1, e2, e3⟩ := h; ⟨a, xs, e1, e _ _ e2, IsDs.mono e e3⟩
  | .lst _, _, h => let ⟨a, xs, e1, e2, e3⟩ := h; ⟨a, xs, e1, e _ _ e2, IsDs.mono e e3⟩
  | .scr _, _, h => let ⟨a, e1, e2⟩ := h; ⟨a, e1, ex_l e e2⟩
theorem IsDs.mono (e : Ex F F') : ∀ {ds : List Dt} {xs : List V}, IsDs K F ds xs → IsDs K F' ds xs
  | [], _, h => h
  | _ :: _, _, h => let ⟨y, ys, e1, e2, e3⟩ := h; ⟨y, ys, e1, IsD.mono e e2, IsDs.mono e e3⟩
end
/-- F without p -/
def del (F : Hp) (p : Addr) : Hp := fun a => if a = p then none else F a
theorem del_ne {p a : Addr} (h : a ≠ p) : del F p a = F a := if_neg h
theorem del_same {p : Addr} : del F p p = none := if_pos rfl
mutual
theorem IsD.del {p : Addr} (hp : ∀ xs, F p ≠ some (.tup xs)) : ∀ {d : Dt} {v : V}, d.imm = true → IsD K F d v → IsD K (del F p) d v
  | .non, _, _, h => h
  | .bl _, _, _, h => h
  | .int _, _, _, h => h
  | .str _, _, _, h => h
  | .tup _, _, i, h => let ⟨a, xs, e1, e2, e3⟩ := h; ⟨a, xs, e1, (del_ne (fun q => hp xs (by rw [← q]; exact e2))).trans e2, IsDs.del hp i e3⟩
  | .lst _, _, i, _ => nomatch i
  | .scr _, _, i, _ => nomatch i
theorem IsDs.del {p : Addr} (hp : ∀ xs, F p ≠ some (.tup xs)) : ∀ {ds : List Dt} {xs : List V}, immL ds = true → IsDs K F ds xs → IsDs K (del F p) ds xs
  | [], _, _, h => h
  | d :: ds, _, i, h => let ⟨y, ys, e1, e2, e3⟩ := h
    have i' : d.imm = true ∧ immL ds = true := by simpa using (show (d.imm && immL ds) = true from i)
    ⟨y, ys, e1, IsD.del hp i'.1 e2, IsDs.del hp i'.2 e3⟩
end
theorem IsDs.length : ∀ {ds : List Dt} {xs : List V}, IsDs K F ds xs → ds.length = xs.length
  | [], xs, h => by cases (show xs = [] from h); rfl
  | _ :: _, _, h => by
    obtain ⟨y, ys, rfl, _, e3⟩ := h
    simp [IsDs.length e3]
theorem IsDs.get : ∀ {ds : List Dt} {xs : List V} {i : Nat} {d : Dt}, IsDs K F ds xs → ds[i]? = some d → ∃ x, xs[i]? = some x ∧ IsD K F d x
  | [], _, _, _, _, e => by simp at e
  | _ :: _, _, 0, _, h, e => by
    obtain ⟨y, ys, rfl, e2, _⟩ := h
    simp at e
    subst e
    exact ⟨y, rfl, e2⟩
  | _ :: _, _, i + 1, d, h, e => by
    obtain ⟨y, ys, rfl, _, e3⟩ := h
    obtain ⟨x, h1, h2⟩ := IsDs.get (i := i) (d := d) e3 (by simpa using e)
    exact ⟨x, by simpa using h1, h2⟩
theorem IsDs.get' {ds : List Dt} {xs : List V} {i : Nat} {x : V} (h : IsDs K F ds xs) (e : xs[i]? = some x) : ∃ d, ds[i]? = some d ∧ IsD K F d x := by
  have l := h.length
  have hi := (List.getElem?_eq_some_iff.mp e).1
  have hd : ds[i]? = some (ds[i]'(by omega)) := List.getElem?_eq_getElem (by omega)
  obtain ⟨y, e2, e3⟩ := h.get hd
  cases e.symm.trans e2
  exact ⟨_, hd, e3⟩
theorem IsDs.append : ∀ {ds es : List Dt} {xs ys : List V}, IsDs K F ds xs → IsDs K F es ys → IsDs K F (ds ++ es) (xs ++ ys)
  | [], _, xs, _, h, h' => by cases (show xs = [] from h); exact h'
  | _ :: _, _, _, _, h, h' => by
    obtain ⟨y, ys, rfl, e2, e3⟩ := h
    exact ⟨y, _, rfl, e2, IsDs.append e3 h'⟩
theorem IsDs.one {d : Dt} {v : V} (h : IsD K F d v) : IsDs K F [d] [v] := ⟨v, [], rfl, h, rfl⟩
theorem IsDs.take : ∀ {ds : List Dt} {xs : List V} (n : Nat), IsDs K F ds xs → IsDs K F (ds.take n) (xs.take n)
  | _, _, 0, _ => by simp; rfl
  | [], xs, n + 1, h => by cases (show xs = [] from h); rfl
  | _ :: _, _, n + 1, h => by
    obtain ⟨y, ys, rfl, e2, e3⟩ := h
    exact ⟨y, _, rfl, e2, IsDs.take n e3⟩
theorem IsDs.drop : ∀ {ds : List Dt} {xs : List V} (n : Nat), IsDs K F ds xs → IsDs K F (ds.drop n) (xs.drop n)
  | _, _, 0, h => h
  | [], xs, n + 1, h => by cases (show xs = [] from h); rfl
  | _ :: _, _, n + 1, h => by
    obtain ⟨y, ys, rfl, e2, e3⟩ := h
    exact IsDs.drop n e3
theorem IsDs.set {d : Dt} {v : V} (hv : IsD K F d v) : ∀ {ds : List Dt} {xs : List V} (n : Nat), IsDs K F ds xs → IsDs K F (ds.set n d) (xs.set n v)
  | [], xs, _, h => by cases (show xs = [] from h); rfl
  | _ :: _, _, 0, h => by
    obtain ⟨y, ys, rfl, e2, e3⟩ := h
    exact ⟨v, ys, rfl, hv, e3⟩
  | _ :: _, _, n + 1, h => by
    obtain ⟨y, ys, rfl, e2, e3⟩ := h
    exact ⟨y, _, rfl, e2, IsDs.set hv n e3⟩
theorem IsDs.dropLast {ds : List Dt} {xs : List V} (h : IsDs K F ds xs) : IsDs K F ds.dropLast xs.dropLast := by
  rw [List.dropLast_eq_take, List.dropLast_eq_take, h.length]
  exact h.take _
theorem IsDs.rep {ds : List Dt} {xs : List V} (h : IsDs K F ds xs) : ∀ n : Nat, IsDs K F (List.replicate n ds).flatten (List.replicate n xs).flatten
  | 0 => rfl
  | n + 1 => by
    rw [List.replicate_succ, List.replicate_succ, List.flatten_cons, List.flatten_cons]
    exact h.append (IsDs.rep h n)
theorem IsDs.ints : ∀ {ns : List Int} {xs : List V}, IsDs K F (ns.map Dt.int) xs → xs = ns.map V.int
  | [], _, h => h
  | _ :: _, _, h => by
    obtain ⟨y, ys, rfl, e2, e3⟩ := h
    rw [List.map_cons, ← IsDs.ints e3, show y = V.int _ from e2]
theorem IsDs.of_ints : ∀ (ns : List Int), IsDs K F (ns.map Dt.int) (ns.map V.int)
  | [] => rfl
  | _ :: ns => ⟨_, _, rfl, rfl, IsDs.of_ints ns⟩
theorem IsDs.bls : ∀ {bs : List Bool} {xs : List V}, IsDs K F (bs.map Dt.bl) xs → xs = bs.map V.bl
  | [], _, h => h
  | _ :: _, _, h => by
    obtain ⟨y, ys, rfl, e2, e3⟩ := h
    rw [List.map_cons, ← IsDs.bls e3, show y = V.bl _ from e2]
theorem IsDs.at {ds : List Dt} {xs : List V} {i : Int} {d : Dt} (h : IsDs K F ds xs) (e : atI ds i = some d) : ∃ x, atI xs i = some x ∧ IsD K F d x := by
  unfold atI at e ⊢
  rw [h.length] at e
  cases q : ixN xs.length i with
  | none => rw [q] at e; cases e
  | some j =>
    rw [q] at e
    exact h.get e

/-! ### a step of the heaps: frozen F under H -/
structure Adv (F H F' H' : Hp) : Prop where
  ff : Ex F F'
  fh : Ex F' H'
  hh : Ex H H'
  nw : ∀ a, F a = none → F' a ≠ none → H a = none
theorem Adv.refl (e : Ex F H) : Adv F H F H := ⟨Ex.refl F, e, Ex.refl H, fun _ a b => absurd a b⟩
theorem Adv.trans {F1 H1 F2 H2 : Hp} (a : Adv F H F1 H1) (b : Adv F1 H1 F2 H2) : Adv F H F2 H2 := by
  refine ⟨a.ff.trans b.ff, b.fh, a.hh.trans b.hh, fun c h1 h2 => ?_⟩
  cases q : F1 c with
  | none => exact fresh_back a.hh (b.nw c q h2)
  | some o => exact a.nw c h1 (by rw [q]; simp)
theorem Adv.new {p : Addr} {o : HO} (e : Ex F H) (hp : H p = none) : Adv F H (upd F p o) (upd H p o) := by
  have fp : F p = none := fresh_back e hp
  refine ⟨Ex.new fp, fun a u q => ?_, Ex.new hp, fun a h1 h2 => ?_⟩
  · by_cases h : a = p
    · subst h
      rw [upd_same] at q ⊢
      exact q
    · rw [upd_ne h] at q ⊢
      exact e a u q
  · by_cases h : a = p
    · subst h; exact hp
    · rw [upd_ne h] at h2; exact absurd h1 h2
/-- new, and not frozen -/
theorem Adv.newM {p : Addr} {o : HO} (e : Ex F H) (hp : H p = none) : Adv F H F (upd H p o) :=
  ⟨Ex.refl F, e.trans (Ex.new hp), Ex.new hp, fun _ a b => absurd a b⟩
/-- what is not frozen and was not there may change -/
theorem Adv.mut {F' H' : Hp} {p : Addr} {o : HO} (a : Adv F H F' H') (hf : F' p = none) (hp : H p = none) : Adv F H F' (upd H' p o) :=
  ⟨a.ff, Ex.mut a.fh hf, Ex.mut a.hh hp, a.nw⟩
/-- .. may be frozen -/
theorem Adv.freeze {F' H' : Hp} {p : Addr} {o : HO} (a : Adv F H F' H') (hp : H p = none) (ho : H' p = some o) : Adv F H (upd F' p o) H' := by
  have fp : F p = none ∨ True := .inr trivial
  refine ⟨fun b u q => ?_, fun b u q => ?_, a.hh, fun b h1 h2 => ?_⟩
  · by_cases h : b = p
    · subst h
      have z := a.fh _ _ (a.ff _ _ q)
      rw [ho] at z
      rw [upd_same]
      exact z
    · rw [upd_ne h]; exact a.ff _ _ q
  · by_cases h : b = p
    · subst h
      rw [upd_same] at q
      cases q
      exact ho
    · rw [upd_ne h] at q; exact a.fh _ _ q
  · by_cases h : b = p
    · subst h; exact hp
    · rw [upd_ne h] at h2; exact a.nw b h1 h2
theorem Adv.stays {F' H' : Hp} {p : Addr} {o : HO} (a : Adv F H F' H') (hf : F p = none) (hp : H p = some o) : F' p = none := by
  cases q : F' p with
  | none => rfl
  | some u =>
    have z := a.nw p hf (by rw [q]; simp)
    rw [hp] at z
    cases z
end

/-! ### slots: nothing, frozen data, an own list, an own list of own lists -/
inductive Sl where
  | no | fz (d : Dt) | mt (ds : List Dt) | mts (dss : List (List Dt))
def OwnL (K : PySem.W.Frag) (H0 F H : Hp) (ow : Addr → Nat) (i : Nat) : List Addr → List (List Dt) → Prop
  | [], [] => True
  | b :: bs, ds :: dss => (ow b = i ∧ F b = none ∧ H0 b = none ∧ ∃ xs, H b = some (.lst xs) ∧ IsDs K F ds xs) ∧ OwnL K H0 F H ow i bs dss
  | _, _ => False
def SlOk (K : PySem.W.Frag) (H0 F H : Hp) (ow : Addr → Nat) (i : Nat) (o : Option (Option V)) : Sl → Prop
  | .no => True
  | .fz d => ∃ v, o = some (some v) ∧ IsD K F d v
  | .mt ds => ∃ p xs, o = some (some (.ref p)) ∧ ow p = i ∧ F p = none ∧ H0 p = none ∧ H p = some (.lst xs) ∧ IsDs K F ds xs
  | .mts dss => ∃ p bs, o = some (some (.ref p)) ∧ ow p = i ∧ F p = none ∧ H0 p = none ∧ H p = some (.lst (bs.map V.ref)) ∧ p ∉ bs ∧ bs.Nodup ∧ OwnL K H0 F H ow i bs dss
structure W (K : PySem.W.Frag) (F0 H0 F H : Hp) (σ : L2.St) (ρ : List Sl) : Prop where
  adv : Adv F0 H0 F H
  len : σ.length = ρ.length
  sl : ∃ ow : Addr → Nat, ∀ (i : Nat) s, ρ[i]? = some s → SlOk K H0 F H ow i σ[i]? s
section
variable {K : PySem.W.Frag} {F0 H0 F F' H H' : Hp} {σ : L2.St} {ρ : List Sl} {ow ow' : Addr → Nat} {i : Nat}
theorem OwnL.mem : ∀ {bs : List Addr} {dss : List (List Dt)}, OwnL K H0 F H ow i bs dss → ∀ b ∈ bs, ow b = i ∧ F b = none ∧ H0 b = none ∧ ∃ xs, H b = some (.lst xs)
  | [], [], _, b, hb => nomatch hb
  | b :: bs, ds :: dss, h, c, hc => by
    obtain ⟨⟨h1, h2, h3, xs, h4, h5⟩, h6⟩ := h
    rcases List.mem_cons.mp hc with rfl | hc
    · exact ⟨h1, h2, h3, xs, h4⟩
    · exact OwnL.mem h6 c hc
  | [], _ :: _, h, _, _ => h.elim
  | _ :: _, [], h, _, _ => h.elim
theorem OwnL.imp (ho : ∀ b o, ow b = i → F b = none → H b = some o → ow' b = i ∧ F' b = none ∧ H' b = some o) (hf : Ex F F') : ∀ {bs : List Addr} {dss : List (List Dt)}, OwnL K H0 F H ow i bs dss → OwnL K H0 F' H' ow' i bs dss
  | [], [], _ => trivial
  | b :: bs, ds :: dss, h => by
    obtain ⟨⟨h1, h2, h3, xs, h4, h5⟩, h6⟩ := h
    obtain ⟨k1, k2, k3⟩ := ho b _ h1 h2 h4
    exact ⟨⟨k1, k2, h3, xs, k3, h5.mono hf⟩, OwnL.imp ho hf h6⟩
  | [], _ :: _, h => h.elim
  | _ :: _, [], h => h.elim
theorem OwnL.imp_mem : ∀ {bs : List Addr} {dss : List (List Dt)} (ho : ∀ b o, b ∈ bs → ow b = i → F b = none → H b = some o → ow' b = i ∧ F' b = none ∧ H' b = some o) (hf : Ex F F'), OwnL K H0 F H ow i bs dss → OwnL K H0 F' H' ow' i bs dss
  | [], [], _, _, _ => trivial
  | b :: bs, ds :: dss, ho, hf, h => by
    obtain ⟨⟨h1, h2, h3, xs, h4, h5⟩, h6⟩ := h
    obtain ⟨k1, k2, k3⟩ := ho b _ (List.mem_cons_self ..) h1 h2 h4
    exact ⟨⟨k1, k2, h3, xs, k3, h5.mono hf⟩, OwnL.imp_mem (fun c o m => ho c o (List.mem_cons_of_mem _ m)) hf h6⟩
  | [], _ :: _, _, _, h => h.elim
  | _ :: _, [], _, _, h => h.elim
theorem OwnL.append : ∀ {bs cs : List Addr} {dss ess : List (List Dt)}, OwnL K H0 F H ow i bs dss → OwnL K H0 F H ow i cs ess → OwnL K H0 F H ow i (bs ++ cs) (dss ++ ess)
  | [], _, [], _, _, h => h
  | b :: bs, _, ds :: dss, _, h, h' => ⟨h.1, OwnL.append h.2 h'⟩
  | [], _, _ :: _, _, h, _ => h.elim
  | _ :: _, _, [], _, h, _ => h.elim
theorem OwnL.length : ∀ {bs : List Addr} {dss : List (List Dt)}, OwnL K H0 F H ow i bs dss → bs.length = dss.length
  | [], [], _ => rfl
  | b :: bs, ds :: dss, h => by simp [OwnL.length h.2]
  | [], _ :: _, h => h.elim
  | _ :: _, [], h => h.elim
theorem OwnL.snoc : ∀ {bs : List Addr} {dss : List (List Dt)} {ds : List Dt}, OwnL K H0 F H ow i bs (dss ++ [ds]) → ∃ cs c, bs = cs ++ [c] ∧ OwnL K H0 F H ow i cs dss ∧ OwnL K H0 F H ow i [c] [ds]
  | [], [], _, h => h.elim
  | [], _ :: _, _, h => h.elim
  | [b], [], _, h => ⟨[], b, rfl, trivial, h⟩
  | b :: c :: bs, [], _, h => (h.2 : False).elim
  | b :: bs, ds :: dss, e, h => by
    obtain ⟨h1, h2⟩ := h
    obtain ⟨cs, c, rfl, k1, k2⟩ := OwnL.snoc h2
    exact ⟨b :: cs, c, rfl, ⟨h1, k1⟩, k2⟩
/-- how a slot stands through a change: its own addresses keep their owner and content, the frozen part grows -/
theorem SlOk.imp {o : Option (Option V)} {s : Sl} (h : SlOk K H0 F H ow i o s) (ho : ∀ b u, ow b = i → F b = none → H b = some u → ow' b = i ∧ F' b = none ∧ H' b = some u) (hf : Ex F F') : SlOk K H0 F' H' ow' i o s := by
  cases s with
  | no => trivial
  | fz d => obtain ⟨v, e, h⟩ := h; exact ⟨v, e, h.mono hf⟩
  | mt ds =>
    obtain ⟨p, xs, e, h1, h2, h3, h4, h5⟩ := h
    obtain ⟨k1, k2, k3⟩ := ho p _ h1 h2 h4
    exact ⟨p, xs, e, k1, k2, h3, k3, h5.mono hf⟩
  | mts dss =>
    obtain ⟨p, bs, e, h1, h2, h3, h4, h5, h6, h7⟩ := h
    obtain ⟨k1, k2, k3⟩ := ho p _ h1 h2 h4
    exact ⟨p, bs, e, k1, k2, h3, k3, h5, h6, h7.imp (fun b u a1 a2 a3 => ho b u a1 a2 a3) hf⟩
theorem W.go (w : W K F0 H0 F H σ ρ) (a : Adv F H F' H') : W K F0 H0 F' H' σ ρ := by
  obtain ⟨ow, hs⟩ := w.sl
  refine ⟨w.adv.trans a, w.len, ow, fun j s hj => (hs j s hj).imp (fun b u a1 a2 a3 => ⟨a1, a.stays a2 a3, a.hh _ _ a3⟩) a.ff⟩
theorem W.fz {d : Dt} {i : Nat} (w : W K F0 H0 F H σ ρ) (h : ρ[i]? = some (.fz d)) : ∃ v, σ[i]? = some (some v) ∧ IsD K F d v := by
  obtain ⟨ow, hs⟩ := w.sl
  exact hs i _ h
theorem W.set {d : Dt} {v : V} (w : W K F0 H0 F H σ ρ) (i : Nat) (h : IsD K F d v) : W K F0 H0 F H (σ.set i (some v)) (ρ.set i (.fz d)) := by
  obtain ⟨ow, hs⟩ := w.sl
  refine ⟨w.adv, by rw [List.length_set, List.length_set, w.len], ow, fun j s hj => ?_⟩
  by_cases hji : i = j
  · subst hji
    by_cases hl : i < ρ.length
    · rw [List.getElem?_set_self hl] at hj
      cases hj
      exact ⟨v, List.getElem?_set_self (by rw [w.len]; exact hl), h⟩
    · rw [List.getElem?_eq_none (by simpa using hl)] at hj
      cases hj
  · rw [List.getElem?_set_ne hji] at hj ⊢
    exact hs j s hj
/-- a new list that is not frozen, to slot i -/
theorem W.setN {p : Addr} {xs : List V} {ds : List Dt} (w : W K F0 H0 F H σ ρ) (i : Nat) (a : Adv F H F' H') (f1 : F' p = none) (f2 : H p = none) (f3 : H' p = some (.lst xs)) (f4 : IsDs K F' ds xs) :
    W K F0 H0 F' H' (σ.set i (some (.ref p))) (ρ.set i (.mt ds)) := by
  obtain ⟨ow, hs⟩ := w.sl
  refine ⟨w.adv.trans a, by rw [List.length_set, List.length_set, w.len], fun b => if b = p then i else ow b, fun j s hj => ?_⟩
  by_cases hji : i = j
  · subst hji
    by_cases hl : i < ρ.length
    · rw [List.getElem?_set_self hl] at hj
      cases hj
      exact ⟨p, xs, List.getElem?_set_self (by rw [w.len]; exact hl), if_pos rfl, f1, fresh_back w.adv.hh f2, f3, f4⟩
    · rw [List.getElem?_eq_none (by simpa using hl)] at hj
      cases hj
  · rw [List.getElem?_set_ne hji] at hj ⊢
    exact (hs j s hj).imp (fun b u a1 a2 a3 => ⟨by rw [if_neg (ne_of_none a3 f2)]; exact a1, a.stays a2 a3, a.hh _ _ a3⟩) a.ff
/-- an own list is changed -/
theorem W.mut {ds ds' : List Dt} {i : Nat} (w : W K F0 H0 F H σ ρ) (h : ρ[i]? = some (.mt ds)) : ∃ p xs, σ[i]? = some (some (.ref p)) ∧ F p = none ∧ H0 p = none ∧ H p = some (.lst xs) ∧ IsDs K F ds xs ∧
    ∀ xs', IsDs K F ds' xs' → W K F0 H0 F (upd H p (.lst xs')) σ (ρ.set i (.mt ds')) := by
  obtain ⟨ow, hs⟩ := w.sl
  obtain ⟨p, xs, e, h1, h2, h3, h4, h5⟩ := hs i _ h
  refine ⟨p, xs, e, h2, h3, h4, h5, fun xs' h' => ⟨w.adv.mut h2 h3, by rw [List.length_set, w.len], ow, fun j s hj => ?_⟩⟩
  by_cases hji : i = j
  · subst hji
    rw [List.getElem?_set_self (List.getElem?_eq_some_iff.mp h).1] at hj
    cases hj
    exact ⟨p, xs', e, h1, h2, h3, upd_same, h'⟩
  · rw [List.getElem?_set_ne hji] at hj
    exact (hs j s hj).imp (fun b u a1 a2 a3 => ⟨a1, a2, by rw [upd_ne (fun q => hji (by rw [← h1, ← a1, q]))]; exact a3⟩) (Ex.refl F)
/-- an own list is frozen -/
theorem W.freeze {ds : List Dt} {i : Nat} (w : W K F0 H0 F H σ ρ) (h : ρ[i]? = some (.mt ds)) : ∃ p xs, σ[i]? = some (some (.ref p)) ∧ F p = none ∧ H p = some (.lst xs) ∧ W K F0 H0 (upd F p (.lst xs)) H σ (ρ.set i (.fz (.lst ds))) := by
  obtain ⟨ow, hs⟩ := w.sl
  obtain ⟨p, xs, e, h1, h2, h3, h4, h5⟩ := hs i _ h
  have ef : Ex F (upd F p (.lst xs)) := Ex.new h2
  refine ⟨p, xs, e, h2, h4, w.adv.freeze h3 h4, by rw [List.length_set, w.len], ow, fun j s hj => ?_⟩
  by_cases hji : i = j
  · subst hji
    rw [List.getElem?_set_self (List.getElem?_eq_some_iff.mp h).1] at hj
    cases hj
    exact ⟨_, e, p, xs, rfl, upd_same, h5.mono ef⟩
  · rw [List.getElem?_set_ne hji] at hj
    exact (hs j s hj).imp (fun b u a1 a2 a3 => ⟨a1, by rw [upd_ne (fun q => hji (by rw [← h1, ← a1, q]))]; exact a2, a3⟩) ef
end
end Dl
/-! DE: what an expression, a test, a source, a target gives, by data. -/
namespace Dl
open PySem L2 Dr Evl

/-- an expression gives data of which P holds; it gives d; it gives a new list that nobody else holds -/
def EvP (K : PySem.W.Frag) (te : TE) (ρ : List Sl) (P : Dt → Prop) : Prop := ∀ F0 H0 F H σ, W K F0 H0 F H σ ρ → ∀ Q : VK, (∀ v d F' H', Adv F H F' H' → IsD K F' d v → P d → Q v H') → te σ H Q
def EvD (K : PySem.W.Frag) (te : TE) (ρ : List Sl) (d : Dt) : Prop := ∀ F0 H0 F H σ, W K F0 H0 F H σ ρ → ∀ Q : VK, (∀ v F' H', Adv F H F' H' → IsD K F' d v → Q v H') → te σ H Q
def EvNP (K : PySem.W.Frag) (te : TE) (ρ : List Sl) (P : List Dt → Prop) : Prop := ∀ F0 H0 F H σ, W K F0 H0 F H σ ρ → ∀ Q : VK,
  (∀ p xs ds F' H', Adv F H F' H' → F' p = none → H p = none → H' p = some (.lst xs) → IsDs K F' ds xs → P ds → Q (.ref p) H') → te σ H Q
def EvN (K : PySem.W.Frag) (te : TE) (ρ : List Sl) (ds : List Dt) : Prop := ∀ F0 H0 F H σ, W K F0 H0 F H σ ρ → ∀ Q : VK,
  (∀ p xs F' H', Adv F H F' H' → F' p = none → H p = none → H' p = some (.lst xs) → IsDs K F' ds xs → Q (.ref p) H') → te σ H Q
def EvA (K : PySem.W.Frag) (ta : TA) (ρ : List Sl) (ds : List Dt) : Prop := ∀ F0 H0 F H σ, W K F0 H0 F H σ ρ → ∀ Q : List V → Hp → Prop, (∀ vs F' H', Adv F H F' H' → IsDs K F' ds vs → Q vs H') → ta σ H Q
def EvAP (K : PySem.W.Frag) (ta : TA) (ρ : List Sl) (P : List Dt → Prop) : Prop := ∀ F0 H0 F H σ, W K F0 H0 F H σ ρ → ∀ Q : List V → Hp → Prop, (∀ vs ds F' H', Adv F H F' H' → IsDs K F' ds vs → P ds → Q vs H') → ta σ H Q
def EvT (K : PySem.W.Frag) (tt : TT) (ρ : List Sl) (b : Bool) : Prop := ∀ F0 H0 F H σ, W K F0 H0 F H σ ρ → ∀ Q : Bool → Hp → Prop, (∀ F' H', Adv F H F' H' → Q b H') → tt σ H Q
def EvO (K : PySem.W.Frag) (to : TO) (ρ : List Sl) (o : Option Int) : Prop := ∀ F0 H0 F H σ, W K F0 H0 F H σ ρ → ∀ Q : Option Int → Hp → Prop, (∀ F' H', Adv F H F' H' → Q o H') → to σ H Q
/-- operations by data -/
def OpD (K : PySem.W.Frag) (r : R2) (x y z : Dt) : Prop := ∀ F H vx vy, Ex F H → IsD K F x vx → IsD K F y vy → ∀ Q : VK, (∀ v F' H', Adv F H F' H' → IsD K F' z v → Q v H') → r vx vy H Q
def OpN (K : PySem.W.Frag) (r : R2) (x y : Dt) (ds : List Dt) : Prop := ∀ F H vx vy, Ex F H → IsD K F x vx → IsD K F y vy → ∀ Q : VK,
  (∀ p xs F' H', Adv F H F' H' → F' p = none → H p = none → H' p = some (.lst xs) → IsDs K F' ds xs → Q (.ref p) H') → r vx vy H Q
def UnD (K : PySem.W.Frag) (r : V → Hp → VK → Prop) (x z : Dt) : Prop := ∀ F H vx, Ex F H → IsD K F x vx → ∀ Q : VK, (∀ v F' H', Adv F H F' H' → IsD K F' z v → Q v H') → r vx H Q
def CbD (K : PySem.W.Frag) (r : List V → Hp → VK → Prop) (xs : List Dt) (z : Dt) : Prop := ∀ F H vs, Ex F H → IsDs K F xs vs → ∀ Q : VK, (∀ v F' H', Adv F H F' H' → IsD K F' z v → Q v H') → r vs H Q
def CbN (K : PySem.W.Frag) (r : List V → Hp → VK → Prop) (xs ds : List Dt) : Prop := ∀ F H vs, Ex F H → IsDs K F xs vs → ∀ Q : VK,
  (∀ p ys F' H', Adv F H F' H' → F' p = none → H p = none → H' p = some (.lst ys) → IsDs K F' ds ys → Q (.ref p) H') → r vs H Q
def SlD (K : PySem.W.Frag) (r : V → Option Int → Option Int → Hp → VK → Prop) (x : Dt) (lo hi : Option Int) (z : Dt) : Prop := ∀ F H vx, Ex F H → IsD K F x vx → ∀ Q : VK, (∀ v F' H', Adv F H F' H' → IsD K F' z v → Q v H') → r vx lo hi H Q

section
variable {K : PySem.W.Frag} {ρ : List Sl} {ta tb te : TE} {d x y z : Dt} {ds es : List Dt} {P : Dt → Prop}
theorem EvD.p (h : EvD K te ρ d) (hp : P d) : EvP K te ρ P := fun F0 H0 F H σ w Q q => h F0 H0 F H σ w Q fun v F' H' a hv => q v d F' H' a hv hp
theorem EvP.imp {P' : Dt → Prop} (h : EvP K te ρ P) (hp : ∀ d, P d → P' d) : EvP K te ρ P' := fun F0 H0 F H σ w Q q => h F0 H0 F H σ w Q fun v d F' H' a hv p => q v d F' H' a hv (hp d p)
theorem EvP.det (h : EvP K te ρ (fun x => x = d)) : EvD K te ρ d := fun F0 H0 F H σ w Q q => h F0 H0 F H σ w Q fun v d' F' H' a hv e => q v F' H' a (e ▸ hv)
theorem EvD.to {d' : Dt} (h : EvD K te ρ d) (e : d = d') : EvD K te ρ d' := e ▸ h
theorem EvN.to {ds' : List Dt} (h : EvN K te ρ ds) (e : ds = ds') : EvN K te ρ ds' := e ▸ h
theorem EvN.dt (h : EvN K te ρ ds) : EvD K te ρ (.lst ds) := fun F0 H0 F H σ w Q q => h F0 H0 F H σ w Q fun p xs F' H' a f1 f2 f3 f4 =>
  q _ (upd F' p (.lst xs)) H' (a.freeze f2 f3) ⟨p, xs, rfl, upd_same, f4.mono (Ex.new f1)⟩
theorem EvN.p {P : List Dt → Prop} (h : EvN K te ρ ds) (hp : P ds) : EvNP K te ρ P := fun F0 H0 F H σ w Q q => h F0 H0 F H σ w Q fun p xs F' H' a f1 f2 f3 f4 => q p xs ds F' H' a f1 f2 f3 f4 hp
theorem EvNP.dt {P : List Dt → Prop} (h : EvNP K te ρ P) : EvP K te ρ (fun d => ∃ ds, d = .lst ds ∧ P ds) := fun F0 H0 F H σ w Q q => h F0 H0 F H σ w Q fun p xs ds F' H' a f1 f2 f3 f4 hp =>
  q _ (.lst ds) (upd F' p (.lst xs)) H' (a.freeze f2 f3) ⟨p, xs, rfl, upd_same, f4.mono (Ex.new f1)⟩ ⟨ds, rfl, hp⟩
theorem ev_var {i : Nat} (h : ρ[i]? = some (.fz d)) : EvD K (tVar i) ρ d := fun F0 H0 F H σ w Q q => by
  obtain ⟨v, e, hd⟩ := w.fz h
  exact ⟨v, e, q v F H (Adv.refl w.adv.fh) hd⟩
theorem ev_int {i : Int} : EvD K (tC (.int i)) ρ (.int i) := fun F0 H0 F H σ w Q q => q _ F H (Adv.refl w.adv.fh) rfl
theorem ev_non : EvD K (tC .non) ρ .non := fun F0 H0 F H σ w Q q => q _ F H (Adv.refl w.adv.fh) rfl
theorem ev_bl {b : Bool} : EvD K (tC (.bl b)) ρ (.bl b) := fun F0 H0 F H σ w Q q => q _ F H (Adv.refl w.adv.fh) rfl
theorem ev_str {s : Str} : EvD K (tC (.str s)) ρ (.str s) := fun F0 H0 F H σ w Q q => q _ F H (Adv.refl w.adv.fh) rfl
theorem ev_op {r : R2} (ha : EvD K ta ρ x) (hb : EvD K tb ρ y) (hr : OpD K r x y z) : EvD K (tOp r ta tb) ρ z := fun F0 H0 F H σ w Q q =>
  ha F0 H0 F H σ w _ fun v1 F1 H1 a1 h1 => hb F0 H0 F1 H1 σ (w.go a1) _ fun v2 F2 H2 a2 h2 => hr F2 H2 v1 v2 a2.fh (h1.mono a2.ff) h2 Q fun v F3 H3 a3 h3 => q v F3 H3 ((a1.trans a2).trans a3) h3
theorem evn_op {r : R2} (ha : EvD K ta ρ x) (hb : EvD K tb ρ y) (hr : OpN K r x y ds) : EvN K (tOp r ta tb) ρ ds := fun F0 H0 F H σ w Q q =>
  ha F0 H0 F H σ w _ fun v1 F1 H1 a1 h1 => hb F0 H0 F1 H1 σ (w.go a1) _ fun v2 F2 H2 a2 h2 => hr F2 H2 v1 v2 a2.fh (h1.mono a2.ff) h2 Q fun p xs F3 H3 a3 f1 f2 f3 f4 =>
    q p xs F3 H3 ((a1.trans a2).trans a3) f1 (fresh_back (a1.hh.trans a2.hh) f2) f3 f4
theorem evp_op {r : R2} {A B P : Dt → Prop} (ha : EvP K ta ρ A) (hb : EvP K tb ρ B) (hr : ∀ x y, A x → B y → ∃ z, OpD K r x y z ∧ P z) : EvP K (tOp r ta tb) ρ P := fun F0 H0 F H σ w Q q =>
  ha F0 H0 F H σ w _ fun v1 x F1 H1 a1 h1 p1 => hb F0 H0 F1 H1 σ (w.go a1) _ fun v2 y F2 H2 a2 h2 p2 => by
    obtain ⟨z, hz, pz⟩ := hr x y p1 p2
    exact hz F2 H2 v1 v2 a2.fh (h1.mono a2.ff) h2 Q fun v F3 H3 a3 h3 => q v z F3 H3 ((a1.trans a2).trans a3) h3 pz
theorem ev_un {r : V → Hp → VK → Prop} (ha : EvD K ta ρ x) (hr : UnD K r x z) : EvD K (tUn r ta) ρ z := fun F0 H0 F H σ w Q q =>
  ha F0 H0 F H σ w _ fun v1 F1 H1 a1 h1 => hr F1 H1 v1 a1.fh h1 Q fun v F2 H2 a2 h2 => q v F2 H2 (a1.trans a2) h2
/-! operators -/
theorem od_add {i j : Int} : OpD K (rAddA K) (.int i) (.int j) (.int (i + j)) := fun F H vx vy e hx hy Q q => by
  cases (show vx = .int i from hx)
  cases (show vy = .int j from hy)
  exact .inl ⟨i, j, rfl, rfl, q _ F H (Adv.refl e) rfl⟩
theorem on_cat (hz : ds.length + es.length ≤ 100000) : OpN K (rAddA K) (.lst ds) (.lst es) (ds ++ es) := fun F H vx vy e hx hy Q q => by
  obtain ⟨a, xs, rfl, hx, hxs⟩ := hx
  obtain ⟨b, ys, rfl, hy, hys⟩ := hy
  exact .inr (.inl ⟨a, b, xs, ys, rfl, rfl, e _ _ hx, e _ _ hy, by rw [← hxs.length, ← hys.length]; exact sz_of hz, fun p hp => q p _ F _ (Adv.newM e hp) (fresh_back e hp) hp upd_same (hxs.append hys)⟩)
theorem od_catT (hz : ds.length + es.length ≤ 100000) : OpD K (rAddA K) (.tup ds) (.tup es) (.tup (ds ++ es)) := fun F H vx vy e hx hy Q q => by
  obtain ⟨a, xs, rfl, hx, hxs⟩ := hx
  obtain ⟨b, ys, rfl, hy, hys⟩ := hy
  refine .inr (.inr ⟨a, b, xs, ys, rfl, rfl, SqT.of (e _ _ hx), SqT.of (e _ _ hy), by rw [← hxs.length, ← hys.length]; exact sz_of hz, fun h => ?_, fun _ h => ?_, fun _ _ p hp => ?_⟩)
  · subst h
    exact q _ F H (Adv.refl e) ⟨b, ys, rfl, hy, by have := hxs.append hys; simpa using this⟩
  · subst h
    exact q _ F H (Adv.refl e) ⟨a, xs, rfl, hx, by have := hxs.append hys; simpa using this⟩
  · exact q _ _ _ (Adv.new e hp) ⟨p, _, rfl, upd_same, (hxs.append hys).mono (Ex.new (fresh_back e hp))⟩
theorem od_sub {i j : Int} : OpD K (rI0 fun i j => .int (i - j)) (.int i) (.int j) (.int (i - j)) := fun F H vx vy e hx hy Q q => by
  cases (show vx = .int i from hx)
  cases (show vy = .int j from hy)
  exact ⟨i, j, rfl, rfl, q _ F H (Adv.refl e) rfl⟩
theorem od_mul {i j : Int} (h : CMul i j) : OpD K rMulA (.int i) (.int j) (.int (i * j)) := fun F H vx vy e hx hy Q q => by
  cases (show vx = .int i from hx)
  cases (show vy = .int j from hy)
  exact .inl ⟨i, j, rfl, rfl, h, q _ F H (Adv.refl e) rfl⟩
theorem on_rep {k : Int} (h : k ≤ 100000 ∧ ds.length * k.toNat ≤ 100000) (h0 : -100000 ≤ k) : OpN K rMulA (.lst ds) (.int k) (List.replicate k.toNat ds).flatten := fun F H vx vy e hx hy Q q => by
  obtain ⟨a, xs, rfl, hx, hxs⟩ := hx
  cases (show vy = .int k from hy)
  exact .inr ⟨a, k, xs, rfl, rfl, e _ _ hx, by omega, by omega, by rw [← hxs.length]; exact sz_of h.2, fun p hp => q p _ F _ (Adv.newM e hp) (fresh_back e hp) hp upd_same (hxs.rep _)⟩
theorem od_mod {i j : Int} (h : 0 < j) : OpD K (rI (fun _ j => 0 < j) fun i j => .int (i % j)) (.int i) (.int j) (.int (i % j)) := fun F H vx vy e hx hy Q q => by
  cases (show vx = .int i from hx)
  cases (show vy = .int j from hy)
  exact ⟨i, j, rfl, rfl, h, q _ F H (Adv.refl e) rfl⟩
theorem od_div {i j : Int} (h : 0 < j) (h' : j < 2 ^ 64) : OpD K (rI CDivW fun i j => .int (i / j)) (.int i) (.int j) (.int (i / j)) := fun F H vx vy e hx hy Q q => by
  cases (show vx = .int i from hx)
  cases (show vy = .int j from hy)
  exact ⟨i, j, rfl, rfl, wide_div (b := 64) h (by omega) (by decide) (by decide), q _ F H (Adv.refl e) rfl⟩
theorem od_pow {i j : Int} (h : CPow i j) : OpD K (rI CPow fun i j => .int (i ^ j.toNat)) (.int i) (.int j) (.int (i ^ j.toNat)) := fun F H vx vy e hx hy Q q => by
  cases (show vx = .int i from hx)
  cases (show vy = .int j from hy)
  exact ⟨i, j, rfl, rfl, h, q _ F H (Adv.refl e) rfl⟩
theorem ud_neg {i : Int} : UnD K (rU fun i => .int (-i)) (.int i) (.int (-i)) := fun F H vx e hx Q q => by
  cases (show vx = .int i from hx)
  exact ⟨i, rfl, q _ F H (Adv.refl e) rfl⟩
theorem od_cmp {f : Int → Int → Bool} {i j : Int} : OpD K (rI0 fun i j => .bl (f i j)) (.int i) (.int j) (.bl (f i j)) := fun F H vx vy e hx hy Q q => by
  cases (show vx = .int i from hx)
  cases (show vy = .int j from hy)
  exact ⟨i, j, rfl, rfl, q _ F H (Adv.refl e) rfl⟩
theorem od_lt {i j : Int} : OpD K (rI0 fun i j => .bl (decide (i < j))) (.int i) (.int j) (.bl (decide (i < j))) := od_cmp (f := fun i j => decide (i < j))
theorem od_le {i j : Int} : OpD K (rI0 fun i j => .bl (decide (i ≤ j))) (.int i) (.int j) (.bl (decide (i ≤ j))) := od_cmp (f := fun i j => decide (i ≤ j))
theorem od_gt {i j : Int} : OpD K (rI0 fun i j => .bl (decide (j < i))) (.int i) (.int j) (.bl (decide (j < i))) := od_cmp (f := fun i j => decide (j < i))
theorem od_ge {i j : Int} : OpD K (rI0 fun i j => .bl (decide (j ≤ i))) (.int i) (.int j) (.bl (decide (j ≤ i))) := od_cmp (f := fun i j => decide (j ≤ i))
theorem od_eqI {i j : Int} : OpD K rEq (.int i) (.int j) (.bl (decide (i = j))) := fun F H vx vy e hx hy Q q => by
  cases (show vx = .int i from hx)
  cases (show vy = .int j from hy)
  exact ⟨rfl, q _ F H (Adv.refl e) (by show V.bl _ = V.bl _; rw [dec_int, Bool.beq_eq_decide_eq])⟩
theorem od_eqB {i j : Bool} : OpD K rEq (.bl i) (.bl j) (.bl (decide (i = j))) := fun F H vx vy e hx hy Q q => by
  cases (show vx = .bl i from hx)
  cases (show vy = .bl j from hy)
  exact ⟨rfl, q _ F H (Adv.refl e) (by show V.bl _ = V.bl _; rw [dec_bl, Bool.beq_eq_decide_eq])⟩
theorem od_eqS {i j : Str} : OpD K rEq (.str i) (.str j) (.bl (decide (i = j))) := fun F H vx vy e hx hy Q q => by
  cases (show vx = .str i from hx)
  cases (show vy = .str j from hy)
  exact ⟨rfl, q _ F H (Adv.refl e) (by show V.bl _ = V.bl _; rw [show decide (V.str i = V.str j) = decide (i = j) from decide_eq_decide.mpr ⟨fun h => V.str.inj h, fun h => h ▸ rfl⟩])⟩
theorem od_neI {i j : Int} : OpD K rNe (.int i) (.int j) (.bl (!decide (i = j))) := fun F H vx vy e hx hy Q q => by
  cases (show vx = .int i from hx)
  cases (show vy = .int j from hy)
  exact ⟨rfl, q _ F H (Adv.refl e) (by show V.bl _ = V.bl _; rw [dec_int, Bool.beq_eq_decide_eq])⟩
/-- is None, is not None -/
def Dt.isNon : Dt → Bool
  | .non => true
  | _ => false
theorem isNon_v {F : Hp} {v : V} (h : IsD K F x v) : decide (v = .non) = x.isNon := by
  cases x with
  | non => cases (show v = .non from h); rfl
  | bl b => cases (show v = .bl b from h); rfl
  | int b => cases (show v = .int b from h); rfl
  | str b => cases (show v = .str b from h); rfl
  | tup b => obtain ⟨_, _, rfl, _⟩ := h; rfl
  | lst b => obtain ⟨_, _, rfl, _⟩ := h; rfl
  | scr b => obtain ⟨_, rfl, _⟩ := h; rfl
theorem od_isN : OpD K rIsN x .non (.bl x.isNon) := fun F H vx vy e hx hy Q q =>
  ⟨hy, q _ F H (Adv.refl e) (by show V.bl _ = V.bl _; rw [isNon_v hx])⟩
theorem od_notN : OpD K rNotN x .non (.bl (!x.isNon)) := fun F H vx vy e hx hy Q q =>
  ⟨hy, q _ F H (Adv.refl e) (by show V.bl _ = V.bl _; rw [isNon_v hx])⟩
/-- xs[i] of a list or a tuple -/
theorem od_ixT {i : Int} (h : atI ds i = some d) : OpD K (rIx K) (.tup ds) (.int i) d := fun F H vx vy e hx hy Q q => by
  obtain ⟨a, xs, rfl, hx, hxs⟩ := hx
  cases (show vy = .int i from hy)
  obtain ⟨v, h1, h2⟩ := hxs.at h
  exact .inr (.inl ⟨a, xs, i, v, rfl, rfl, SqT.of (e _ _ hx), h1, q v F H (Adv.refl e) h2⟩)
theorem od_ixL {i : Int} (h : atI ds i = some d) : OpD K (rIx K) (.lst ds) (.int i) d := fun F H vx vy e hx hy Q q => by
  obtain ⟨a, xs, rfl, hx, hxs⟩ := hx
  cases (show vy = .int i from hy)
  obtain ⟨v, h1, h2⟩ := hxs.at h
  exact .inl ⟨a, xs, i, v, rfl, rfl, SqL.of (e _ _ hx), h1, q v F H (Adv.refl e) h2⟩
theorem od_ixS {ns : List Int} {i j : Int} (h : atI ns i = some j) : OpD K (rIx K) (.scr ns) (.int i) (.int j) := fun F H vx vy e hx hy Q q => by
  obtain ⟨a, rfl, hx⟩ := hx
  cases (show vy = .int i from hy)
  refine .inl ⟨a, _, i, .int j, rfl, rfl, ex_l e hx, ?_, q _ F H (Adv.refl e) rfl⟩
  unfold atI at h ⊢
  rw [List.length_map]
  cases hk : ixN ns.length i with
  | none => rw [hk] at h; cases h
  | some k =>
    rw [hk] at h
    show (ns.map V.int)[k]? = _
    rw [List.getElem?_map, show ns[k]? = some j from h]
    rfl
theorem at_nat {α : Type} {xs : List α} {i : Int} {j : Nat} {v : α} (e : i = (j : Int)) (h : xs[j]? = some v) : atI xs i = some v := by
  rw [e]
  exact atI_nat h
/-! arguments, displays -/
theorem ea_nil : EvA K tNil ρ [] := fun F0 H0 F H σ w Q q => q [] F H (Adv.refl w.adv.fh) rfl
theorem ea_cons {tr : TA} (h : EvD K te ρ d) (hr : EvA K tr ρ ds) : EvA K (tCons te tr) ρ (d :: ds) := fun F0 H0 F H σ w Q q =>
  h F0 H0 F H σ w _ fun v F1 H1 a1 h1 => hr F0 H0 F1 H1 σ (w.go a1) _ fun vs F2 H2 a2 h2 => q _ F2 H2 (a1.trans a2) ⟨v, vs, rfl, h1.mono a2.ff, h2⟩
theorem EvA.p {ta : TA} {P : List Dt → Prop} (h : EvA K ta ρ ds) (hp : P ds) : EvAP K ta ρ P := fun F0 H0 F H σ w Q q => h F0 H0 F H σ w Q fun v F' H' a hv => q v ds F' H' a hv hp
theorem eap_cons {tr : TA} {A : Dt → Prop} {B : List Dt → Prop} (h : EvP K te ρ A) (hr : EvAP K tr ρ B) : EvAP K (tCons te tr) ρ (fun xs => ∃ d ds, xs = d :: ds ∧ A d ∧ B ds) := fun F0 H0 F H σ w Q q =>
  h F0 H0 F H σ w _ fun v d F1 H1 a1 h1 p1 => hr F0 H0 F1 H1 σ (w.go a1) _ fun vs ds F2 H2 a2 h2 p2 => q (v :: vs) (d :: ds) F2 H2 (a1.trans a2) ⟨v, vs, rfl, h1.mono a2.ff, h2⟩ ⟨d, ds, rfl, p1, p2⟩
theorem ev_tup {ta : TA} (h : EvA K ta ρ ds) (hz : ds.length ≤ 100000 := by simp) : EvD K (tTup ta) ρ (.tup ds) := fun F0 H0 F H σ w Q q =>
  h F0 H0 F H σ w _ fun vs F1 H1 a1 h1 => ⟨by rw [← h1.length]; exact sz_of hz, fun p hp => q _ _ _ (a1.trans (Adv.new a1.fh hp)) ⟨p, vs, rfl, upd_same, h1.mono (Ex.new (fresh_back a1.fh hp))⟩⟩
theorem evp_tup {ta : TA} {P : List Dt → Prop} (h : EvAP K ta ρ P) (hz : ∀ ds, P ds → ds.length ≤ 100000) : EvP K (tTup ta) ρ (fun d => ∃ ds, d = .tup ds ∧ P ds) := fun F0 H0 F H σ w Q q =>
  h F0 H0 F H σ w _ fun vs ds F1 H1 a1 h1 hp => ⟨by rw [← h1.length]; exact sz_of (hz ds hp), fun p hpn => q (.ref p) (.tup ds) _ _ (a1.trans (Adv.new a1.fh hpn)) ⟨p, vs, rfl, upd_same, h1.mono (Ex.new (fresh_back a1.fh hpn))⟩ ⟨ds, rfl, hp⟩⟩
theorem evn_lst {ta : TA} (h : EvA K ta ρ ds) (hz : ds.length ≤ 100000 := by simp) : EvN K (tLst ta) ρ ds := fun F0 H0 F H σ w Q q =>
  h F0 H0 F H σ w _ fun vs F1 H1 a1 h1 => ⟨by rw [← h1.length]; exact sz_of hz, fun p hp => q p vs F1 _ (a1.trans (Adv.newM a1.fh hp)) (fresh_back a1.fh hp) (fresh_back a1.hh hp) upd_same h1⟩
/-! slices -/
def cut {α : Type} (xs : List α) (lo hi : Option Int) : List α := (xs.drop (HT.sIx xs.length 0 lo)).take (HT.sIx xs.length xs.length hi - HT.sIx xs.length 0 lo)
theorem IsDs.cut {F : Hp} {xs : List V} (h : IsDs K F ds xs) (lo hi : Option Int) : IsDs K F (cut ds lo hi) (cutV xs lo hi) := by
  unfold Dl.cut cutV
  rw [h.length]
  exact (h.drop _).take _
theorem eo_none : EvO K tNoPart ρ none := fun F0 H0 F H σ w Q q => q F H (Adv.refl w.adv.fh)
theorem eo_some {i : Int} (h : EvD K te ρ (.int i)) : EvO K (tPart te) ρ (some i) := fun F0 H0 F H σ w Q q => h F0 H0 F H σ w _ fun v F1 H1 a1 h1 => ⟨i, h1, q F1 H1 a1⟩
theorem evn_sl {tl th : TO} {lo hi : Option Int} (h : EvD K te ρ (.lst ds)) (h1 : EvO K tl ρ lo) (h2 : EvO K th ρ hi) : EvN K (tSl (rSlA2 K) te tl th) ρ (cut ds lo hi) := fun F0 H0 F H σ w Q q =>
  h F0 H0 F H σ w _ fun v F1 H1 a1 hv => h1 F0 H0 F1 H1 σ (w.go a1) _ fun F2 H2 a2 => h2 F0 H0 F2 H2 σ ((w.go a1).go a2) _ fun F3 H3 a3 => by
    obtain ⟨a, xs, rfl, hx, hxs⟩ := hv
    have a23 := a2.trans a3
    exact .inl ⟨a, xs, rfl, SqL.of (a23.fh _ _ (a23.ff _ _ hx)), fun p hp => q p _ F3 _ ((a1.trans a23).trans (Adv.newM a3.fh hp)) (fresh_back a3.fh hp) (fresh_back (a1.trans a23).hh hp) upd_same ((hxs.mono a23.ff).cut lo hi)⟩
theorem ev_slT {tl th : TO} {lo hi : Option Int} (h : EvD K te ρ (.tup ds)) (h1 : EvO K tl ρ lo) (h2 : EvO K th ρ hi) : EvD K (tSl (rSlA2 K) te tl th) ρ (.tup (cut ds lo hi)) := fun F0 H0 F H σ w Q q =>
  h F0 H0 F H σ w _ fun v F1 H1 a1 hv => h1 F0 H0 F1 H1 σ (w.go a1) _ fun F2 H2 a2 => h2 F0 H0 F2 H2 σ ((w.go a1).go a2) _ fun F3 H3 a3 => by
    obtain ⟨a, xs, rfl, hx, hxs⟩ := hv
    have a23 := a2.trans a3
    have hx3 := a23.ff _ _ hx
    refine .inr ⟨a, xs, rfl, SqT.of (a23.fh _ _ hx3), fun hw => ?_, fun _ p hp => ?_⟩
    · refine q _ F3 H3 (a1.trans a23) ⟨a, xs, rfl, hx3, ?_⟩
      have hc : cut ds lo hi = ds := by
        unfold cut
        rw [hxs.length, hw.1, hw.2]
        simp [← hxs.length]
      rw [hc]
      exact hxs.mono a23.ff
    · exact q _ _ _ ((a1.trans a23).trans (Adv.new a3.fh hp)) ⟨p, _, rfl, upd_same, ((hxs.mono a23.ff).cut lo hi).mono (Ex.new (fresh_back a3.fh hp))⟩
/-! calls of built-ins -/
theorem ev_cb {r : List V → Hp → VK → Prop} {ta : TA} (h : EvA K ta ρ ds) (hr : CbD K r ds z) : EvD K (tCB r ta) ρ z := fun F0 H0 F H σ w Q q =>
  h F0 H0 F H σ w _ fun vs F1 H1 a1 h1 => hr F1 H1 vs a1.fh h1 Q fun v F2 H2 a2 h2 => q v F2 H2 (a1.trans a2) h2
theorem evn_cb {r : List V → Hp → VK → Prop} {ta : TA} (h : EvA K ta ρ ds) (hr : CbN K r ds es) : EvN K (tCB r ta) ρ es := fun F0 H0 F H σ w Q q =>
  h F0 H0 F H σ w _ fun vs F1 H1 a1 h1 => hr F1 H1 vs a1.fh h1 Q fun p xs F2 H2 a2 f1 f2 f3 f4 => q p xs F2 H2 (a1.trans a2) f1 (fresh_back a1.hh f2) f3 f4
theorem evp_cb {r : List V → Hp → VK → Prop} {ta : TA} {A : List Dt → Prop} (h : EvAP K ta ρ A) (hr : ∀ ds, A ds → ∃ z, CbD K r ds z ∧ P z) : EvP K (tCB r ta) ρ P := fun F0 H0 F H σ w Q q =>
  h F0 H0 F H σ w _ fun vs ds F1 H1 a1 h1 p1 => by
    obtain ⟨z, hz, pz⟩ := hr ds p1
    exact hz F1 H1 vs a1.fh h1 Q fun v F2 H2 a2 h2 => q v z F2 H2 (a1.trans a2) h2 pz
theorem cb_lenT : CbD K (rLenS K) [.tup ds] (.int (ds.length : Nat)) := fun F H vs e h Q q => by
  obtain ⟨_, _, rfl, ⟨a, xs, rfl, hx, hxs⟩, rfl⟩ := h
  exact ⟨a, xs, rfl, .inr (SqT.of (e _ _ hx)), q _ F H (Adv.refl e) (by show V.int _ = V.int _; rw [hxs.length])⟩
theorem cb_lenL : CbD K (rLenS K) [.lst ds] (.int (ds.length : Nat)) := fun F H vs e h Q q => by
  obtain ⟨_, _, rfl, ⟨a, xs, rfl, hx, hxs⟩, rfl⟩ := h
  exact ⟨a, xs, rfl, .inl (SqL.of (e _ _ hx)), q _ F H (Adv.refl e) (by show V.int _ = V.int _; rw [hxs.length])⟩
theorem cb_lenTm {α : Type} {f : α → Dt} {xs : List α} : CbD K (rLenS K) [.tup (xs.map f)] (.int (xs.length : Nat)) := by
  have h := cb_lenT (K := K) (ds := xs.map f)
  rw [List.length_map] at h
  exact h
theorem cb_lenLm {α : Type} {f : α → Dt} {xs : List α} : CbD K (rLenS K) [.lst (xs.map f)] (.int (xs.length : Nat)) := by
  have h := cb_lenL (K := K) (ds := xs.map f)
  rw [List.length_map] at h
  exact h
theorem cb_lenS {ns : List Int} : CbD K (rLenS K) [.scr ns] (.int (ns.length : Nat)) := fun F H vs e h Q q => by
  obtain ⟨_, _, rfl, ⟨a, rfl, hx⟩, rfl⟩ := h
  exact ⟨a, _, rfl, .inl (ex_l e hx), q _ F H (Adv.refl e) (by show V.int _ = V.int _; rw [List.length_map])⟩
theorem cb_listL : CbN K (rListS K) [.lst ds] ds := fun F H vs e h Q q => by
  obtain ⟨_, _, rfl, ⟨a, xs, rfl, hx, hxs⟩, rfl⟩ := h
  exact ⟨a, xs, rfl, .inl (SqL.of (e _ _ hx)), fun p hp => q p _ F _ (Adv.newM e hp) (fresh_back e hp) hp upd_same hxs⟩
theorem cb_listT : CbN K (rListS K) [.tup ds] ds := fun F H vs e h Q q => by
  obtain ⟨_, _, rfl, ⟨a, xs, rfl, hx, hxs⟩, rfl⟩ := h
  exact ⟨a, xs, rfl, .inr (SqT.of (e _ _ hx)), fun p hp => q p _ F _ (Adv.newM e hp) (fresh_back e hp) hp upd_same hxs⟩
theorem cb_tupL : CbD K (rTupS K) [.lst ds] (.tup ds) := fun F H vs e h Q q => by
  obtain ⟨_, _, rfl, ⟨a, xs, rfl, hx, hxs⟩, rfl⟩ := h
  exact ⟨a, xs, rfl, .inl ⟨SqL.of (e _ _ hx), fun p hp => q _ _ _ (Adv.new e hp) ⟨p, _, rfl, upd_same, hxs.mono (Ex.new (fresh_back e hp))⟩⟩⟩
theorem cb_tupT : CbD K (rTupS K) [.tup ds] (.tup ds) := fun F H vs e h Q q => by
  obtain ⟨_, _, rfl, ⟨a, xs, rfl, hx, hxs⟩, rfl⟩ := h
  exact ⟨a, xs, rfl, .inr ⟨SqT.of (e _ _ hx), q _ F H (Adv.refl e) ⟨a, xs, rfl, hx, hxs⟩⟩⟩
theorem cb_sum {ns : List Int} : CbD K (rSum K) [.lst (ns.map .int)] (.int ns.sum) := fun F H vs e h Q q => by
  obtain ⟨_, _, rfl, ⟨a, xs, rfl, hx, hxs⟩, rfl⟩ := h
  cases hxs.ints
  exact ⟨a, ns, rfl, SqL.of (e _ _ hx), q _ F H (Adv.refl e) rfl⟩
theorem cb_all {bs : List Bool} : CbD K (rAll K) [.lst (bs.map .bl)] (.bl (bs.all id)) := fun F H vs e h Q q => by
  obtain ⟨_, _, rfl, ⟨a, xs, rfl, hx, hxs⟩, rfl⟩ := h
  cases hxs.bls
  exact ⟨a, bs, rfl, SqL.of (e _ _ hx), q _ F H (Adv.refl e) rfl⟩
theorem cb_any {bs : List Bool} : CbD K (rAny K) [.lst (bs.map .bl)] (.bl (bs.any id)) := fun F H vs e h Q q => by
  obtain ⟨_, _, rfl, ⟨a, xs, rfl, hx, hxs⟩, rfl⟩ := h
  cases hxs.bls
  exact ⟨a, bs, rfl, SqL.of (e _ _ hx), q _ F H (Adv.refl e) rfl⟩
theorem cb_abs {i : Int} : CbD K rAbs [.int i] (.int (if i < 0 then -i else i)) := fun F H vs e h Q q => by
  obtain ⟨_, _, rfl, rfl, rfl⟩ := h
  exact ⟨i, rfl, q _ F H (Adv.refl e) rfl⟩
theorem cb_max {i j : Int} : CbD K Dr.rMax2 [.int i, .int j] (.int (if j > i then j else i)) := fun F H vs e h Q q => by
  obtain ⟨_, _, rfl, rfl, _, _, rfl, rfl, rfl⟩ := h
  exact ⟨i, j, rfl, q _ F H (Adv.refl e) rfl⟩
theorem cb_min {i j : Int} : CbD K rMin2 [.int i, .int j] (.int (if j < i then j else i)) := fun F H vs e h Q q => by
  obtain ⟨_, _, rfl, rfl, _, _, rfl, rfl, rfl⟩ := h
  exact ⟨i, j, rfl, q _ F H (Adv.refl e) rfl⟩
theorem cb_intB {b : Bool} : CbD K rInt1 [.bl b] (.int (if b then 1 else 0)) := fun F H vs e h Q q => by
  obtain ⟨_, _, rfl, rfl, rfl⟩ := h
  exact .inr ⟨b, rfl, q _ F H (Adv.refl e) rfl⟩
/-! tests -/
theorem et_cmp {b : Bool} (h : EvD K te ρ (.bl b)) : EvT K (tTest te) ρ b := fun F0 H0 F H σ w Q q => h F0 H0 F H σ w _ fun v F1 H1 a1 h1 => ⟨b, h1, q F1 H1 a1⟩
theorem EvT.to {t : TT} {a b : Bool} (h : EvT K t ρ a) (e : a = b) : EvT K t ρ b := e ▸ h
theorem et_and {t u : TT} {a b : Bool} (h1 : EvT K t ρ a) (h2 : a = true → EvT K u ρ b) : EvT K (tAnd t u) ρ (a && b) := fun F0 H0 F H σ w Q q => h1 F0 H0 F H σ w _ fun F1 H1 a1 => by
  cases a with
  | true => exact h2 rfl F0 H0 F1 H1 σ (w.go a1) Q fun F2 H2 a2 => q F2 H2 (a1.trans a2)
  | false => exact q F1 H1 a1
theorem et_or {t u : TT} {a b : Bool} (h1 : EvT K t ρ a) (h2 : a = false → EvT K u ρ b) : EvT K (tOr t u) ρ (a || b) := fun F0 H0 F H σ w Q q => h1 F0 H0 F H σ w _ fun F1 H1 a1 => by
  cases a with
  | true => exact q F1 H1 a1
  | false => exact h2 rfl F0 H0 F1 H1 σ (w.go a1) Q fun F2 H2 a2 => q F2 H2 (a1.trans a2)
theorem et_not {t : TT} {a : Bool} (h1 : EvT K t ρ a) : EvT K (tNot t) ρ (!a) := fun F0 H0 F H σ w Q q => h1 F0 H0 F H σ w _ fun F1 H1 a1 => q F1 H1 a1
theorem et_yes : EvT K tYes ρ true := fun F0 H0 F H σ w Q q => q F H (Adv.refl w.adv.fh)
theorem et_trB {b : Bool} (h : EvD K te ρ (.bl b)) : EvT K (tTr K te) ρ b := fun F0 H0 F H σ w Q q => h F0 H0 F H σ w _ fun v F1 H1 a1 h1 => by
  cases (show v = .bl b from h1)
  exact ⟨b, rfl, q F1 H1 a1⟩
theorem isE {F : Hp} {xs : List V} (h : IsDs K F ds xs) : (!xs.isEmpty) = !ds.isEmpty := by
  have := h.length
  cases ds <;> cases xs <;> simp_all
theorem et_trT (h : EvD K te ρ (.tup ds)) : EvT K (tTr K te) ρ (!ds.isEmpty) := fun F0 H0 F H σ w Q q => h F0 H0 F H σ w _ fun v F1 H1 a1 h1 => by
  obtain ⟨a, xs, rfl, hx, hxs⟩ := h1
  exact ⟨_, .inr (.inl ⟨xs, SqT.of (a1.fh _ _ hx), (isE hxs).symm⟩), q F1 H1 a1⟩
theorem et_trL (h : EvD K te ρ (.lst ds)) : EvT K (tTr K te) ρ (!ds.isEmpty) := fun F0 H0 F H σ w Q q => h F0 H0 F H σ w _ fun v F1 H1 a1 h1 => by
  obtain ⟨a, xs, rfl, hx, hxs⟩ := h1
  exact ⟨_, .inl ⟨xs, SqL.of (a1.fh _ _ hx), (isE hxs).symm⟩, q F1 H1 a1⟩
theorem et_trS {ns : List Int} (h : EvD K te ρ (.scr ns)) : EvT K (tTr K te) ρ (!ns.isEmpty) := fun F0 H0 F H σ w Q q => h F0 H0 F H σ w _ fun v F1 H1 a1 h1 => by
  obtain ⟨a, rfl, hx⟩ := h1
  exact ⟨_, .inl ⟨_, ex_l a1.fh hx, by cases ns <;> rfl⟩, q F1 H1 a1⟩
theorem et_trM {i : Nat} (h : ρ[i]? = some (.mt ds)) : EvT K (tTr K (tVar i)) ρ (!ds.isEmpty) := fun F0 H0 F H σ w Q q => by
  obtain ⟨p, xs, e, h1, h2, h3, h4, _⟩ := w.mut (ds' := ds) h
  exact ⟨_, e, _, .inl ⟨xs, SqL.of h3, (isE h4).symm⟩, q F H (Adv.refl w.adv.fh)⟩
theorem et_trMs {i : Nat} {dss : List (List Dt)} (h : ρ[i]? = some (.mts dss)) : EvT K (tTr K (tVar i)) ρ (!dss.isEmpty) := fun F0 H0 F H σ w Q q => by
  obtain ⟨ow, hs⟩ := w.sl
  obtain ⟨p, bs, e, h1, h2, h3, h4, h5, h6, h7⟩ := hs i _ h
  refine ⟨_, e, _, .inl ⟨_, SqL.of h4, ?_⟩, q F H (Adv.refl w.adv.fh)⟩
  have := h7.length
  cases bs <;> cases dss <;> simp_all
theorem ev_and {a b : Bool} (h1 : EvD K ta ρ (.bl a)) (h2 : a = true → EvD K tb ρ (.bl b)) : EvD K (tAndV ta tb) ρ (.bl (a && b)) := fun F0 H0 F H σ w Q q => h1 F0 H0 F H σ w _ fun v F1 H1 a1 hv => ⟨a, hv, by
  cases a with
  | true => exact h2 rfl F0 H0 F1 H1 σ (w.go a1) Q fun v F2 H2 a2 h => q v F2 H2 (a1.trans a2) h
  | false => exact q _ F1 H1 a1 rfl⟩
/-! own lists read: what is told of them frozen holds, where the answer bears no list -/
theorem ev_peek {i : Nat} (h : ρ[i]? = some (.mt ds)) (hd : EvD K te (ρ.set i (.fz (.lst ds))) d) (im : d.imm = true) : EvD K te ρ d := fun F0 H0 F H σ w Q q => by
  obtain ⟨p, xs, e, h1, h2, w'⟩ := w.freeze h
  refine hd F0 H0 _ H σ w' Q fun v F1 H1 a1 hv => ?_
  have hp1 : F1 p = some (.lst xs) := a1.ff _ _ upd_same
  refine q v (del F1 p) H1 ⟨fun b u hb => ?_, fun b u hb => ?_, a1.hh, fun b hb1 hb2 => ?_⟩ (hv.del (fun xs' q => by rw [hp1] at q; cases q) im)
  · have hne : b ≠ p := ne_of_none hb h1
    rw [del_ne hne]
    exact a1.ff _ _ (by rw [upd_ne hne]; exact hb)
  · by_cases hbp : b = p
    · subst hbp; rw [del_same] at hb; cases hb
    · rw [del_ne hbp] at hb; exact a1.fh _ _ hb
  · by_cases hbp : b = p
    · subst hbp; exact absurd del_same hb2
    · rw [del_ne hbp] at hb2; exact a1.nw b (by rw [upd_ne hbp]; exact hb1) hb2
theorem evn_peek {i : Nat} (h : ρ[i]? = some (.mt ds)) (hd : EvN K te (ρ.set i (.fz (.lst ds))) es) (im : immL es = true) : EvN K te ρ es := fun F0 H0 F H σ w Q q => by
  obtain ⟨p, xs, e, h1, h2, w'⟩ := w.freeze h
  refine hd F0 H0 _ H σ w' Q fun r ys F1 H1 a1 f1 f2 f3 f4 => ?_
  have hp1 : F1 p = some (.lst xs) := a1.ff _ _ upd_same
  refine q r ys (del F1 p) H1 ⟨fun b u hb => ?_, fun b u hb => ?_, a1.hh, fun b hb1 hb2 => ?_⟩ ?_ f2 f3 (f4.del (fun xs' q => by rw [hp1] at q; cases q) im)
  · have hne : b ≠ p := ne_of_none hb h1
    rw [del_ne hne]
    exact a1.ff _ _ (by rw [upd_ne hne]; exact hb)
  · by_cases hbp : b = p
    · subst hbp; rw [del_same] at hb; cases hb
    · rw [del_ne hbp] at hb; exact a1.fh _ _ hb
  · by_cases hbp : b = p
    · subst hbp; exact absurd del_same hb2
    · rw [del_ne hbp] at hb2; exact a1.nw b (by rw [upd_ne hbp]; exact hb1) hb2
  · by_cases hrp : r = p
    · subst hrp; exact del_same
    · rw [del_ne hrp]; exact f1
theorem EvD.t_of {b : Bool} (h : EvD K te ρ (.bl b)) : EvT K (tTr K te) ρ b := et_trB h
/-! calls of the text's own defs -/
def spX {α : Type} (K : PySem.W.Frag) (enc : α → List Dt) (Pre : α → Prop) (Post : α → Dt → Prop) : Sp := fun vs H Q _ =>
  ∃ F x, Ex F H ∧ IsDs K F (enc x) vs ∧ Pre x ∧ ∀ v d F' H', Adv F H F' H' → IsD K F' d v → Post x d → Q v H'
theorem evp_call {α : Type} {enc : α → List Dt} {Pre : α → Prop} {Post : α → Dt → Prop} {E : XK} {ta : TA} (x : α) (h : EvA K ta ρ (enc x)) (hp : Pre x) : EvP K (tCall (spX K enc Pre Post) [] E ta) ρ (Post x) := fun F0 H0 F H σ w Q q =>
  h F0 H0 F H σ w _ fun vs F1 H1 a1 h1 => ⟨F1, x, a1.fh, by rw [List.append_nil]; exact h1, hp, fun v d F2 H2 a2 h2 p2 => q v d F2 H2 (a1.trans a2) h2 p2⟩
theorem evp_callP {α : Type} {enc : α → List Dt} {Pre : α → Prop} {Post : α → Dt → Prop} {E : XK} {ta : TA} {A : List Dt → Prop} (h : EvAP K ta ρ A) (hp : ∀ ds, A ds → ∃ x, ds = enc x ∧ Pre x ∧ ∀ d, Post x d → P d) : EvP K (tCall (spX K enc Pre Post) [] E ta) ρ P := fun F0 H0 F H σ w Q q =>
  h F0 H0 F H σ w _ fun vs ds F1 H1 a1 h1 p1 => by
    obtain ⟨x, rfl, hx, hP⟩ := hp ds p1
    exact ⟨F1, x, a1.fh, by rw [List.append_nil]; exact h1, hx, fun v d F2 H2 a2 h2 p2 => q v d F2 H2 (a1.trans a2) h2 (hP d p2)⟩
theorem ev_call {α : Type} {enc : α → List Dt} {Pre : α → Prop} {f : α → Dt} {E : XK} {ta : TA} (x : α) (h : EvA K ta ρ (enc x)) (hp : Pre x) : EvD K (tCall (spX K enc Pre (fun x d => d = f x)) [] E ta) ρ (f x) :=
  (evp_call (Post := fun x d => d = f x) x h hp).det

/-! ### targets -/
def EvG (K : PySem.W.Frag) (g : TG) (d : Dt) (js : List Nat) (ρ ρ' : List Sl) : Prop := ∀ F0 H0 F H σ x, W K F0 H0 F H σ ρ → IsD K F d x → ∀ R : L2.St → Hp → Prop,
  (∀ σ', W K F0 H0 F H σ' ρ' → (∀ k, k ∉ js → σ'[k]? = σ[k]?) → σ'.length = σ.length → R σ' H) → g x σ H R
def EvGs (K : PySem.W.Frag) (g : TGs) (ds : List Dt) (js : List Nat) (ρ ρ' : List Sl) : Prop := ∀ F0 H0 F H σ xs, W K F0 H0 F H σ ρ → IsDs K F ds xs → ∀ R : L2.St → Hp → Prop,
  (∀ σ', W K F0 H0 F H σ' ρ' → (∀ k, k ∉ js → σ'[k]? = σ[k]?) → σ'.length = σ.length → R σ' H) → g xs σ H R
theorem g_name {j : Nat} : EvG K (gName j) d [j] ρ (ρ.set j (.fz d)) := fun F0 H0 F H σ x w h R r =>
  r _ (w.set j h) (fun k hk => List.getElem?_set_ne (fun q => hk (by simp [q]))) (List.length_set ..)
theorem g_tup {n : Nat} {t : TGs} {js : List Nat} {ρ' : List Sl} (h : EvGs K t ds js ρ ρ') (hn : ds.length = n := by rfl) : EvG K (gTup K n t) (.tup ds) js ρ ρ' := fun F0 H0 F H σ x w hx R r => by
  obtain ⟨a, xs, rfl, ha, hxs⟩ := hx
  exact ⟨a, xs, rfl, SqT.of (w.adv.fh _ _ ha), by rw [← hxs.length]; exact hn, h F0 H0 F H σ xs w hxs R r⟩
theorem gs_nil : EvGs K gNil [] [] ρ ρ := fun F0 H0 F H σ xs w h R r => ⟨h, r σ w (fun _ _ => rfl) rfl⟩
theorem gs_cons {t : TG} {u : TGs} {js ks : List Nat} {ρ1 ρ' : List Sl} (h1 : EvG K t d js ρ ρ1) (h2 : EvGs K u ds ks ρ1 ρ') : EvGs K (gCons t u) (d :: ds) (js ++ ks) ρ ρ' := fun F0 H0 F H σ xs w h R r => by
  obtain ⟨y, ys, rfl, hy, hys⟩ := h
  refine ⟨y, ys, rfl, h1 F0 H0 F H σ y w hy _ fun σ1 w1 e1 l1 => h2 F0 H0 F H σ1 ys w1 hys R fun σ2 w2 e2 l2 => r σ2 w2 (fun k hk => ?_) (l2.trans l1)⟩
  rw [List.mem_append, not_or] at hk
  exact (e2 k hk.2).trans (e1 k hk.1)

/-! ### sources -/
structure ItD (K : PySem.W.Frag) (J : It) (F1 : Hp) (ds : List Dt) : Prop where
  go : ∀ i F H, Ex F1 F → Ex F H → i < ds.length → J.go i H
  stop : ∀ F H, Ex F1 F → Ex F H → J.stop ds.length H
  yld : ∀ i F H x H', i < ds.length → Ex F1 F → Ex F H → J.yld i H x H' → ∃ d F', ds[i]? = some d ∧ Adv F H F' H' ∧ IsD K F' d x
def EvI (K : PySem.W.Frag) (wi : TI) (ρ : List Sl) (ds : List Dt) : Prop := ∀ F0 H0 F H σ, W K F0 H0 F H σ ρ → ∀ R : It → Hp → Prop, (∀ J F' H', Adv F H F' H' → ItD K J F' ds → R J H') → wi σ H R
def EvIP (K : PySem.W.Frag) (wi : TI) (ρ : List Sl) (P : List Dt → Prop) : Prop := ∀ F0 H0 F H σ, W K F0 H0 F H σ ρ → ∀ R : It → Hp → Prop, (∀ J ds F' H', Adv F H F' H' → ItD K J F' ds → P ds → R J H') → wi σ H R
theorem EvI.p {wi : TI} {P : List Dt → Prop} (h : EvI K wi ρ ds) (hp : P ds) : EvIP K wi ρ P := fun F0 H0 F H σ w R r => h F0 H0 F H σ w R fun J F' H' a i => r J ds F' H' a i hp
/-- the items of a list or tuple -/
def items : Dt → Option (List Dt)
  | .tup ds => some ds
  | .lst ds => some ds
  | _ => none
theorem sq_items {F : Hp} {v : V} (h : IsD K F x v) (hi : items x = some ds) : ∃ a k xs, v = .ref a ∧ (∀ H, Ex F H → SqK K k H a xs) ∧ IsDs K F ds xs ∧ (∀ H ys, Ex F H → SqK K k H a ys → (F a = some (.lst xs) ∨ F a = some (.tup xs))) := by
  cases x with
  | tup es =>
    cases hi
    obtain ⟨a, xs, rfl, ha, hxs⟩ := h
    exact ⟨a, false, xs, rfl, fun H e => SqT.of (e _ _ ha), hxs, fun H ys e _ => .inr ha⟩
  | lst es =>
    cases hi
    obtain ⟨a, xs, rfl, ha, hxs⟩ := h
    exact ⟨a, true, xs, rfl, fun H e => SqL.of (e _ _ ha), hxs, fun H ys e _ => .inl ha⟩
  | _ => cases hi
theorem itd_seq {F1 : Hp} {a : Addr} {k : Bool} {xs : List V} (hq : ∀ H, Ex F1 H → SqK K k H a xs) (hxs : IsDs K F1 ds xs) : ItD K (Its1 K k a) F1 ds := by
  have l := hxs.length
  cases k with
  | true =>
    refine ⟨fun i F H e1 e2 hi => ⟨xs, xs[i]'(by omega), hq H (e1.trans e2), List.getElem?_eq_getElem (by omega)⟩, fun F H e1 e2 => ⟨xs, hq H (e1.trans e2), by omega⟩, fun i F H x H' hi e1 e2 y => ?_⟩
    obtain ⟨rfl, hx⟩ := y
    obtain ⟨d, h1, h2⟩ := hxs.get' (hx xs (hq _ (e1.trans e2)))
    exact ⟨d, F, h1, Adv.refl e2, h2.mono e1⟩
  | false =>
    refine ⟨fun i F H e1 e2 hi => ⟨xs, xs[i]'(by omega), hq H (e1.trans e2), List.getElem?_eq_getElem (by omega)⟩, fun F H e1 e2 => ⟨xs, hq H (e1.trans e2), by omega⟩, fun i F H x H' hi e1 e2 y => ?_⟩
    obtain ⟨rfl, hx⟩ := y
    obtain ⟨d, h1, h2⟩ := hxs.get' (hx xs (hq _ (e1.trans e2)))
    exact ⟨d, F, h1, Adv.refl e2, h2.mono e1⟩
theorem ei_seq {tl : TE} (h : EvD K tl ρ x) (hi : items x = some ds := by rfl) : EvI K (iSeq K tl) ρ ds := fun F0 H0 F H σ w R r => h F0 H0 F H σ w _ fun v F1 H1 a1 h1 => by
  obtain ⟨a, k, xs, rfl, hq, hxs, _⟩ := sq_items h1 hi
  exact ⟨a, k, xs, rfl, hq H1 a1.fh, r _ F1 H1 a1 (itd_seq hq hxs)⟩
theorem eip_seq {tl : TE} {P : Dt → Prop} (h : EvP K tl ρ P) (hi : ∀ x, P x → ∃ ds, items x = some ds) : EvIP K (iSeq K tl) ρ (fun ds => ∃ x, P x ∧ items x = some ds) := fun F0 H0 F H σ w R r => h F0 H0 F H σ w _ fun v x F1 H1 a1 h1 p1 => by
  obtain ⟨ds, hd⟩ := hi x p1
  obtain ⟨a, k, xs, rfl, hq, hxs, _⟩ := sq_items h1 hd
  exact ⟨a, k, xs, rfl, hq H1 a1.fh, r _ ds F1 H1 a1 (itd_seq hq hxs) ⟨x, p1, hd⟩⟩
def rangeD (lo : Int) (n : Nat) : List Dt := (List.range n).map fun i => .int (lo + (i : Nat))
theorem rangeD_len (lo : Int) (n : Nat) : (rangeD lo n).length = n := by unfold rangeD; simp
theorem rangeD_get {lo : Int} {n i : Nat} {d : Dt} (h : (rangeD lo n)[i]? = some d) : i < n ∧ d = .int (lo + (i : Nat)) := by
  unfold rangeD at h
  rw [List.getElem?_map] at h
  cases q : (List.range n)[i]? with
  | none => rw [q] at h; cases h
  | some j =>
    rw [q] at h
    obtain ⟨hi, e⟩ := List.getElem?_eq_some_iff.mp q
    rw [List.getElem_range] at e
    subst e
    exact ⟨by simpa using hi, (Option.some.inj h).symm⟩
theorem itd_range {F1 : Hp} {lo : Int} {n : Nat} : ItD K (Itr lo n) F1 (rangeD lo n) := by
  have l := rangeD_len lo n
  refine ⟨fun i F H _ _ hi => by rw [l] at hi; exact hi, fun F H _ _ => by rw [l]; exact Nat.le_refl n, fun i F H x H' hi _ e2 y => ?_⟩
  obtain ⟨rfl, rfl⟩ := y
  rw [l] at hi
  refine ⟨.int (lo + (i : Nat)), F, ?_, Adv.refl e2, rfl⟩
  unfold rangeD
  rw [List.getElem?_map, List.getElem?_range hi]
  rfl
theorem ei_range1 {ta : TA} {n : Int} (h : EvA K ta ρ [.int n]) (hn : -100000 ≤ n ∧ n ≤ 100000) : EvI K (iRng1 ta) ρ (rangeD 0 n.toNat) := fun F0 H0 F H σ w R r => h F0 H0 F H σ w _ fun vs F1 H1 a1 h1 => by
  obtain ⟨_, _, rfl, rfl, rfl⟩ := h1
  exact ⟨n, rfl, by omega, by omega, r _ F1 H1 a1 itd_range⟩
theorem ei_range2 {ta : TA} {lo n : Int} (h : EvA K ta ρ [.int lo, .int n]) (hn : -100000 ≤ n ∧ n ≤ 100000 ∧ -100000 ≤ lo ∧ lo ≤ 100000) : EvI K (iRng2 ta) ρ (rangeD lo (n - lo).toNat) := fun F0 H0 F H σ w R r => h F0 H0 F H σ w _ fun vs F1 H1 a1 h1 => by
  obtain ⟨_, _, rfl, rfl, _, _, rfl, rfl, rfl⟩ := h1
  exact ⟨lo, n, rfl, by omega, r _ F1 H1 a1 itd_range⟩
def enumD (ds : List Dt) : List Dt := ds.mapIdx fun i d => .tup [.int (i : Nat), d]
theorem enumD_len (ds : List Dt) : (enumD ds).length = ds.length := by unfold enumD; simp
theorem enumD_get {ds : List Dt} {i : Nat} {e : Dt} (h : (enumD ds)[i]? = some e) : ∃ d, ds[i]? = some d ∧ e = .tup [.int (i : Nat), d] := by
  unfold enumD at h
  rw [List.getElem?_mapIdx] at h
  cases q : ds[i]? with
  | none => rw [q] at h; cases h
  | some d => rw [q] at h; exact ⟨d, rfl, (Option.some.inj h).symm⟩
theorem itd_enum {F1 : Hp} {a : Addr} {k : Bool} {xs : List V} (hq : ∀ H, Ex F1 H → SqK K k H a xs) (hxs : IsDs K F1 ds xs) (hone : ∀ H ys, Ex F1 H → SqK K k H a ys → True) : ItD K (IteK K k a) F1 (enumD ds) := by
  have l := hxs.length
  have le := enumD_len ds
  refine ⟨fun i F H e1 e2 hi => ⟨xs, xs[i]'(by omega), hq H (e1.trans e2), List.getElem?_eq_getElem (by omega)⟩, fun F H e1 e2 => ⟨xs, hq H (e1.trans e2), by omega⟩, fun i F H x H' hi e1 e2 y => ?_⟩
  obtain ⟨T, y, rfl, hT, rfl, hx⟩ := y
  obtain ⟨d, h1, h2⟩ := hxs.get' (hx xs (hq _ (e1.trans e2)))
  refine ⟨.tup [.int (i : Nat), d], upd F T (.tup [.int (i : Nat), y]), ?_, Adv.new e2 hT, ⟨T, _, rfl, upd_same, ⟨_, _, rfl, rfl, _, _, rfl, h2.mono (e1.trans (Ex.new (fresh_back e2 hT))), rfl⟩⟩⟩
  unfold enumD
  rw [List.getElem?_mapIdx, h1]
  rfl
theorem ei_enum {ta : TA} (h : EvA K ta ρ [x]) (hi : items x = some ds := by rfl) : EvI K (iEnumK K ta) ρ (enumD ds) := fun F0 H0 F H σ w R r => h F0 H0 F H σ w _ fun vs F1 H1 a1 h1 => by
  obtain ⟨v, _, rfl, h1, rfl⟩ := h1
  obtain ⟨a, k, xs, rfl, hq, hxs, _⟩ := sq_items h1 hi
  exact ⟨a, k, xs, rfl, hq H1 a1.fh, r _ F1 H1 a1 (itd_enum hq hxs fun _ _ _ _ => trivial)⟩
theorem eip_enum {ta : TA} {P : List Dt → Prop} (h : EvAP K ta ρ P) (hi : ∀ xs, P xs → ∃ x ds, xs = [x] ∧ items x = some ds) : EvIP K (iEnumK K ta) ρ (fun es => ∃ x ds, P [x] ∧ items x = some ds ∧ es = enumD ds) := fun F0 H0 F H σ w R r => h F0 H0 F H σ w _ fun vs xs F1 H1 a1 h1 p1 => by
  obtain ⟨x, ds, rfl, hd⟩ := hi xs p1
  obtain ⟨v, _, rfl, h1, rfl⟩ := h1
  obtain ⟨a, k, xs, rfl, hq, hxs, _⟩ := sq_items h1 hd
  exact ⟨a, k, xs, rfl, hq H1 a1.fh, r _ _ F1 H1 a1 (itd_enum hq hxs fun _ _ _ _ => trivial) ⟨x, ds, p1, hd, rfl⟩⟩
def zipD (ds es : List Dt) : List Dt := List.zipWith (fun d e => .tup [d, e]) ds es
theorem zipD_len (ds es : List Dt) : (zipD ds es).length = min ds.length es.length := by unfold zipD; simp
theorem zipD_get {ds es : List Dt} {i : Nat} {t : Dt} (h : (zipD ds es)[i]? = some t) : ∃ d e, ds[i]? = some d ∧ es[i]? = some e ∧ t = .tup [d, e] := by
  unfold zipD at h
  rw [List.getElem?_zipWith] at h
  cases q : ds[i]? with
  | none => rw [q] at h; cases h
  | some d =>
    cases q' : es[i]? with
    | none => rw [q, q'] at h; cases h
    | some e => rw [q, q'] at h; exact ⟨d, e, rfl, rfl, (Option.some.inj h).symm⟩
theorem ei_zip {ta : TA} (h : EvA K ta ρ [x, y]) (hl : ds.length = es.length) (hi : items x = some ds := by rfl) (hj : items y = some es := by rfl) : EvI K (iZipK K ta) ρ (zipD ds es) := fun F0 H0 F H σ w R r => h F0 H0 F H σ w _ fun vs F1 H1 a1 h1 => by
  obtain ⟨v, _, rfl, h1, v2, _, rfl, h2, rfl⟩ := h1
  obtain ⟨a, k, xs, rfl, hq, hxs, _⟩ := sq_items h1 hi
  obtain ⟨b, k', ys, rfl, hq', hys, _⟩ := sq_items h2 hj
  have l1 := hxs.length
  have l2 := hys.length
  have lz := zipD_len ds es
  refine ⟨a, b, k, k', xs, ys, rfl, hq H1 a1.fh, hq' H1 a1.fh, r _ F1 H1 a1 ⟨fun i F H e1 e2 hi => ?_, fun F H e1 e2 => ?_, fun i F H x H' hi e1 e2 y => ?_⟩⟩
  · exact ⟨xs, ys, xs[i]'(by omega), ys[i]'(by omega), hq H (e1.trans e2), hq' H (e1.trans e2), List.getElem?_eq_getElem (by omega), List.getElem?_eq_getElem (by omega)⟩
  · exact ⟨xs, ys, hq H (e1.trans e2), hq' H (e1.trans e2), by omega, by omega, by omega⟩
  · obtain ⟨T, u1, u2, rfl, hT, rfl, hx1, hx2⟩ := y
    obtain ⟨d1, h1, h2⟩ := hxs.get' (hx1 xs (hq _ (e1.trans e2)))
    obtain ⟨d2, h3, h4⟩ := hys.get' (hx2 ys (hq' _ (e1.trans e2)))
    have ee := e1.trans (Ex.new (o := .tup [u1, u2]) (fresh_back e2 hT))
    refine ⟨.tup [d1, d2], upd F T (.tup [u1, u2]), ?_, Adv.new e2 hT, ⟨T, _, rfl, upd_same, ⟨_, _, rfl, h2.mono ee, _, _, rfl, h4.mono ee, rfl⟩⟩⟩
    unfold zipD
    rw [List.getElem?_zipWith, h1, h3]
/-- zip of any two lengths -/
theorem ei_zipA {ta : TA} (h : EvA K ta ρ [x, y]) (hi : items x = some ds := by rfl) (hj : items y = some es := by rfl) : EvI K (iZipK K ta) ρ (zipD ds es) := fun F0 H0 F H σ w R r => h F0 H0 F H σ w _ fun vs F1 H1 a1 h1 => by
  obtain ⟨v, _, rfl, h1, v2, _, rfl, h2, rfl⟩ := h1
  obtain ⟨a, k, xs, rfl, hq, hxs, _⟩ := sq_items h1 hi
  obtain ⟨b, k', ys, rfl, hq', hys, _⟩ := sq_items h2 hj
  have l1 := hxs.length
  have l2 := hys.length
  have lz := zipD_len ds es
  refine ⟨a, b, k, k', xs, ys, rfl, hq H1 a1.fh, hq' H1 a1.fh, r _ F1 H1 a1 ⟨fun i F H e1 e2 hi => ?_, fun F H e1 e2 => ?_, fun i F H x H' hi e1 e2 y => ?_⟩⟩
  · exact ⟨xs, ys, xs[i]'(by omega), ys[i]'(by omega), hq H (e1.trans e2), hq' H (e1.trans e2), List.getElem?_eq_getElem (by omega), List.getElem?_eq_getElem (by omega)⟩
  · exact ⟨xs, ys, hq H (e1.trans e2), hq' H (e1.trans e2), by omega, by omega, by omega⟩
  · obtain ⟨T, u1, u2, rfl, hT, rfl, hx1, hx2⟩ := y
    obtain ⟨d1, h1, h2⟩ := hxs.get' (hx1 xs (hq _ (e1.trans e2)))
    obtain ⟨d2, h3, h4⟩ := hys.get' (hx2 ys (hq' _ (e1.trans e2)))
    have ee := e1.trans (Ex.new (o := .tup [u1, u2]) (fresh_back e2 hT))
    refine ⟨.tup [d1, d2], upd F T (.tup [u1, u2]), ?_, Adv.new e2 hT, ⟨T, _, rfl, upd_same, ⟨_, _, rfl, h2.mono ee, _, _, rfl, h4.mono ee, rfl⟩⟩⟩
    unfold zipD
    rw [List.getElem?_zipWith, h1, h3]

/-! ### comprehensions -/
def wipeS (ρ : List Sl) : List Nat → List Sl
  | [] => ρ
  | v :: vs => (wipeS ρ vs).set v .no
theorem wipeS_len (ρ : List Sl) : ∀ vs : List Nat, (wipeS ρ vs).length = ρ.length
  | [] => rfl
  | v :: vs => by unfold wipeS; rw [List.length_set, wipeS_len ρ vs]
theorem wipeS_get {s : Sl} {i : Nat} : ∀ {vs : List Nat}, (wipeS ρ vs)[i]? = some s → s = .no ∨ (ρ[i]? = some s ∧ i ∉ vs)
  | [], h => .inr ⟨h, by simp⟩
  | v :: vs, h => by
    unfold wipeS at h
    by_cases hv : v = i
    · subst hv
      by_cases hl : v < (wipeS ρ vs).length
      · rw [List.getElem?_set_self hl] at h; cases h; exact .inl rfl
      · rw [List.getElem?_eq_none (by simpa using hl)] at h; cases h
    · rw [List.getElem?_set_ne hv] at h
      rcases wipeS_get h with h | ⟨h1, h2⟩
      · exact .inl h
      · exact .inr ⟨h1, by simp only [List.mem_cons, not_or]; exact ⟨fun e => hv e.symm, h2⟩⟩
theorem wipe_in {σ : L2.St} {i : Nat} : ∀ {vs : List Nat}, i ∈ vs → i < σ.length → (wipe σ vs)[i]? = some none
  | v :: vs, h, hl => by
    unfold wipe
    by_cases hv : v = i
    · subst hv
      exact List.getElem?_set_self (by rw [wipe_length]; exact hl)
    · rw [List.getElem?_set_ne hv]
      exact wipe_in ((List.mem_cons.mp h).resolve_left fun e => hv e.symm) hl
theorem wipe_eq {σ σ' : L2.St} {vs js : List Nat} (h : ∀ k, k ∉ js → σ'[k]? = (wipe σ vs)[k]?) (hl : σ'.length = (wipe σ vs).length) (hj : ∀ j ∈ js, j ∈ vs) : wipe σ' vs = wipe σ vs := by
  rw [wipe_length] at hl
  refine List.ext_getElem? fun k => ?_
  by_cases hk : k ∈ vs
  · by_cases hkl : k < σ.length
    · rw [wipe_in hk hkl, wipe_in hk (by omega)]
    · rw [List.getElem?_eq_none (by rw [wipe_length]; omega), List.getElem?_eq_none (by rw [wipe_length]; omega)]
  · rw [wipe_out hk, h k fun q => hk (hj k q)]
theorem W.wipe {F0 H0 F H : Hp} {σ : L2.St} (w : W K F0 H0 F H σ ρ) (vs : List Nat) : W K F0 H0 F H (wipe σ vs) (wipeS ρ vs) := by
  obtain ⟨ow, hs⟩ := w.sl
  refine ⟨w.adv, by rw [wipe_length, wipeS_len, w.len], ow, fun i s hi => ?_⟩
  rcases wipeS_get hi with rfl | ⟨h1, h2⟩
  · trivial
  · rw [wipe_out h2]
    exact hs i s h1
theorem evnp_lc {wi : TI} {g : TG} {tt : TT} {te : TE} {vs : List Nat} {Src : List Dt → Prop} {R : List Dt → Prop} (hi : EvIP K wi ρ Src)
    (h : ∀ ds, Src ds → ds.length ≤ 100000 ∧ ∃ Inv : Nat → List Dt → Prop, Inv 0 [] ∧ (∀ i d acc, ds[i]? = some d → Inv i acc → ∃ js ρ', EvG K g d js (wipeS ρ vs) ρ' ∧ (∀ j ∈ js, j ∈ vs) ∧
      ((EvT K tt ρ' true ∧ EvP K te ρ' fun r => Inv (i + 1) (acc ++ [r])) ∨ (EvT K tt ρ' false ∧ Inv (i + 1) acc))) ∧ ∀ acc, Inv ds.length acc → R acc) : EvNP K (tLc wi g tt te vs) ρ R := fun F0 H0 F H σ w Q q =>
  hi F0 H0 F H σ w _ fun J ds F1 H1 a1 it src Dl hDl => by
    obtain ⟨hz, Inv, h0, hs, hR⟩ := h ds src
    have w1 := w.go a1
    refine ⟨fun i m H' => m = ds.length - i ∧ i ≤ ds.length ∧ ∃ F' acc xs, Adv F1 H1 F' H' ∧ F' Dl = none ∧ H' Dl = some (.lst xs) ∧ IsDs K F' acc xs ∧ acc.length ≤ i ∧ Inv i acc,
      ⟨ds.length, rfl, Nat.zero_le _, F1, [], [], Adv.newM a1.fh hDl, fresh_back a1.fh hDl, upd_same, rfl, Nat.le_refl _, h0⟩, ?_⟩
    rintro i m H' ⟨rfl, hil, F', acc, xs, a2, f1, f2, f3, f4, f5⟩
    by_cases hlt : i < ds.length
    · refine .inr ⟨it.go i F' H' a2.ff a2.fh hlt, fun H'' => ∃ F'' acc xs, Adv F1 H1 F'' H'' ∧ F'' Dl = none ∧ H'' Dl = some (.lst xs) ∧ IsDs K F'' acc xs ∧ acc.length ≤ i + 1 ∧ Inv (i + 1) acc,
        fun H'' hN => ⟨ds.length - (i + 1), by omega, rfl, hlt, hN⟩, fun x H2 y => ?_⟩
      obtain ⟨d, F2, hd, a3, hx⟩ := it.yld i F' H' x H2 hlt a2.ff a2.fh y
      obtain ⟨js, ρ', hg, hjs, hh⟩ := hs i d acc hd f5
      refine hg F0 H0 F2 H2 _ x (((w1.wipe vs).go a2).go a3) hx _ fun σ2 w2 e2 l2 => ⟨wipe_eq e2 l2 hjs, ?_⟩
      have g2 : F2 Dl = none := a3.stays f1 f2
      rcases hh with ⟨ht, he⟩ | ⟨ht, hv⟩
      · refine ht F0 H0 F2 H2 σ2 w2 _ fun F3 H3 a4 => ?_
        show te σ2 H3 _
        refine he F0 H0 F3 H3 σ2 (w2.go a4) _ fun v r F4 H4 a5 hr hin => ?_
        have a345 := (a3.trans a4).trans a5
        refine ⟨xs, a345.hh _ _ f2, by have := f3.length; exact sz_lt (by omega), F4, acc ++ [r], xs ++ [v], (a2.trans a345).mut (a345.stays f1 f2) hDl, a345.stays f1 f2, upd_same, (f3.mono a345.ff).append (IsDs.one hr), by simp; omega, hin⟩
      · refine ht F0 H0 F2 H2 σ2 w2 _ fun F3 H3 a4 => ?_
        have a34 := a3.trans a4
        exact ⟨F3, acc, xs, a2.trans a34, a34.stays f1 f2, a34.hh _ _ f2, f3.mono a34.ff, by omega, hv⟩
    · have e : i = ds.length := by omega
      subst e
      exact .inl ⟨it.stop F' H' a2.ff a2.fh, q Dl xs acc F' H' (a1.trans a2) f1 (fresh_back a1.hh hDl) f2 f3 (hR acc f5)⟩
/-- every item gives one -/
theorem evn_lc {wi : TI} {g : TG} {te : TE} {vs : List Nat} (f : Nat → Dt → Dt) (hi : EvI K wi ρ ds) (hz : ds.length ≤ 100000) (h : ∀ i d, ds[i]? = some d → ∃ js ρ', EvG K g d js (wipeS ρ vs) ρ' ∧ (∀ j ∈ js, j ∈ vs) ∧ EvD K te ρ' (f i d)) :
    EvN K (tLc wi g tYes te vs) ρ (ds.mapIdx f) := fun F0 H0 F H σ w Q q => by
  have key : EvNP K (tLc wi g tYes te vs) ρ (fun es => es = ds.mapIdx f) := evnp_lc (Src := fun es => es = ds) (hi.p rfl) fun es e => by
    subst e
    refine ⟨hz, fun i acc => acc = (es.mapIdx f).take i, by simp, fun i d acc hd hacc => ?_, fun acc hacc => ?_⟩
    · obtain ⟨js, ρ', h1, h2, h3⟩ := h i d hd
      refine ⟨js, ρ', h1, h2, .inl ⟨et_yes, h3.p ?_⟩⟩
      show acc ++ [f i d] = (es.mapIdx f).take (i + 1)
      rw [show acc = (es.mapIdx f).take i from hacc, List.take_add_one, List.getElem?_mapIdx, hd]
      rfl
    · rw [show acc = (es.mapIdx f).take es.length from hacc]
      exact List.take_of_length_le (by simp)
  exact key F0 H0 F H σ w Q fun p xs es F' H' a f1 f2 f3 f4 e => q p xs F' H' a f1 f2 f3 (e ▸ f4)
end
end Dl
/-! DS: statements by data. -/
namespace Dl
open PySem L2 Dr Evl

/-- what is wanted behind a statement, by data -/
structure DE where
  nx : List Sl → Prop
  rt : Dt → Prop
  bk : List Sl → Prop := fun _ => False
  ct : List Sl → Prop := fun _ => False
structure Real (K : PySem.W.Frag) (F0 H0 F : Hp) (D : Ends) (E : DE) : Prop where
  nx : ∀ F' H' σ ρ, Ex F F' → W K F0 H0 F' H' σ ρ → E.nx ρ → D.nx σ H'
  rt : ∀ F' H' v d, Adv F0 H0 F' H' → IsD K F' d v → E.rt d → D.rt v H'
  bk : ∀ F' H' σ ρ, Ex F F' → W K F0 H0 F' H' σ ρ → E.bk ρ → D.bk σ H'
  ct : ∀ F' H' σ ρ, Ex F F' → W K F0 H0 F' H' σ ρ → E.ct ρ → D.ct σ H'
def Do (K : PySem.W.Frag) (t : TS) (ρ : List Sl) (E : DE) : Prop := ∀ F0 H0 F H σ (D : Ends), Real K F0 H0 F D E → W K F0 H0 F H σ ρ → t D σ H
section
variable {K : PySem.W.Frag} {ρ : List Sl} {ta tb te : TE} {d x y z : Dt} {ds es : List Dt} {P : Dt → Prop} {E : DE} {t u : TS} {tt : TT} {g : TG}
theorem Real.mono {F0 H0 F F' : Hp} {D : Ends} (r : Real K F0 H0 F D E) (e : Ex F F') : Real K F0 H0 F' D E :=
  ⟨fun F1 H1 σ ρ e1 => r.nx F1 H1 σ ρ (e.trans e1), r.rt, fun F1 H1 σ ρ e1 => r.bk F1 H1 σ ρ (e.trans e1), fun F1 H1 σ ρ e1 => r.ct F1 H1 σ ρ (e.trans e1)⟩
theorem Do.imp {E' : DE} (h : Do K t ρ E) (h1 : ∀ ρ, E.nx ρ → E'.nx ρ) (h2 : ∀ d, E.rt d → E'.rt d) (h3 : ∀ ρ, E.bk ρ → E'.bk ρ) (h4 : ∀ ρ, E.ct ρ → E'.ct ρ) : Do K t ρ E' := fun F0 H0 F H σ D r w =>
  h F0 H0 F H σ D ⟨fun F1 H1 σ ρ e1 w n => r.nx F1 H1 σ ρ e1 w (h1 ρ n), fun F1 H1 v d a i n => r.rt F1 H1 v d a i (h2 d n), fun F1 H1 σ ρ e1 w n => r.bk F1 H1 σ ρ e1 w (h3 ρ n), fun F1 H1 σ ρ e1 w n => r.ct F1 H1 σ ρ e1 w (h4 ρ n)⟩ w
/-- one statement, then the rest -/
theorem do_seq (h : Do K t ρ { E with nx := fun ρ' => Do K u ρ' E }) : Do K (tSeq t u) ρ E := fun F0 H0 F H σ D r w =>
  h F0 H0 F H σ { D with nx := u D } ⟨fun F1 H1 σ1 ρ1 e1 w1 n => n F0 H0 F1 H1 σ1 D (r.mono e1) w1, r.rt, r.bk, r.ct⟩ w
/-- .. with a word between them -/
theorem do_cut (M : List Sl → Prop) (h : Do K t ρ { E with nx := M }) (k : ∀ ρ', M ρ' → Do K u ρ' E) : Do K (tSeq t u) ρ E :=
  do_seq (h.imp (fun ρ' m => k ρ' m) (fun _ x => x) (fun _ x => x) (fun _ x => x))
theorem do_next (h : E.nx ρ) : Do K tNext ρ E := fun F0 H0 F H σ D r w => r.nx F H σ ρ (Ex.refl F) w h
theorem do_asg {i : Nat} (h : EvD K te ρ d) (k : E.nx (ρ.set i (.fz d))) : Do K (tAsg te (gName i)) ρ E := fun F0 H0 F H σ D r w =>
  h F0 H0 F H σ w _ fun v F1 H1 a1 h1 => r.nx F1 H1 _ _ a1.ff ((w.go a1).set i h1) k
theorem do_asgP {i : Nat} (h : EvP K te ρ P) (k : ∀ d, P d → E.nx (ρ.set i (.fz d))) : Do K (tAsg te (gName i)) ρ E := fun F0 H0 F H σ D r w =>
  h F0 H0 F H σ w _ fun v d F1 H1 a1 h1 p1 => r.nx F1 H1 _ _ a1.ff ((w.go a1).set i h1) (k d p1)
/-- a new list that will change -/
theorem do_asgN {i : Nat} (h : EvN K te ρ ds) (k : E.nx (ρ.set i (.mt ds))) : Do K (tAsg te (gName i)) ρ E := fun F0 H0 F H σ D r w =>
  h F0 H0 F H σ w _ fun p xs F1 H1 a1 f1 f2 f3 f4 => r.nx F1 H1 _ _ a1.ff (w.setN i a1 f1 f2 f3 f4) k
theorem do_asgG {js : List Nat} {ρ' : List Sl} (h : EvD K te ρ d) (hg : EvG K g d js ρ ρ') (k : E.nx ρ') : Do K (tAsg te g) ρ E := fun F0 H0 F H σ D r w =>
  h F0 H0 F H σ w _ fun v F1 H1 a1 h1 => hg F0 H0 F1 H1 σ v (w.go a1) h1 _ fun σ' w' _ _ => r.nx F1 H1 _ _ a1.ff w' k
theorem do_asgGP (h : EvP K te ρ P) (k : ∀ d, P d → ∃ js ρ', EvG K g d js ρ ρ' ∧ E.nx ρ') : Do K (tAsg te g) ρ E := fun F0 H0 F H σ D r w =>
  h F0 H0 F H σ w _ fun v d F1 H1 a1 h1 p1 => by
    obtain ⟨js, ρ', hg, k'⟩ := k d p1
    exact hg F0 H0 F1 H1 σ v (w.go a1) h1 _ fun σ' w' _ _ => r.nx F1 H1 _ _ a1.ff w' k'
theorem do_ret (h : EvD K te ρ d) (k : E.rt d) : Do K (tRet te) ρ E := fun F0 H0 F H σ D r w => h F0 H0 F H σ w _ fun v F1 H1 a1 h1 => r.rt F1 H1 v d (w.adv.trans a1) h1 k
theorem do_retP (h : EvP K te ρ P) (k : ∀ d, P d → E.rt d) : Do K (tRet te) ρ E := fun F0 H0 F H σ D r w => h F0 H0 F H σ w _ fun v d F1 H1 a1 h1 p1 => r.rt F1 H1 v d (w.adv.trans a1) h1 (k d p1)
theorem do_if {b : Bool} (h : EvT K tt ρ b) (h1 : b = true → Do K t ρ E) (h2 : b = false → Do K u ρ E) : Do K (tIfS tt t u) ρ E := fun F0 H0 F H σ D r w =>
  h F0 H0 F H σ w _ fun F1 H1 a1 => by
    cases b with
    | true => exact h1 rfl F0 H0 F1 H1 σ D (r.mono a1.ff) (w.go a1)
    | false => exact h2 rfl F0 H0 F1 H1 σ D (r.mono a1.ff) (w.go a1)
theorem do_aug {i : Nat} {f : Int → Int → Int} {a b : Int} (hx : ρ[i]? = some (.fz (.int a))) (h : EvD K te ρ (.int b)) (k : E.nx (ρ.set i (.fz (.int (f a b))))) : Do K (tAug i te (ipI f)) ρ E := fun F0 H0 F H σ D r w => by
  obtain ⟨v, e, hv⟩ := w.fz hx
  cases (show v = .int a from hv)
  exact ⟨_, e, h F0 H0 F H σ w _ fun v F1 H1 a1 h1 => ⟨a, b, rfl, h1, r.nx F1 H1 _ _ a1.ff ((w.go a1).set (d := .int (f a b)) i rfl) k⟩⟩
/-- xs.append(e), xs an own list -/
theorem do_app {i : Nat} (hx : ρ[i]? = some (.mt ds)) (h : EvD K te ρ d) (hz : ds.length < 100000) (k : E.nx (ρ.set i (.mt (ds ++ [d])))) : Do K (tDrop (tBM K "list" rAppend (tVar i) (tCons te tNil))) ρ E := fun F0 H0 F H σ D r w => by
  obtain ⟨p, xs, e, g1, g2, g3, g4, _⟩ := w.mut (ds' := ds) hx
  refine ⟨_, e, .inl ⟨rfl, xs, SqL.of g3⟩, h F0 H0 F H σ w _ fun v F1 H1 a1 h1 => ?_⟩
  have w1 := w.go a1
  obtain ⟨p', xs', e', k1, k2, k3, k4, kk⟩ := w1.mut (ds' := ds ++ [d]) hx
  cases e.symm.trans e'
  exact ⟨p, xs', v, rfl, rfl, k3, by rw [← k4.length]; exact sz_lt hz, r.nx F1 _ _ _ a1.ff (kk _ (k4.append (IsDs.one h1))) k⟩
theorem do_appP {i : Nat} (hx : ρ[i]? = some (.mt ds)) (h : EvP K te ρ P) (hz : ds.length < 100000) (k : ∀ d, P d → E.nx (ρ.set i (.mt (ds ++ [d])))) : Do K (tDrop (tBM K "list" rAppend (tVar i) (tCons te tNil))) ρ E := fun F0 H0 F H σ D r w => by
  obtain ⟨p, xs, e, g1, g2, g3, g4, _⟩ := w.mut (ds' := ds) hx
  refine ⟨_, e, .inl ⟨rfl, xs, SqL.of g3⟩, h F0 H0 F H σ w _ fun v d F1 H1 a1 h1 p1 => ?_⟩
  have w1 := w.go a1
  obtain ⟨p', xs', e', k1, k2, k3, k4, kk⟩ := w1.mut (ds' := ds ++ [d]) hx
  cases e.symm.trans e'
  exact ⟨p, xs', v, rfl, rfl, k3, by rw [← k4.length]; exact sz_lt hz, r.nx F1 _ _ _ a1.ff (kk _ (k4.append (IsDs.one h1))) (k d p1)⟩
/-- xs[j] = e -/
theorem do_setL {i j : Nat} {ti : TE} {n : Int} (hx : ρ[i]? = some (.mt ds)) (h : EvD K te ρ d) (hi : EvD K ti ρ (.int n)) (hj : n = (j : Int)) (hl : j < ds.length) (k : E.nx (ρ.set i (.mt (ds.set j d)))) : Do K (tAsg te (gSub (tVar i) ti rSetL)) ρ E := fun F0 H0 F H σ D r w =>
  h F0 H0 F H σ w _ fun v F1 H1 a1 h1 => by
    obtain ⟨p, xs, e, _⟩ := (w.go a1).mut (ds' := ds) hx
    refine ⟨_, e, hi F0 H0 F1 H1 σ (w.go a1) _ fun v2 F2 H2 a2 h2 => ?_⟩
    obtain ⟨p', xs', e', k1, k2, k3, k4, kk⟩ := ((w.go a1).go a2).mut (ds' := ds.set j d) hx
    cases e.symm.trans e'
    subst hj
    exact ⟨p, xs', (j : Int), j, rfl, h2, k3, ixN_nat (by rw [← k4.length]; exact hl), r.nx F2 _ _ _ (a1.trans a2).ff (kk _ (k4.set (h1.mono a2.ff) j)) k⟩
/-- xs[j] += e -/
theorem do_augL {i j : Nat} {ti : TE} {n a b : Int} (hx : ρ[i]? = some (.mt ds)) (hi : EvD K ti ρ (.int n)) (hj : n = (j : Int)) (hd : ds[j]? = some (.int a)) (h : EvD K te ρ (.int b)) (k : E.nx (ρ.set i (.mt (ds.set j (.int (a + b)))))) :
    Do K (tAugS (tVar i) ti te (gIxK K) (ipI fun i j => i + j) rSetL) ρ E := fun F0 H0 F H σ D r w => by
  obtain ⟨p, xs, e, _⟩ := w.mut (ds' := ds) hx
  refine ⟨_, e, hi F0 H0 F H σ w _ fun v F1 H1 a1 h1 => ?_⟩
  obtain ⟨p1, xs1, e1, _, _, g3, g4, _⟩ := (w.go a1).mut (ds' := ds) hx
  cases e.symm.trans e1
  subst hj
  obtain ⟨y, hy, hyd⟩ := g4.get hd
  refine ⟨p, xs1, j, y, rfl, h1, SqL.of g3, hy, h F0 H0 F1 H1 σ (w.go a1) _ fun v2 F2 H2 a2 h2 => ⟨a, b, hyd, h2, ?_⟩⟩
  obtain ⟨p', xs', e', k1, k2, k3, k4, kk⟩ := ((w.go a1).go a2).mut (ds' := ds.set j (.int (a + b))) hx
  cases e.symm.trans e'
  exact ⟨p, xs', (j : Int), j, rfl, h1, k3, ixN_nat (by rw [← k4.length]; exact (List.getElem?_eq_some_iff.mp hd).1), r.nx F2 _ _ _ (a1.trans a2).ff (kk _ (k4.set (d := .int (a + b)) (v := .int (a + b)) rfl j)) k⟩
/-- y = xs.pop(), xs an own list -/
theorem do_pop {i j : Nat} (hx : ρ[i]? = some (.mt (ds ++ [d]))) (k : E.nx ((ρ.set i (.mt ds)).set j (.fz d))) : Do K (tAsg (tBM0 K "list" rPop (tVar i)) (gName j)) ρ E := fun F0 H0 F H σ D r w => by
  obtain ⟨p, xs, e, g1, g2, g3, g4, kk⟩ := w.mut (ds' := ds) hx
  have l := g4.length
  have hl : (ds ++ [d])[xs.length - 1]? = some d := by
    rw [← l]
    simp
  obtain ⟨y, hy, hyd⟩ := g4.get hl
  refine ⟨_, e, .inl ⟨rfl, xs, SqL.of g3⟩, p, xs, y, rfl, rfl, g3, hy, r.nx F _ _ _ (Ex.refl F) ((kk xs.dropLast ?_).set j hyd) k⟩
  have := g4.dropLast
  simpa using this
/-- an own list of own lists -/
theorem do_asgNs {i : Nat} (h : EvN K te ρ []) (k : E.nx (ρ.set i (.mts []))) : Do K (tAsg te (gName i)) ρ E := fun F0 H0 F H σ D r w =>
  h F0 H0 F H σ w _ fun p xs F1 H1 a1 f1 f2 f3 f4 => by
    cases (show xs = [] from f4)
    refine r.nx F1 H1 _ _ a1.ff ?_ k
    obtain ⟨ow, hs⟩ := w.sl
    refine ⟨w.adv.trans a1, by rw [List.length_set, List.length_set, w.len], fun b => if b = p then i else ow b, fun j s hj => ?_⟩
    by_cases hji : i = j
    · subst hji
      by_cases hl : i < ρ.length
      · rw [List.getElem?_set_self hl] at hj
        cases hj
        exact ⟨p, [], List.getElem?_set_self (by rw [w.len]; exact hl), if_pos rfl, f1, fresh_back w.adv.hh f2, f3, by simp, List.nodup_nil, trivial⟩
      · rw [List.getElem?_eq_none (by simpa using hl)] at hj
        cases hj
    · rw [List.getElem?_set_ne hji] at hj ⊢
      exact (hs j s hj).imp (fun b u b1 b2 b3 => ⟨by rw [if_neg (ne_of_none b3 f2)]; exact b1, a1.stays b2 b3, a1.hh _ _ b3⟩) a1.ff
theorem do_appNs {i : Nat} {dss : List (List Dt)} (hx : ρ[i]? = some (.mts dss)) (h : EvN K te ρ ds) (hz : dss.length < 100000) (k : E.nx (ρ.set i (.mts (dss ++ [ds])))) : Do K (tDrop (tBM K "list" rAppend (tVar i) (tCons te tNil))) ρ E := fun F0 H0 F H σ D r w => by
  obtain ⟨ow, hs⟩ := w.sl
  obtain ⟨p, bs, e, g1, g2, g3, g4, g5, g6, g7⟩ := hs i _ hx
  refine ⟨_, e, .inl ⟨rfl, _, SqL.of g4⟩, h F0 H0 F H σ w _ fun q xs F1 H1 a1 f1 f2 f3 f4 => ?_⟩
  have hl := g7.length
  have hpq : p ≠ q := ne_of_none g4 f2
  have hqb : q ∉ bs := fun m => by
    obtain ⟨_, _, _, xs', hb⟩ := g7.mem q m
    rw [f2] at hb
    cases hb
  refine ⟨p, _, _, rfl, rfl, a1.hh _ _ g4, by rw [List.length_map, hl]; exact sz_lt hz, r.nx F1 _ _ _ a1.ff ⟨(w.adv.trans a1).mut (a1.stays g2 g4) g3, by rw [List.length_set, w.len], fun b => if b = q then i else ow b, fun j s hj => ?_⟩ k⟩
  by_cases hji : i = j
  · subst hji
    rw [List.getElem?_set_self (List.getElem?_eq_some_iff.mp hx).1] at hj
    cases hj
    refine ⟨p, bs ++ [q], e, (if_neg hpq).trans g1, a1.stays g2 g4, g3, ?_, by simp [g5, hpq], ?_, ?_⟩
    · rw [upd_same, List.map_append]
      rfl
    · rw [List.nodup_append]
      refine ⟨g6, by simp, fun a ha b hb => ?_⟩
      rw [List.mem_singleton.mp hb]
      exact fun z => hqb (z ▸ ha)
    · refine OwnL.append (g7.imp_mem (fun b o m b1 b2 b3 => ⟨by rw [if_neg (ne_of_none b3 f2)]; exact b1, a1.stays b2 b3, by rw [upd_ne (fun z => g5 (by rw [← z]; exact m))]; exact a1.hh _ _ b3⟩) a1.ff) ⟨⟨if_pos rfl, f1, fresh_back w.adv.hh f2, xs, by rw [upd_ne hpq.symm]; exact f3, f4⟩, trivial⟩
  · rw [List.getElem?_set_ne hji] at hj
    exact (hs j s hj).imp (fun b u b1 b2 b3 => ⟨by rw [if_neg (ne_of_none b3 f2)]; exact b1, a1.stays b2 b3, by rw [upd_ne (fun z => hji (by rw [← g1, ← b1, z]))]; exact a1.hh _ _ b3⟩) a1.ff
theorem do_popNs {i j : Nat} {dss : List (List Dt)} (hx : ρ[i]? = some (.mts (dss ++ [ds]))) (hij : i ≠ j) (k : E.nx ((ρ.set i (.mts dss)).set j (.mt ds))) : Do K (tAsg (tBM0 K "list" rPop (tVar i)) (gName j)) ρ E := fun F0 H0 F H σ D r w => by
  obtain ⟨ow, hs⟩ := w.sl
  obtain ⟨p, bs, e, g1, g2, g3, g4, g5, g6, g7⟩ := hs i _ hx
  obtain ⟨cs, c, rfl, o1, o2⟩ := g7.snoc
  obtain ⟨⟨c1, c2, c3, xs, c4, c5⟩, _⟩ := o2
  have hcp : c ≠ p := fun z => g5 (by rw [← z]; simp)
  have hcc : c ∉ cs := fun m => by
    rw [List.nodup_append] at g6
    exact g6.2.2 c m c (by simp) rfl
  have hpc : p ∉ cs := fun m => g5 (List.mem_append_left _ m)
  refine ⟨_, e, .inl ⟨rfl, _, SqL.of g4⟩, p, _, .ref c, rfl, rfl, g4, by simp, r.nx F _ _ _ (Ex.refl F) ⟨w.adv.mut g2 g3, by rw [List.length_set, List.length_set, List.length_set, w.len], fun b => if b = c then j else ow b, fun l s hl => ?_⟩ k⟩
  by_cases hlj : j = l
  · subst hlj
    by_cases hlt : j < (ρ.set i (.mts dss)).length
    · rw [List.getElem?_set_self hlt] at hl
      cases hl
      refine ⟨c, xs, List.getElem?_set_self (by rw [w.len]; simpa using hlt), if_pos rfl, c2, c3, by rw [upd_ne hcp]; exact c4, c5⟩
    · rw [List.getElem?_eq_none (by simpa using hlt)] at hl
      cases hl
  · rw [List.getElem?_set_ne hlj] at hl ⊢
    by_cases hil : i = l
    · subst hil
      rw [List.getElem?_set_self (List.getElem?_eq_some_iff.mp hx).1] at hl
      cases hl
      refine ⟨p, cs, e, (if_neg hcp.symm).trans g1, g2, g3, by rw [upd_same]; simp, hpc, (List.nodup_append.mp g6).1, ?_⟩
      exact o1.imp_mem (fun b o m b1 b2 b3 => ⟨(if_neg (fun z : b = c => hcc (by rw [← z]; exact m))).trans b1, b2, by rw [upd_ne (fun z : b = p => hpc (by rw [← z]; exact m))]; exact b3⟩) (Ex.refl F)
    · rw [List.getElem?_set_ne hil] at hl
      exact (hs l s hl).imp (fun b u b1 b2 b3 => ⟨by rw [if_neg (fun z => hil (by rw [← c1, ← b1, z]))]; exact b1, b2, by rw [upd_ne (fun z => hil (by rw [← g1, ← b1, z]))]; exact b3⟩) (Ex.refl F)
/-- an own list frozen from here on -/
theorem do_freeze {i : Nat} (hx : ρ[i]? = some (.mt ds)) (h : Do K t (ρ.set i (.fz (.lst ds))) E) : Do K t ρ E := fun F0 H0 F H σ D r w => by
  obtain ⟨p, xs, e, h1, h2, w'⟩ := w.freeze hx
  exact h F0 H0 _ H σ D (r.mono (Ex.new h1)) w'
/-- what a slot holds forgotten -/
theorem do_drop {i : Nat} (h : Do K t (ρ.set i .no) E) : Do K t ρ E := fun F0 H0 F H σ D r w => by
  refine h F0 H0 F H σ D r ?_
  obtain ⟨ow, hs⟩ := w.sl
  refine ⟨w.adv, by rw [List.length_set, w.len], ow, fun j s hj => ?_⟩
  by_cases hji : i = j
  · subst hji
    by_cases hl : i < ρ.length
    · rw [List.getElem?_set_self hl] at hj; cases hj; trivial
    · rw [List.getElem?_eq_none (by simpa using hl)] at hj; cases hj
  · rw [List.getElem?_set_ne hji] at hj
    exact hs j s hj
theorem do_forP {wi : TI} {Src : List Dt → Prop} (hi : EvIP K wi ρ Src) (h : ∀ ds, Src ds → ∃ Inv : Nat → List Sl → Prop, Inv 0 ρ ∧
    (∀ i d ρ', ds[i]? = some d → Inv i ρ' → ∃ js ρ'', EvG K g d js ρ' ρ'' ∧ Do K u ρ'' { E with nx := Inv (i + 1), ct := Inv (i + 1), bk := E.nx }) ∧ ∀ ρ', Inv ds.length ρ' → E.nx ρ') : Do K (tFor wi g u) ρ E := fun F0 H0 F H σ D r w =>
  hi F0 H0 F H σ w _ fun J ds F1 H1 a1 it src => by
    obtain ⟨Inv, h0, hs, hd⟩ := h ds src
    refine ⟨fun i m σ' H' => m = ds.length - i ∧ i ≤ ds.length ∧ ∃ F' ρ', Ex F1 F' ∧ W K F0 H0 F' H' σ' ρ' ∧ Inv i ρ', ⟨ds.length, rfl, Nat.zero_le _, F1, ρ, Ex.refl F1, w.go a1, h0⟩, ?_⟩
    rintro i m σ' H' ⟨rfl, hil, F', ρ', e1, w1, p1⟩
    by_cases hlt : i < ds.length
    · refine .inr ⟨it.go i F' H' e1 w1.adv.fh hlt, fun σ'' H'' => ∃ F'' ρ'', Ex F1 F'' ∧ W K F0 H0 F'' H'' σ'' ρ'' ∧ Inv (i + 1) ρ'', fun σ'' H'' hN => ⟨ds.length - (i + 1), by omega, rfl, hlt, hN⟩, fun x H2 y => ?_⟩
      obtain ⟨d, F2, hd2, a2, hx⟩ := it.yld i F' H' x H2 hlt e1 w1.adv.fh y
      obtain ⟨js, ρ'', hg, hb⟩ := hs i d ρ' hd2 p1
      refine hg F0 H0 F2 H2 σ' x (w1.go a2) hx _ fun σ2 w2 _ _ => hb F0 H0 F2 H2 σ2 _ ⟨fun F3 H3 σ3 ρ3 e3 w3 n3 => ⟨F3, ρ3, (e1.trans a2.ff).trans e3, w3, n3⟩, r.rt, fun F3 H3 σ3 ρ3 e3 w3 n3 => ?_, fun F3 H3 σ3 ρ3 e3 w3 n3 => ⟨F3, ρ3, (e1.trans a2.ff).trans e3, w3, n3⟩⟩ w2
      exact r.nx F3 H3 σ3 ρ3 (((a1.ff.trans e1).trans a2.ff).trans e3) w3 n3
    · have e : i = ds.length := by omega
      subst e
      exact .inl ⟨it.stop F' H' e1 w1.adv.fh, r.nx F' H' σ' ρ' (a1.ff.trans e1) w1 (hd ρ' p1)⟩
theorem do_for {wi : TI} (hi : EvI K wi ρ ds) (Inv : Nat → List Sl → Prop) (h0 : Inv 0 ρ)
    (hs : ∀ i d ρ', ds[i]? = some d → Inv i ρ' → ∃ js ρ'', EvG K g d js ρ' ρ'' ∧ Do K u ρ'' { E with nx := Inv (i + 1), ct := Inv (i + 1), bk := E.nx }) (hd : ∀ ρ', Inv ds.length ρ' → E.nx ρ') : Do K (tFor wi g u) ρ E :=
  do_forP (Src := fun es => es = ds) (hi.p rfl) fun es e => by subst e; exact ⟨Inv, h0, hs, hd⟩
/-- a def's body -/
def ends (P : Dt → Prop) : DE := { nx := fun _ => P .non, rt := P }
def env0 (n : Nat) (ds : List Dt) : List Sl := ds.map .fz ++ List.replicate (n - ds.length) .no
theorem fn_do {α : Type} {enc : α → List Dt} {Pre : α → Prop} {Post : α → Dt → Prop} {N : List Str} (h : ∀ x, Pre x → Do K t (env0 N.length (enc x)) (ends (Post x))) {vs : List V} {H : Hp} {Q : VK} {E : XK} (hs : spX K enc Pre Post vs H Q E) :
    t { nx := fun _ H' => Q .non H', rt := Q } (L2.start N vs) H := by
  obtain ⟨F, x, e, hv, hp, q⟩ := hs
  have l := hv.length
  refine h x hp F H F H _ _ ⟨fun F' H' σ ρ _ w n => q .non .non F' H' w.adv rfl n, fun F' H' v d a i n => q v d F' H' a i n, fun _ _ _ _ _ _ n => n.elim, fun _ _ _ _ _ _ n => n.elim⟩ ⟨Adv.refl e, ?_, fun _ => 0, fun i s hi => ?_⟩
  · unfold env0 L2.start
    simp [l]
  · unfold env0 at hi
    unfold L2.start
    by_cases hl : i < (enc x).length
    · have hl2 : i < vs.length := by omega
      rw [List.getElem?_append_left (by simpa using hl), List.getElem?_map] at hi
      rw [List.getElem?_append_left (by simpa using hl2), List.getElem?_map]
      cases q' : (enc x)[i]? with
      | none => rw [q'] at hi; cases hi
      | some d =>
        rw [q'] at hi
        cases hi
        obtain ⟨v, h1, h2⟩ := hv.get q'
        exact ⟨v, by rw [h1]; rfl, h2⟩
    · rw [List.getElem?_append_right (by simpa using hl)] at hi
      obtain ⟨_, e2⟩ := List.getElem?_eq_some_iff.mp hi
      rw [List.getElem_replicate] at e2
      subst e2
      trivial
theorem sp_len {α : Type} {enc : α → List Dt} {Pre : α → Prop} {Post : α → Dt → Prop} {n : Nat} (hn : ∀ x, (enc x).length = n) : ∀ (vs : List V) (H : Hp) (Q : VK) (E : XK), spX K enc Pre Post vs H Q E → vs.length = n := fun vs H Q E h => by
  obtain ⟨F, x, _, hv, _⟩ := h
  rw [← hv.length, hn]
end
end Dl
/-! C0: the text by places, the data of the laws, the mirrored functions. -/
namespace Cy
open PySem L2 Dr Dl
def top (i : Nat) : Stmt := PySem.Challenge.pw_cutyard_k22_whole_verdicts_read.main.body.getD i (.Pass ⟨0, 0, 0, 0⟩)

/-! ### data -/
abbrev tupI (ns : List Int) : Dt := .tup (ns.map Dt.int)
abbrev lstI (ns : List Int) : Dt := .lst (ns.map Dt.int)
abbrev Row := List Int × Int
abbrev rowD (r : Row) : Dt := .tup [tupI r.1, .int r.2]
abbrev rowsT (rs : List Row) : Dt := .tup (rs.map rowD)
abbrev rowsL (rs : List Row) : Dt := .lst (rs.map rowD)
abbrev shD (s : Int × Int) : Dt := .tup [.int s.1, .int s.2]
inductive Line where
  | cut (sh : List (Int × Int)) (d : Int) | choice (es : List Int) (k : Int) | shut (n : Int)
def lineD : Line → Dt
  | .cut sh d => .tup [.str "cut", .tup (sh.map shD), .int d]
  | .choice es k => .tup [.str "choice", tupI es, .int k]
  | .shut n => .tup [.str "shut", .int n]
def optD : Option Int → Dt
  | none => .non
  | some m => .int m
abbrev boundD (b : Int × Option Int) : Dt := .tup [.int b.1, optD b.2]
structure Plan where
  bounds : List (Int × Option Int)
  rows : List Row
  goal : List Int
abbrev planD (p : Plan) : Dt := .tup [.tup (p.bounds.map boundD), rowsT p.rows, tupI p.goal]
theorem imm_map {α : Type} {f : α → Dt} (h : ∀ x, (f x).imm = true) : ∀ xs : List α, immL (xs.map f) = true
  | [] => by simp [immL]
  | x :: xs => by simp [immL, h x, imm_map h xs]
theorem imm_int (i : Int) : (Dt.int i).imm = true := by simp [Dt.imm]
theorem imm_tupI (ns : List Int) : immL (ns.map Dt.int) = true := imm_map imm_int ns
theorem imm_row (r : Row) : (rowD r).imm = true := by simp [Dt.imm, immL, imm_tupI]
theorem imm_rows (rs : List Row) : immL (rs.map rowD) = true := imm_map imm_row rs
theorem imm_sh (s : Int × Int) : (shD s).imm = true := by simp [Dt.imm, immL]
theorem imm_line (l : Line) : (lineD l).imm = true := by
  cases l with
  | cut sh d => simp [lineD, Dt.imm, immL, imm_map imm_sh]
  | choice es k => simp [lineD, Dt.imm, immL, imm_tupI]
  | shut n => simp [lineD, Dt.imm, immL]
theorem imm_bound (b : Int × Option Int) : (boundD b).imm = true := by
  obtain ⟨l, m⟩ := b
  cases m <;> simp [optD, Dt.imm, immL]

/-! ### the mirrored functions -/
def dot (es sp : List Int) : Int := (List.zipWith (fun a b => a * b) es sp).sum
def upV (t b : Int) : Int := -(-t / b)
def unitV (n a : Nat) (x : Int) : List Int := (List.replicate n 0).set a x
def mostRows (n : Nat) : Nat → List (Int × Option Int) → List Row
  | _, [] => []
  | a, (_, none) :: bs => mostRows n (a + 1) bs
  | a, (_, some m) :: bs => (unitV n a (-1), -m) :: mostRows n (a + 1) bs
def leastRows (n : Nat) (bs : List (Int × Option Int)) : List Row := bs.mapIdx fun a b => (unitV n a 1, b.1)
def givensV (bs : List (Int × Option Int)) (rs : List Row) : List Row := leastRows bs.length bs ++ mostRows bs.length 0 bs ++ rs
def meetsV (r : Row) (sp : List Int) : Bool := decide (r.2 ≤ dot r.1 sp)
def negV (es : List Int) : List Int := es.map fun e => -e
def width : List Row → Nat
  | [] => 0
  | r :: _ => r.1.length
def addV (w : Int) (es fs : List Int) : List Int := List.zipWith (fun a b => a + w * b) es fs
def sumStep (rows : List Row) (acc : List Int × Int) (s : Int × Int) : Option (List Int × Int) :=
  if s.1 < 0 ∨ s.1 ≥ (rows.length : Int) ∨ s.2 < 0 then none else
    let r := rows.getD s.1.toNat ([], 0)
    some (addV s.2 acc.1 r.1, acc.2 + s.2 * r.2)
def sharesSum (rows : List Row) : List (Int × Int) → List Int × Int → Option (List Int × Int)
  | [], acc => some acc
  | s :: sh, acc => (sumStep rows acc s).bind (sharesSum rows sh)
def finRow (d : Int) : Option (List Int × Int) → Option Row
  | none => none
  | some t => if t.1.all (fun x => x % d == 0) then some (t.1.map (fun x => x / d), upV t.2 d) else none
def lineRow (n : Nat) (rows : List Row) (sh : List (Int × Int)) (d : Int) : Option Row :=
  if d < 1 ∨ sh = [] then none else finRow d (sharesSum rows sh (List.replicate n 0, 0))
def noughts (es : List Int) : Bool := es.all fun x => decide (x = 0)
def rowShuts (rows : List Row) (n : Int) : Bool :=
  if n < 0 ∨ n ≥ (rows.length : Int) then false else
    let r := rows.getD n.toNat ([], 0)
    noughts r.1 && decide (0 < r.2)
def barsV (n : Nat) : List Row → List (List Row) → List Line → Bool
  | _, _, [] => false
  | now, later, .cut sh d :: ps => match lineRow n now sh d with
    | none => false
    | some r => barsV n (now ++ [r]) later ps
  | now, later, .choice es k :: ps => if es.length ≠ n then false else barsV n (now ++ [(negV es, -k)]) (later ++ [now ++ [(es, k + 1)]]) ps
  | now, later, .shut m :: ps => if rowShuts now m then (match later.getLast? with
      | none => ps.isEmpty
      | some x => barsV n x later.dropLast ps) else false
def rayV (rows : List Row) (goal ray : List Int) : Bool := decide (ray.length = goal.length) && (rows.all (fun r => decide (0 ≤ dot r.1 ray)) && decide (0 < dot goal ray))
inductive Told where
  | none (paper : List Line) | endless (spot ray : List Int) | best (spot : List Int) (paper : List Line)
def toldD : Told → Dt
  | .none p => .tup [.str "none", .tup (p.map lineD)]
  | .endless s r => .tup [.str "endless", tupI s, tupI r]
  | .best s p => .tup [.str "best", tupI s, .tup (p.map lineD)]
def holdsV (p : Plan) : Told → Bool
  | .none paper => barsV p.goal.length (givensV p.bounds p.rows) [] paper
  | .endless s r => decide (s.length = p.goal.length) && (givensV p.bounds p.rows).all (fun x => meetsV x s) && rayV (givensV p.bounds p.rows) p.goal r
  | .best s paper => decide (s.length = p.goal.length) && (givensV p.bounds p.rows).all (fun x => meetsV x s) && barsV p.goal.length (givensV p.bounds p.rows ++ [(p.goal, dot p.goal s + 1)]) [] paper

theorem addV_len (v : Int) (es fs : List Int) : (addV v es fs).length ≤ es.length := by
  unfold addV
  simp
  omega
theorem sumStep_len {rows : List Row} {acc t : List Int × Int} {s : Int × Int} (h : sumStep rows acc s = some t) : t.1.length ≤ acc.1.length := by
  unfold sumStep at h
  split at h
  · cases h
  · cases h
    exact addV_len _ _ _
theorem sharesSum_len {rows : List Row} : ∀ {sh : List (Int × Int)} {acc t : List Int × Int}, sharesSum rows sh acc = some t → t.1.length ≤ acc.1.length
  | [], acc, t, h => by
    cases h
    exact Nat.le_refl _
  | s :: sh, acc, t, h => by
    have h : (sumStep rows acc s).bind (sharesSum rows sh) = some t := h
    cases e : sumStep rows acc s with
    | none => rw [e] at h; cases h
    | some u =>
      rw [e] at h
      exact Nat.le_trans (sharesSum_len h) (sumStep_len e)
theorem flat1 {α : Type} (x : α) : ∀ n : Nat, (List.replicate n [x]).flatten = List.replicate n x
  | 0 => rfl
  | n + 1 => by rw [List.replicate_succ, List.flatten_cons, List.replicate_succ, flat1 x n]; rfl
theorem at_map {α : Type} (f : α → Dt) (xs : List α) (i : Int) (z : α) (h0 : 0 ≤ i) (h1 : i < xs.length) : atI (xs.map f) i = some (f (xs.getD i.toNat z)) := by
  refine at_nat (j := i.toNat) (by omega) ?_
  rw [List.getElem?_map, List.getD_eq_getElem?_getD, List.getElem?_eq_getElem (show i.toNat < xs.length by omega)]
  rfl
theorem drop_at {α : Type} {xs : List α} {i : Nat} {x : α} (h : xs[i]? = some x) : xs.drop i = x :: xs.drop (i + 1) := by
  obtain ⟨h1, h2⟩ := List.getElem?_eq_some_iff.mp h
  rw [← h2]
  exact List.drop_eq_getElem_cons h1
theorem toNat_nat (n : Nat) : (n : Int).toNat = n := by omega

/-! ### what is asked of data -/
def Sm (B : Int) (x : Int) : Prop := -B ≤ x ∧ x ≤ B
def LineOk (B : Int) : Line → Prop
  | .cut sh d => (∀ s ∈ sh, Sm B s.2) ∧ Sm B d ∧ sh.length ≤ 100
  | .choice es _ => (es.length : Int) * 20 ≤ B
  | .shut _ => True
def PaperOk (B : Int) (p : List Line) : Prop := p.length ≤ 60 ∧ ∀ l ∈ p, LineOk B l
def SpotOk (B : Int) (s : List Int) : Prop := s.length ≤ 60 ∧ ∀ x ∈ s, Sm B x
def RowsOk (n : Nat) (rs : List Row) : Prop := ∀ r ∈ rs, r.1.length = n
def PlanOk (n : Nat) (p : Plan) : Prop := n ≤ 8 ∧ p.bounds.length = n ∧ p.goal.length = n ∧ p.rows.length ≤ 60 ∧ RowsOk n p.rows
end Cy
/-! CS: each def's scope, its promise. -/
namespace Cy
open PySem PySem.Spec L2 Dr Dl
theorem _root_.Dl.EvNP.imp1 {K : PySem.W.Frag} {te : TE} {ρ : List Sl} {es : List Dt} (h : EvNP K te ρ fun x => x = es) : EvN K te ρ es := fun F0 H0 F H σ w Q q => h F0 H0 F H σ w Q fun p xs ds F' H' a f1 f2 f3 f4 e => q p xs F' H' a f1 f2 f3 (e ▸ f4)
/-! def up, slots 0:top 1:bottom -/
abbrev s_p_up : Stmt := top 4
abbrev N_p_up : List Str := ["top", "bottom"]
abbrev P_p_up : List Str := ["top", "bottom"]
theorem sc_p_up : FnScope N_p_up P_p_up (defScope s_p_up) := ⟨rfl, rfl, rfl, by decide +kernel, rfl, by decide +kernel, by decide +kernel⟩
/-! def left, slots 0:entries 1:spot 2:total 3:entry 4:number -/
abbrev s_p_left : Stmt := top 6
abbrev N_p_left : List Str := ["entries", "spot", "total", "entry", "number"]
abbrev P_p_left : List Str := ["entries", "spot"]
theorem sc_p_left : FnScope N_p_left P_p_left (defScope s_p_left) := ⟨rfl, rfl, rfl, by decide +kernel, rfl, by decide +kernel, by decide +kernel⟩
/-! def meets, slots 0:row 1:spot -/
abbrev s_p_meets : Stmt := top 7
abbrev N_p_meets : List Str := ["row", "spot"]
abbrev P_p_meets : List Str := ["row", "spot"]
theorem sc_p_meets : FnScope N_p_meets P_p_meets (defScope s_p_meets) := ⟨rfl, rfl, rfl, by decide +kernel, rfl, by decide +kernel, by decide +kernel⟩
/-! def turned, slots 0:row 1:entry -/
abbrev s_p_turned : Stmt := top 8
abbrev N_p_turned : List Str := ["row", "entry"]
abbrev P_p_turned : List Str := ["row"]
theorem sc_p_turned : FnScope N_p_turned P_p_turned (defScope s_p_turned) := ⟨rfl, rfl, rfl, by decide +kernel, rfl, by decide +kernel, by decide +kernel⟩
/-! def unit, slots 0:count 1:at 2:number 3:entries 4:k -/
abbrev s_p_unit : Stmt := top 10
abbrev N_p_unit : List Str := ["count", "at", "number", "entries", "k"]
abbrev P_p_unit : List Str := ["count", "at", "number"]
theorem sc_p_unit : FnScope N_p_unit P_p_unit (defScope s_p_unit) := ⟨rfl, rfl, rfl, by decide +kernel, rfl, by decide +kernel, by decide +kernel⟩
/-! def givens, slots 0:plan 1:bounds 2:count 3:told 4:at 5:least 6:most -/
abbrev s_p_givens : Stmt := top 11
abbrev N_p_givens : List Str := ["plan", "bounds", "count", "told", "at", "least", "most"]
abbrev P_p_givens : List Str := ["plan"]
theorem sc_p_givens : FnScope N_p_givens P_p_givens (defScope s_p_givens) := ⟨rfl, rfl, rfl, by decide +kernel, rfl, by decide +kernel, by decide +kernel⟩
/-! def worth, slots 0:plan 1:spot -/
abbrev s_p_worth : Stmt := top 12
abbrev N_p_worth : List Str := ["plan", "spot"]
abbrev P_p_worth : List Str := ["plan", "spot"]
theorem sc_p_worth : FnScope N_p_worth P_p_worth (defScope s_p_worth) := ⟨rfl, rfl, rfl, by decide +kernel, rfl, by decide +kernel, by decide +kernel⟩
/-! def better, slots 0:plan 1:w -/
abbrev s_p_better : Stmt := top 13
abbrev N_p_better : List Str := ["plan", "w"]
abbrev P_p_better : List Str := ["plan", "w"]
theorem sc_p_better : FnScope N_p_better P_p_better (defScope s_p_better) := ⟨rfl, rfl, rfl, by decide +kernel, rfl, by decide +kernel, by decide +kernel⟩
/-! def row_width, slots 0:rows -/
abbrev s_p_row_width : Stmt := top 15
abbrev N_p_row_width : List Str := ["rows"]
abbrev P_p_row_width : List Str := ["rows"]
theorem sc_p_row_width : FnScope N_p_row_width P_p_row_width (defScope s_p_row_width) := ⟨rfl, rfl, rfl, by decide +kernel, rfl, by decide +kernel, by decide +kernel⟩
/-! def shares_sum, slots 0:rows 1:shares 2:size 3:entries 4:bound 5:number 6:weight* 7:row 8:one 9:more -/
abbrev s_p_shares_sum : Stmt := top 16
abbrev N_p_shares_sum : List Str := ["rows", "shares", "size", "entries", "bound", "number", "weight", "row", "one", "more"]
abbrev P_p_shares_sum : List Str := ["rows", "shares", "size"]
theorem sc_p_shares_sum : FnScope N_p_shares_sum P_p_shares_sum (defScope s_p_shares_sum) := ⟨rfl, rfl, rfl, by decide +kernel, rfl, by decide +kernel, by decide +kernel⟩
/-! def line_row, slots 0:rows 1:shares 2:divisor 3:total 4:entries 5:one -/
abbrev s_p_line_row : Stmt := top 17
abbrev N_p_line_row : List Str := ["rows", "shares", "divisor", "total", "entries", "one"]
abbrev P_p_line_row : List Str := ["rows", "shares", "divisor"]
theorem sc_p_line_row : FnScope N_p_line_row P_p_line_row (defScope s_p_line_row) := ⟨rfl, rfl, rfl, by decide +kernel, rfl, by decide +kernel, by decide +kernel⟩
/-! def all_noughts, slots 0:entries 1:one -/
abbrev s_p_all_noughts : Stmt := top 18
abbrev N_p_all_noughts : List Str := ["entries", "one"]
abbrev P_p_all_noughts : List Str := ["entries"]
theorem sc_p_all_noughts : FnScope N_p_all_noughts P_p_all_noughts (defScope s_p_all_noughts) := ⟨rfl, rfl, rfl, by decide +kernel, rfl, by decide +kernel, by decide +kernel⟩
/-! def row_shuts, slots 0:rows 1:number -/
abbrev s_p_row_shuts : Stmt := top 19
abbrev N_p_row_shuts : List Str := ["rows", "number"]
abbrev P_p_row_shuts : List Str := ["rows", "number"]
theorem sc_p_row_shuts : FnScope N_p_row_shuts P_p_row_shuts (defScope s_p_row_shuts) := ⟨rfl, rfl, rfl, by decide +kernel, rfl, by decide +kernel, by decide +kernel⟩
/-! def bars, slots 0:rows 1:paper 2:size 3:now 4:later 5:at 6:line 7:row -/
abbrev s_p_bars : Stmt := top 20
abbrev N_p_bars : List Str := ["rows", "paper", "size", "now", "later", "at", "line", "row"]
abbrev P_p_bars : List Str := ["rows", "paper"]
theorem sc_p_bars : FnScope N_p_bars P_p_bars (defScope s_p_bars) := ⟨rfl, rfl, rfl, by decide +kernel, rfl, by decide +kernel, by decide +kernel⟩
/-! def ray_holds, slots 0:rows 1:goal 2:ray* 3:row -/
abbrev s_p_ray_holds : Stmt := top 21
abbrev N_p_ray_holds : List Str := ["rows", "goal", "ray", "row"]
abbrev P_p_ray_holds : List Str := ["rows", "goal", "ray"]
theorem sc_p_ray_holds : FnScope N_p_ray_holds P_p_ray_holds (defScope s_p_ray_holds) := ⟨rfl, rfl, rfl, by decide +kernel, rfl, by decide +kernel, by decide +kernel⟩
/-! def holds, slots 0:plan 1:told 2:rows 3:spot* 4:row -/
abbrev s_p_holds : Stmt := top 22
abbrev N_p_holds : List Str := ["plan", "told", "rows", "spot", "row"]
abbrev P_p_holds : List Str := ["plan", "told"]
theorem sc_p_holds : FnScope N_p_holds P_p_holds (defScope s_p_holds) := ⟨rfl, rfl, rfl, by decide +kernel, rfl, by decide +kernel, by decide +kernel⟩
/-! def _law_cell, slots 0:script 1:k -/
abbrev s_l_cell : Stmt := top 24
abbrev N_l_cell : List Str := ["_law_script", "_law_k"]
abbrev P_l_cell : List Str := ["_law_script", "_law_k"]
theorem sc_l_cell : FnScope N_l_cell P_l_cell (defScope s_l_cell) := ⟨rfl, rfl, rfl, by decide +kernel, rfl, by decide +kernel, by decide +kernel⟩
/-! def _law_draws, slots 0:cell_here 1:salt 2:sizes 3:row 4:rest 5:k 6:size 7:mixed -/
abbrev s_l_draws : Stmt := top 25
abbrev N_l_draws : List Str := ["_law_cell_here", "_law_salt", "_law_sizes", "_law_row", "_law_rest", "_law_k", "_law_size", "_law_mixed"]
abbrev P_l_draws : List Str := ["_law_cell_here", "_law_salt", "_law_sizes"]
theorem sc_l_draws : FnScope N_l_draws P_l_draws (defScope s_l_draws) := ⟨rfl, rfl, rfl, by decide +kernel, rfl, by decide +kernel, by decide +kernel⟩
/-! def _law_total, slots 0:rows_here 1:shares 2:n 3:total_here 4:number 5:weight* 6:row 7:one 8:more -/
abbrev s_l_total : Stmt := top 26
abbrev N_l_total : List Str := ["_law_rows_here", "_law_shares", "_law_n", "_law_total_here", "_law_number", "_law_weight", "_law_row", "_law_one", "_law_more"]
abbrev P_l_total : List Str := ["_law_rows_here", "_law_shares", "_law_n"]
theorem sc_l_total : FnScope N_l_total P_l_total (defScope s_l_total) := ⟨rfl, rfl, rfl, by decide +kernel, rfl, by decide +kernel, by decide +kernel⟩
/-! def _law_line, slots 0:rows_here 1:shares 2:divisor* 3:n 4:total_here 5:one -/
abbrev s_l_line : Stmt := top 27
abbrev N_l_line : List Str := ["_law_rows_here", "_law_shares", "_law_divisor", "_law_n", "_law_total_here", "_law_one"]
abbrev P_l_line : List Str := ["_law_rows_here", "_law_shares", "_law_divisor", "_law_n"]
theorem sc_l_line : FnScope N_l_line P_l_line (defScope s_l_line) := ⟨rfl, rfl, rfl, by decide +kernel, rfl, by decide +kernel, by decide +kernel⟩
/-! def _law_rows, slots 0:cell_here 1:salt 2:n 3:many 4:big* 5:numbers 6:rows_here 7:k 8:part 9:one -/
abbrev s_l_rows : Stmt := top 28
abbrev N_l_rows : List Str := ["_law_cell_here", "_law_salt", "_law_n", "_law_many", "_law_big", "_law_numbers", "_law_rows_here", "_law_k", "_law_part", "_law_one"]
abbrev P_l_rows : List Str := ["_law_cell_here", "_law_salt", "_law_n", "_law_many", "_law_big"]
theorem sc_l_rows : FnScope N_l_rows P_l_rows (defScope s_l_rows) := ⟨rfl, rfl, rfl, by decide +kernel, rfl, by decide +kernel, by decide +kernel⟩
/-! def _law_bars, slots 0:rows_here 1:paper 2:n 3:now 4:later 5:at 6:line_here 7:row 8:one -/
abbrev s_l_bars : Stmt := top 29
abbrev N_l_bars : List Str := ["_law_rows_here", "_law_paper", "_law_n", "_law_now", "_law_later", "_law_at", "_law_line_here", "_law_row", "_law_one"]
abbrev P_l_bars : List Str := ["_law_rows_here", "_law_paper", "_law_n"]
theorem sc_l_bars : FnScope N_l_bars P_l_bars (defScope s_l_bars) := ⟨rfl, rfl, rfl, by decide +kernel, rfl, by decide +kernel, by decide +kernel⟩
/-! def _law_left, slots 0:entries 1:spot 2:one 3:other -/
abbrev s_l_left : Stmt := top 30
abbrev N_l_left : List Str := ["_law_entries", "_law_spot", "_law_one", "_law_other"]
abbrev P_l_left : List Str := ["_law_entries", "_law_spot"]
theorem sc_l_left : FnScope N_l_left P_l_left (defScope s_l_left) := ⟨rfl, rfl, rfl, by decide +kernel, rfl, by decide +kernel, by decide +kernel⟩
/-! def _law_unit, slots 0:n 1:at* 2:number* 3:k -/
abbrev s_l_unit : Stmt := top 31
abbrev N_l_unit : List Str := ["_law_n", "_law_at", "_law_number", "_law_k"]
abbrev P_l_unit : List Str := ["_law_n", "_law_at", "_law_number"]
theorem sc_l_unit : FnScope N_l_unit P_l_unit (defScope s_l_unit) := ⟨rfl, rfl, rfl, by decide +kernel, rfl, by decide +kernel, by decide +kernel⟩
/-! def _law_givens, slots 0:plan* 1:n* 2:rows_here 3:k -/
abbrev s_l_givens : Stmt := top 32
abbrev N_l_givens : List Str := ["_law_plan", "_law_n", "_law_rows_here", "_law_k"]
abbrev P_l_givens : List Str := ["_law_plan"]
theorem sc_l_givens : FnScope N_l_givens P_l_givens (defScope s_l_givens) := ⟨rfl, rfl, rfl, by decide +kernel, rfl, by decide +kernel, by decide +kernel⟩
/-! def _law_bounds, slots 0:cell_here 1:n 2:numbers 3:bounds_here 4:k 5:most -/
abbrev s_l_bounds : Stmt := top 33
abbrev N_l_bounds : List Str := ["_law_cell_here", "_law_n", "_law_numbers", "_law_bounds_here", "_law_k", "_law_most"]
abbrev P_l_bounds : List Str := ["_law_cell_here", "_law_n"]
theorem sc_l_bounds : FnScope N_l_bounds P_l_bounds (defScope s_l_bounds) := ⟨rfl, rfl, rfl, by decide +kernel, rfl, by decide +kernel, by decide +kernel⟩
/-! def _law_tree, slots 0:cell_here 1:height 2:n 3:shares 4:numbers 5:lines 6:heights 7:choices 8:k 9:now 10:entries 11:one -/
abbrev s_l_tree : Stmt := top 34
abbrev N_l_tree : List Str := ["_law_cell_here", "_law_height", "_law_n", "_law_shares", "_law_numbers", "_law_lines", "_law_heights", "_law_choices", "_law_k", "_law_now", "_law_entries", "_law_one"]
abbrev P_l_tree : List Str := ["_law_cell_here", "_law_height", "_law_n", "_law_shares"]
theorem sc_l_tree : FnScope N_l_tree P_l_tree (defScope s_l_tree) := ⟨rfl, rfl, rfl, by decide +kernel, rfl, by decide +kernel, by decide +kernel⟩
/-! def _law_none_built, slots 0:cells 1:n 2:many 3:big 4:bounds_here 5:rows_here 6:standing 7:numbers* 8:shares 9:total_here 10:paper 11:goal 12:k 13:one -/
abbrev s_l_none_built : Stmt := top 35
abbrev N_l_none_built : List Str := ["_law_cells", "_law_n", "_law_many", "_law_big", "_law_bounds_here", "_law_rows_here", "_law_standing", "_law_numbers", "_law_shares", "_law_total_here", "_law_paper", "_law_goal", "_law_k", "_law_one"]
abbrev P_l_none_built : List Str := ["_law_cells", "_law_n", "_law_many", "_law_big"]
theorem sc_l_none_built : FnScope N_l_none_built P_l_none_built (defScope s_l_none_built) := ⟨rfl, rfl, rfl, by decide +kernel, rfl, by decide +kernel, by decide +kernel⟩
/-! def _law_spot_in, slots 0:cell_here 1:bounds_here 2:numbers 3:spot 4:number 5:least 6:most -/
abbrev s_l_spot_in : Stmt := top 36
abbrev N_l_spot_in : List Str := ["_law_cell_here", "_law_bounds_here", "_law_numbers", "_law_spot", "_law_number", "_law_least", "_law_most"]
abbrev P_l_spot_in : List Str := ["_law_cell_here", "_law_bounds_here"]
theorem sc_l_spot_in : FnScope N_l_spot_in P_l_spot_in (defScope s_l_spot_in) := ⟨rfl, rfl, rfl, by decide +kernel, rfl, by decide +kernel, by decide +kernel⟩
/-! def _law_best_built, slots 0:cells 1:n 2:many 3:big 4:bounds_here 5:spot 6:rows_here 7:slacks 8:k 9:entries 10:bound 11:standing 12:weights 13:shares 14:row 15:total_here 16:paper 17:goal 18:one -/
abbrev s_l_best_built : Stmt := top 37
abbrev N_l_best_built : List Str := ["_law_cells", "_law_n", "_law_many", "_law_big", "_law_bounds_here", "_law_spot", "_law_rows_here", "_law_slacks", "_law_k", "_law_entries", "_law_bound", "_law_standing", "_law_weights", "_law_shares", "_law_row", "_law_total_here", "_law_paper", "_law_goal", "_law_one"]
abbrev P_l_best_built : List Str := ["_law_cells", "_law_n", "_law_many", "_law_big"]
theorem sc_l_best_built : FnScope N_l_best_built P_l_best_built (defScope s_l_best_built) := ⟨rfl, rfl, rfl, by decide +kernel, rfl, by decide +kernel, by decide +kernel⟩
/-! def _law_endless_built, slots 0:cells 1:n 2:many* 3:big 4:bounds_here* 5:spot 6:numbers* 7:ray 8:sides 9:entries 10:bound 11:rows_here 12:slack 13:k 14:one -/
abbrev s_l_endless_built : Stmt := top 38
abbrev N_l_endless_built : List Str := ["_law_cells", "_law_n", "_law_many", "_law_big", "_law_bounds_here", "_law_spot", "_law_numbers", "_law_ray", "_law_sides", "_law_entries", "_law_bound", "_law_rows_here", "_law_slack", "_law_k", "_law_one"]
abbrev P_l_endless_built : List Str := ["_law_cells", "_law_n", "_law_many", "_law_big"]
theorem sc_l_endless_built : FnScope N_l_endless_built P_l_endless_built (defScope s_l_endless_built) := ⟨rfl, rfl, rfl, by decide +kernel, rfl, by decide +kernel, by decide +kernel⟩
/-! def _law_free_line, slots 0:cell_here 1:n 2:numbers* 3:shares 4:size 5:k 6:one -/
abbrev s_l_free_line : Stmt := top 39
abbrev N_l_free_line : List Str := ["_law_cell_here", "_law_n", "_law_numbers", "_law_shares", "_law_size", "_law_k", "_law_one"]
abbrev P_l_free_line : List Str := ["_law_cell_here", "_law_n"]
theorem sc_l_free_line : FnScope N_l_free_line P_l_free_line (defScope s_l_free_line) := ⟨rfl, rfl, rfl, by decide +kernel, rfl, by decide +kernel, by decide +kernel⟩
/-! def _law_wild, slots 0:cells 1:n* 2:many 3:big 4:numbers 5:bounds_here 6:k 7:most 8:drawn 9:spot 10:ray 11:paper 12:one 13:cell_here -/
abbrev s_l_wild : Stmt := top 40
abbrev N_l_wild : List Str := ["_law_cells", "_law_n", "_law_many", "_law_big", "_law_numbers", "_law_bounds_here", "_law_k", "_law_most", "_law_drawn", "_law_spot", "_law_ray", "_law_paper", "_law_one", "_law_cell_here"]
abbrev P_l_wild : List Str := ["_law_cells", "_law_n", "_law_many", "_law_big"]
theorem sc_l_wild : FnScope N_l_wild P_l_wild (defScope s_l_wild) := ⟨rfl, rfl, rfl, by decide +kernel, rfl, by decide +kernel, by decide +kernel⟩
/-! def _law_made, slots 0:kind 1:wild_here 2:cells 3:n 4:many 5:big -/
abbrev s_l_made : Stmt := top 41
abbrev N_l_made : List Str := ["_law_kind", "_law_wild_here", "_law_cells", "_law_n", "_law_many", "_law_big"]
abbrev P_l_made : List Str := ["_law_kind", "_law_wild_here", "_law_cells", "_law_n", "_law_many", "_law_big"]
theorem sc_l_made : FnScope N_l_made P_l_made (defScope s_l_made) := ⟨rfl, rfl, rfl, by decide +kernel, rfl, by decide +kernel, by decide +kernel⟩
/-! def _law_told, slots 0:kind 1:parts 2:spot 3:ray 4:paper -/
abbrev s_l_told : Stmt := top 42
abbrev N_l_told : List Str := ["_law_kind", "_law_parts", "_law_spot", "_law_ray", "_law_paper"]
abbrev P_l_told : List Str := ["_law_kind", "_law_parts"]
theorem sc_l_told : FnScope N_l_told P_l_told (defScope s_l_told) := ⟨rfl, rfl, rfl, by decide +kernel, rfl, by decide +kernel, by decide +kernel⟩
/-! def _law_bent, slots 0:line_here 1:way 2:at 3:step 4:entries 5:shares 6:number 7:weight -/
abbrev s_l_bent : Stmt := top 43
abbrev N_l_bent : List Str := ["_law_line_here", "_law_way", "_law_at", "_law_step", "_law_entries", "_law_shares", "_law_number", "_law_weight"]
abbrev P_l_bent : List Str := ["_law_line_here", "_law_way", "_law_at", "_law_step"]
theorem sc_l_bent : FnScope N_l_bent P_l_bent (defScope s_l_bent) := ⟨rfl, rfl, rfl, by decide +kernel, rfl, by decide +kernel, by decide +kernel⟩
/-! def _law_spoilt, slots 0:cell_here 1:paper 2:fresh 3:numbers 4:at 5:behind 6:step 7:bent_here -/
abbrev s_l_spoilt : Stmt := top 44
abbrev N_l_spoilt : List Str := ["_law_cell_here", "_law_paper", "_law_fresh", "_law_numbers", "_law_at", "_law_behind", "_law_step", "_law_bent_here"]
abbrev P_l_spoilt : List Str := ["_law_cell_here", "_law_paper", "_law_fresh"]
theorem sc_l_spoilt : FnScope N_l_spoilt P_l_spoilt (defScope s_l_spoilt) := ⟨rfl, rfl, rfl, by decide +kernel, rfl, by decide +kernel, by decide +kernel⟩
/-! def _law_bent_spot, slots 0:spot 1:way 2:at 3:step -/
abbrev s_l_bent_spot : Stmt := top 45
abbrev N_l_bent_spot : List Str := ["_law_spot", "_law_way", "_law_at", "_law_step"]
abbrev P_l_bent_spot : List Str := ["_law_spot", "_law_way", "_law_at", "_law_step"]
theorem sc_l_bent_spot : FnScope N_l_bent_spot P_l_bent_spot (defScope s_l_bent_spot) := ⟨rfl, rfl, rfl, by decide +kernel, rfl, by decide +kernel, by decide +kernel⟩
/-! def _law_bent_plan, slots 0:plan 1:spoil 2:at 3:step 4:bounds_here 5:rows_here 6:goal 7:entries 8:bound 9:least 10:most -/
abbrev s_l_bent_plan : Stmt := top 46
abbrev N_l_bent_plan : List Str := ["_law_plan", "_law_spoil", "_law_at", "_law_step", "_law_bounds_here", "_law_rows_here", "_law_goal", "_law_entries", "_law_bound", "_law_least", "_law_most"]
abbrev P_l_bent_plan : List Str := ["_law_plan", "_law_spoil", "_law_at", "_law_step"]
theorem sc_l_bent_plan : FnScope N_l_bent_plan P_l_bent_plan (defScope s_l_bent_plan) := ⟨rfl, rfl, rfl, by decide +kernel, rfl, by decide +kernel, by decide +kernel⟩
/-! def _law_bent_parts, slots 0:parts 1:spoil 2:bends 3:cell_here 4:n 5:spot 6:ray 7:paper -/
abbrev s_l_bent_parts : Stmt := top 47
abbrev N_l_bent_parts : List Str := ["_law_parts", "_law_spoil", "_law_bends", "_law_cell_here", "_law_n", "_law_spot", "_law_ray", "_law_paper"]
abbrev P_l_bent_parts : List Str := ["_law_parts", "_law_spoil", "_law_bends", "_law_cell_here", "_law_n"]
theorem sc_l_bent_parts : FnScope N_l_bent_parts P_l_bent_parts (defScope s_l_bent_parts) := ⟨rfl, rfl, rfl, by decide +kernel, rfl, by decide +kernel, by decide +kernel⟩
/-! def _law_due, slots 0:kind 1:plan 2:parts 3:standing 4:goal 5:n 6:spot* 7:ray* 8:paper 9:row -/
abbrev s_l_due : Stmt := top 48
abbrev N_l_due : List Str := ["_law_kind", "_law_plan", "_law_parts", "_law_standing", "_law_goal", "_law_n", "_law_spot", "_law_ray", "_law_paper", "_law_row"]
abbrev P_l_due : List Str := ["_law_kind", "_law_plan", "_law_parts"]
theorem sc_l_due : FnScope N_l_due P_l_due (defScope s_l_due) := ⟨rfl, rfl, rfl, by decide +kernel, rfl, by decide +kernel, by decide +kernel⟩
/-! def law, slots 0:script* 1:shape 2:kind 3:n 4:cells 5:plan 6:parts 7:step 8:told_here 9:k -/
abbrev s_p_law : Stmt := top 49
abbrev N_p_law : List Str := ["_law_script", "_law_shape", "_law_kind", "_law_n", "_law_cells", "_law_plan", "_law_parts", "_law_step", "_law_told_here", "_law_k"]
abbrev P_p_law : List Str := ["_law_script"]
theorem sc_p_law : FnScope N_p_law P_p_law (defScope s_p_law) := ⟨rfl, rfl, rfl, by decide +kernel, rfl, by decide +kernel, by decide +kernel⟩

/-! ### comprehensions over lists of one kind -/
section
variable {K : PySem.W.Frag} {ρ : List Sl} {wi : TI} {gt : TG} {te : TE} {vs : List Nat}
theorem evn_map {α : Type} {g : α → Dt} (h : α → Dt) (xs : List α) (hi : EvI K wi ρ (xs.map g)) (hz : xs.length ≤ 100000) (he : ∀ (i : Nat) x, xs[i]? = some x → ∃ js ρ', EvG K gt (g x) js (wipeS ρ vs) ρ' ∧ (∀ j ∈ js, j ∈ vs) ∧ EvD K te ρ' (h x)) :
    EvN K (tLc wi gt tYes te vs) ρ (xs.map h) := by
  refine (evnp_lc (Src := fun es => es = xs.map g) (R := fun es => es = xs.map h) (hi.p rfl) fun es e => ?_).imp1
  subst e
  refine ⟨by simpa using hz, fun i acc => acc = (xs.take i).map h, by simp, fun i d acc hd hacc => ?_, fun acc hacc => ?_⟩
  · rw [List.getElem?_map] at hd
    obtain ⟨x, hx, rfl⟩ := Option.map_eq_some_iff.mp hd
    obtain ⟨js, ρ', h1, h2, h3⟩ := he i x hx
    refine ⟨js, ρ', h1, h2, .inl ⟨et_yes, h3.p ?_⟩⟩
    show acc ++ [h x] = (xs.take (i + 1)).map h
    rw [show acc = (xs.take i).map h from hacc, List.take_add_one, hx]
    simp
  · rw [show acc = (xs.take (xs.map g).length).map h from hacc, List.length_map, List.take_length]
theorem evn_zipm {α β : Type} {g : α → Dt} {g' : β → Dt} (h : α → β → Dt) (xs : List α) (ys : List β) (hi : EvI K wi ρ (zipD (xs.map g) (ys.map g'))) (hz : xs.length ≤ 100000)
    (he : ∀ (i : Nat) x y, xs[i]? = some x → ys[i]? = some y → ∃ js ρ', EvG K gt (.tup [g x, g' y]) js (wipeS ρ vs) ρ' ∧ (∀ j ∈ js, j ∈ vs) ∧ EvD K te ρ' (h x y)) : EvN K (tLc wi gt tYes te vs) ρ (List.zipWith h xs ys) := by
  refine (evnp_lc (Src := fun es => es = zipD (xs.map g) (ys.map g')) (R := fun es => es = List.zipWith h xs ys) (hi.p rfl) fun es e => ?_).imp1
  subst e
  have lz : (zipD (xs.map g) (ys.map g')).length = (List.zipWith h xs ys).length := by rw [zipD_len]; simp
  refine ⟨by rw [lz]; simp; omega, fun i acc => acc = (List.zipWith h xs ys).take i, by simp, fun i d acc hd hacc => ?_, fun acc hacc => ?_⟩
  · obtain ⟨d1, d2, h1, h2, rfl⟩ := zipD_get hd
    rw [List.getElem?_map] at h1 h2
    obtain ⟨x, hx, rfl⟩ := Option.map_eq_some_iff.mp h1
    obtain ⟨y, hy, rfl⟩ := Option.map_eq_some_iff.mp h2
    obtain ⟨js, ρ', k1, k2, k3⟩ := he i x y hx hy
    refine ⟨js, ρ', k1, k2, .inl ⟨et_yes, k3.p ?_⟩⟩
    show acc ++ [h x y] = (List.zipWith h xs ys).take (i + 1)
    rw [show acc = (List.zipWith h xs ys).take i from hacc, List.take_add_one, List.getElem?_zipWith, hx, hy]
    rfl
  · rw [show acc = (List.zipWith h xs ys).take _ from hacc, lz, List.take_length]
theorem evn_range {lo : Int} {n : Nat} (h : Nat → Dt) (hi : EvI K wi ρ (rangeD lo n)) (hz : n ≤ 100000) (he : ∀ (i : Nat), i < n → ∃ js ρ', EvG K gt (.int (lo + (i : Nat))) js (wipeS ρ vs) ρ' ∧ (∀ j ∈ js, j ∈ vs) ∧ EvD K te ρ' (h i)) :
    EvN K (tLc wi gt tYes te vs) ρ ((List.range n).map h) := by
  refine evn_map (g := fun i : Nat => Dt.int (lo + (i : Nat))) h (List.range n) hi (by simpa using hz) fun i x hx => ?_
  obtain ⟨h1, h2⟩ := List.getElem?_eq_some_iff.mp hx
  rw [List.getElem_range] at h2
  subst h2
  exact he i (by simpa using h1)
end
theorem smk (n : Int) (h : -1000 ≤ n ∧ n ≤ 1000) : Sm 1000 n := h
theorem cpow10 : CPow 10 18 := ⟨by decide, by decide, by decide⟩
/-! ### more data -/
abbrev seqD (k : Bool) (ds : List Dt) : Dt := if k then .lst ds else .tup ds
theorem items_seq (k : Bool) (ds : List Dt) : items (seqD k ds) = some ds := by cases k <;> rfl
def sumD : Option (List Int × Int) → Dt
  | none => .non
  | some t => .tup [lstI t.1, .int t.2]
def totD : Option (List Int × Int) → Dt
  | none => .non
  | some t => lstI (t.1 ++ [t.2])
def optRow : Option Row → Dt
  | none => .non
  | some r => rowD r
abbrev linesT (p : List Line) : Dt := .tup (p.map lineD)
abbrev linesL (p : List Line) : Dt := .lst (p.map lineD)
abbrev partsD (spot ray : List Int) (paper : List Line) : Dt := .tup [tupI spot, tupI ray, linesL paper]
def mkTold (kind : Int) (spot ray : List Int) (paper : List Line) : Told := if kind = 0 then .none paper else if kind = 1 then .endless spot ray else .best spot paper
def Drawn (sizes ns : List Int) : Prop := ns.length = sizes.length ∧ ∀ (i : Nat) x s, ns[i]? = some x → sizes[i]? = some s → 0 ≤ x ∧ x < s
def BoundsOk (bs : List (Int × Option Int)) : Prop := ∀ b ∈ bs, Sm 20 b.1 ∧ ∀ m, b.2 = some m → Sm 20 m
def SharesOk (B : Int) (sh : List (Int × Int)) : Prop := (∀ s ∈ sh, Sm B s.2) ∧ sh.length ≤ 100
def BuiltOk (n : Nat) (d : Dt) : Prop := ∃ p spot ray paper, d = .tup [planD p, partsD spot ray paper] ∧ PlanOk n p ∧ SpotOk 1000 spot ∧ SpotOk 1000 ray ∧ PaperOk 1000 paper ∧ paper.length ≤ 40 ∧ spot.length ≤ 40 ∧ ray.length ≤ 40
def ToldOk : Told → Prop
  | .none p => PaperOk 5000 p
  | .endless s r => SpotOk 5000 s ∧ SpotOk 5000 r
  | .best s p => SpotOk 5000 s ∧ PaperOk 5000 p
abbrev B6 : Int := 2 ^ 60

/-! ### the promises -/
section
variable (K : PySem.W.Frag)
def sp_p_up : Sp := spX K (fun (x : Int × Int) => [.int x.1, .int x.2]) (fun x => 0 < x.2 ∧ x.2 < 2 ^ 60) (fun x d => d = .int (upV x.1 x.2))
def sp_p_left : Sp := spX K (fun (x : List Int × List Int) => [tupI x.1, tupI x.2]) (fun x => x.1.length = x.2.length ∧ ∀ y ∈ x.2, Sm B6 y) (fun x d => d = .int (dot x.1 x.2))
def sp_p_meets : Sp := spX K (fun (x : Row × List Int) => [rowD x.1, tupI x.2]) (fun x => x.1.1.length = x.2.length ∧ ∀ y ∈ x.2, Sm B6 y) (fun x d => d = .bl (meetsV x.1 x.2))
def sp_p_turned : Sp := spX K (fun (x : Row) => [rowD x]) (fun x => x.1.length ≤ 1000) (fun x d => d = rowD (negV x.1, -x.2))
def sp_p_unit : Sp := spX K (fun (x : Nat × Nat × Int) => [.int x.1, .int x.2.1, .int x.2.2]) (fun x => x.2.1 < x.1 ∧ x.1 ≤ 100) (fun x d => d = tupI (unitV x.1 x.2.1 x.2.2))
def sp_p_givens : Sp := spX K (fun (x : Plan) => [planD x]) (fun x => x.bounds.length ≤ 50 ∧ x.rows.length ≤ 1000) (fun x d => d = rowsT (givensV x.bounds x.rows))
def sp_p_worth : Sp := spX K (fun (x : Plan × List Int) => [planD x.1, tupI x.2]) (fun x => x.1.goal.length = x.2.length ∧ ∀ y ∈ x.2, Sm B6 y) (fun x d => d = .int (dot x.1.goal x.2))
def sp_p_better : Sp := spX K (fun (x : Plan × Int) => [planD x.1, .int x.2]) (fun _ => True) (fun x d => d = rowD (x.1.goal, x.2 + 1))
def sp_p_row_width : Sp := spX K (fun (x : Bool × List Row) => [seqD x.1 (x.2.map rowD)]) (fun _ => True) (fun x d => d = .int (width x.2))
def sp_p_shares_sum : Sp := spX K (fun (x : List Row × List (Int × Int) × Nat) => [rowsL x.1, .tup (x.2.1.map shD), .int x.2.2]) (fun x => SharesOk B6 x.2.1 ∧ x.2.2 ≤ 1000) (fun x d => d = sumD (sharesSum x.1 x.2.1 (List.replicate x.2.2 0, 0)))
def sp_p_line_row : Sp := spX K (fun (x : List Row × List (Int × Int) × Int) => [rowsL x.1, .tup (x.2.1.map shD), .int x.2.2]) (fun x => SharesOk B6 x.2.1 ∧ Sm 10000 x.2.2 ∧ width x.1 ≤ 1000) (fun x d => d = optRow (lineRow (width x.1) x.1 x.2.1 x.2.2))
def sp_p_all_noughts : Sp := spX K (fun (x : List Int) => [tupI x]) (fun x => x.length ≤ 1000) (fun x d => d = .bl (noughts x))
def sp_p_row_shuts : Sp := spX K (fun (x : List Row × Int) => [rowsL x.1, .int x.2]) (fun x => ∀ r ∈ x.1, r.1.length ≤ 1000) (fun x d => d = .bl (rowShuts x.1 x.2))
def sp_p_bars : Sp := spX K (fun (x : Nat × List Row × List Line) => [rowsT x.2.1, linesT x.2.2]) (fun x => x.1 ≤ 100 ∧ RowsOk x.1 x.2.1 ∧ (x.2.1 = [] → x.1 = 0) ∧ PaperOk 5000 x.2.2 ∧ x.2.1.length ≤ 1000) (fun x d => d = .bl (barsV x.1 x.2.1 [] x.2.2))
def sp_p_ray_holds : Sp := spX K (fun (x : List Row × List Int × List Int) => [rowsT x.1, tupI x.2.1, tupI x.2.2]) (fun x => RowsOk x.2.1.length x.1 ∧ x.1.length ≤ 1000 ∧ ∀ y ∈ x.2.2, Sm B6 y) (fun x d => d = .bl (rayV x.1 x.2.1 x.2.2))
def sp_p_holds : Sp := spX K (fun (x : Nat × Plan × Told) => [planD x.2.1, toldD x.2.2]) (fun x => PlanOk x.1 x.2.1 ∧ ToldOk x.2.2) (fun x d => d = .bl (holdsV x.2.1 x.2.2))
def sp_l_cell : Sp := spX K (fun (x : List Int × Int) => [.scr x.1, .int x.2]) (fun x => x.1.length ≤ 63) (fun _ d => ∃ i, d = .int i)
def sp_l_draws : Sp := spX K (fun (x : Int × Int × List Int) => [.int x.1, .int x.2.1, lstI x.2.2]) (fun x => Sm 1000 x.2.1 ∧ x.2.2.length ≤ 1000 ∧ ∀ s ∈ x.2.2, 0 < s ∧ s < 2 ^ 60) (fun x d => ∃ ns, d = lstI ns ∧ Drawn x.2.2 ns)
def sp_l_total : Sp := spX K (fun (x : Bool × List Row × List (Int × Int) × Nat) => [rowsL x.2.1, seqD x.1 (x.2.2.1.map shD), .int x.2.2.2]) (fun x => RowsOk x.2.2.2 x.2.1 ∧ SharesOk B6 x.2.2.1 ∧ x.2.2.2 ≤ 1000) (fun x d => d = totD (sharesSum x.2.1 x.2.2.1 (List.replicate x.2.2.2 0, 0)))
def sp_l_line : Sp := spX K (fun (x : List Row × List (Int × Int) × Int × Nat) => [rowsL x.1, .tup (x.2.1.map shD), .int x.2.2.1, .int x.2.2.2]) (fun x => RowsOk x.2.2.2 x.1 ∧ SharesOk B6 x.2.1 ∧ Sm 10000 x.2.2.1 ∧ x.2.2.2 ≤ 1000) (fun x d => d = optRow (lineRow x.2.2.2 x.1 x.2.1 x.2.2.1))
def sp_l_rows : Sp := spX K (fun (x : Int × Int × Nat × Nat × Int) => [.int x.1, .int x.2.1, .int x.2.2.1, .int x.2.2.2.1, .int x.2.2.2.2]) (fun x => Sm 1000 x.2.1 ∧ x.2.2.1 ≤ 8 ∧ x.2.2.2.1 ≤ 5 ∧ 1 ≤ x.2.2.2.2 ∧ x.2.2.2.2 ≤ 1000000000) (fun x d => ∃ rs, d = rowsL rs ∧ rs.length = x.2.2.2.1 ∧ RowsOk x.2.2.1 rs)
def sp_l_bars : Sp := spX K (fun (x : Nat × List Row × List Line) => [rowsL x.2.1, linesL x.2.2, .int x.1]) (fun x => x.1 ≤ 100 ∧ RowsOk x.1 x.2.1 ∧ PaperOk 5000 x.2.2 ∧ x.2.1.length ≤ 1000) (fun x d => d = .bl (barsV x.1 x.2.1 [] x.2.2))
def sp_l_left : Sp := spX K (fun (x : List Int × List Int) => [tupI x.1, tupI x.2]) (fun x => x.1.length = x.2.length ∧ x.1.length ≤ 1000 ∧ ∀ y ∈ x.2, Sm B6 y) (fun x d => d = .int (dot x.1 x.2))
def sp_l_unit : Sp := spX K (fun (x : Nat × Nat × Int) => [.int x.1, .int x.2.1, .int x.2.2]) (fun x => x.2.1 < x.1 ∧ x.1 ≤ 100) (fun x d => d = tupI (unitV x.1 x.2.1 x.2.2))
def sp_l_givens : Sp := spX K (fun (x : Bool × List (Int × Option Int) × List Row × Dt) => [.tup [.tup (x.2.1.map boundD), seqD x.1 (x.2.2.1.map rowD), x.2.2.2]]) (fun x => x.2.1.length ≤ 50 ∧ x.2.2.1.length ≤ 1000) (fun x d => d = rowsL (givensV x.2.1 x.2.2.1))
def sp_l_bounds : Sp := spX K (fun (x : Int × Nat) => [.int x.1, .int x.2]) (fun x => x.2 ≤ 8) (fun x d => ∃ bs, d = .tup (bs.map boundD) ∧ bs.length = x.2 ∧ BoundsOk bs)
def sp_l_tree : Sp := spX K (fun (x : Int × Int × Nat × List (Int × Int)) => [.int x.1, .int x.2.1, .int x.2.2.1, .lst (x.2.2.2.map shD)]) (fun x => x.2.2.1 ≤ 8 ∧ SharesOk 100 x.2.2.2) (fun x d => ∃ p, d = linesL p ∧ p.length ≤ 30 ∧ PaperOk 1000 p)
def encBuilt (x : List Int × Nat × Nat × Int) : List Dt := [lstI x.1, .int x.2.1, .int x.2.2.1, .int x.2.2.2]
def preBuilt (x : List Int × Nat × Nat × Int) : Prop := x.1.length = 6 ∧ x.2.1 ≤ 8 ∧ x.2.2.1 ≤ 4 ∧ 1 ≤ x.2.2.2 ∧ x.2.2.2 ≤ 1000000000
def sp_l_none_built : Sp := spX K encBuilt preBuilt (fun x d => BuiltOk x.2.1 d)
def sp_l_best_built : Sp := spX K encBuilt preBuilt (fun x d => BuiltOk x.2.1 d)
def sp_l_endless_built : Sp := spX K encBuilt preBuilt (fun x d => BuiltOk x.2.1 d)
def sp_l_wild : Sp := spX K encBuilt preBuilt (fun x d => BuiltOk x.2.1 d)
def sp_l_made : Sp := spX K (fun (x : Int × Bool × List Int × Nat × Nat × Int) => .int x.1 :: .bl x.2.1 :: encBuilt x.2.2) (fun x => preBuilt x.2.2) (fun x d => BuiltOk x.2.2.2.1 d)
def sp_l_spot_in : Sp := spX K (fun (x : Int × List (Int × Option Int)) => [.int x.1, .tup (x.2.map boundD)]) (fun x => x.2.length ≤ 8 ∧ BoundsOk x.2) (fun x d => ∃ s, d = tupI s ∧ s.length = x.2.length ∧ ∀ y ∈ s, Sm 100 y)
def sp_l_free_line : Sp := spX K (fun (x : Int × Nat) => [.int x.1, .int x.2]) (fun x => x.2 ≤ 8) (fun _ d => ∃ l, d = lineD l ∧ LineOk 1000 l)
def sp_l_told : Sp := spX K (fun (x : Int × List Int × List Int × List Line) => [.int x.1, partsD x.2.1 x.2.2.1 x.2.2.2]) (fun _ => True) (fun x d => d = toldD (mkTold x.1 x.2.1 x.2.2.1 x.2.2.2))
def sp_l_bent : Sp := spX K (fun (x : Line × Int × Int × Int) => [lineD x.1, .int x.2.1, .int x.2.2.1, .int x.2.2.2]) (fun x => LineOk 1000 x.1 ∧ Sm 100 x.2.2.2) (fun _ d => ∃ l, d = lineD l ∧ LineOk 2000 l)
def sp_l_spoilt : Sp := spX K (fun (x : Int × List Line × Line) => [.int x.1, linesL x.2.1, lineD x.2.2]) (fun x => x.2.1 ≠ [] ∧ PaperOk 1000 x.2.1 ∧ x.2.1.length ≤ 40 ∧ LineOk 1000 x.2.2) (fun _ d => ∃ p, d = linesL p ∧ PaperOk 5000 p)
def sp_l_bent_spot : Sp := spX K (fun (x : List Int × Int × Int × Int) => [tupI x.1, .int x.2.1, .int x.2.2.1, .int x.2.2.2]) (fun x => SpotOk 1000 x.1 ∧ x.1.length ≤ 40 ∧ Sm 100 x.2.2.2) (fun _ d => ∃ s, d = tupI s ∧ SpotOk 5000 s)
def sp_l_bent_plan : Sp := spX K (fun (x : Nat × Plan × Int × Int × Int) => [planD x.2.1, .int x.2.2.1, .int x.2.2.2.1, .int x.2.2.2.2]) (fun x => PlanOk x.1 x.2.1) (fun x d => ∃ p, d = planD p ∧ PlanOk x.1 p)
structure BP where
  spot : List Int
  ray : List Int
  paper : List Line
  spoil : Int
  way : Int
  at_ : Int
  step : Int
  cell : Int
  n : Nat
def sp_l_bent_parts : Sp := spX K (fun (x : BP) => [partsD x.spot x.ray x.paper, .int x.spoil, .tup [.int x.way, .int x.at_, .int x.step], .int x.cell, .int x.n])
  (fun x => SpotOk 1000 x.spot ∧ SpotOk 1000 x.ray ∧ PaperOk 1000 x.paper ∧ x.paper.length ≤ 40 ∧ x.spot.length ≤ 40 ∧ x.ray.length ≤ 40 ∧ Sm 100 x.step ∧ x.n ≤ 8) (fun _ d => ∃ s r p, d = partsD s r p ∧ SpotOk 5000 s ∧ SpotOk 5000 r ∧ PaperOk 5000 p)
def sp_l_due : Sp := spX K (fun (x : Int × Nat × Plan × List Int × List Int × List Line) => [.int x.1, planD x.2.2.1, partsD x.2.2.2.1 x.2.2.2.2.1 x.2.2.2.2.2])
  (fun x => (x.1 = 0 ∨ x.1 = 1 ∨ x.1 = 2) ∧ PlanOk x.2.1 x.2.2.1 ∧ SpotOk 5000 x.2.2.2.1 ∧ SpotOk 5000 x.2.2.2.2.1 ∧ PaperOk 5000 x.2.2.2.2.2) (fun x d => d = .bl (holdsV x.2.2.1 (mkTold x.1 x.2.2.2.1 x.2.2.2.2.1 x.2.2.2.2.2)))
def sp_p_law : Sp := spX K (fun (x : List Int) => [.scr x]) (fun x => x.length ≤ 63) (fun _ d => d = .bl true)
end
end Cy
namespace Cy
open PySem PySem.Spec L2 Dr Dl
section
variable {P : Program} {w : World} {K : PySem.W.Frag} {mg : Str → Option Value} {base : Heap}

local macro_rules | `(tactic| walk_at "od") => `(tactic| first
  | with_reducible exact od_add
  | with_reducible exact od_sub
  | with_reducible exact od_lt
  | with_reducible exact od_le
  | with_reducible exact od_gt
  | with_reducible exact od_ge
  | with_reducible exact od_eqI
  | with_reducible exact od_neI
  | with_reducible exact od_eqS
  | with_reducible exact od_eqB
  | with_reducible exact od_isN
  | with_reducible exact od_notN
  | ((with_reducible refine' od_mul ?k1); (case k1 => (first | assumption | exact Or.inl (by omega) | exact Or.inr (by omega))))
  | with_reducible exact od_pow cpow10
  | ((with_reducible refine' od_mod ?k1); (case k1 => (first | assumption | omega)))
  | ((with_reducible refine' od_div ?k1 ?k2); (case k1 => (first | assumption | omega)); (case k2 => (first | assumption | omega)))
  | ((with_reducible refine' od_ixT ?k1); (case k1 => (first | assumption | rfl)))
  | ((with_reducible refine' od_ixL ?k1); (case k1 => (first | assumption | rfl)))
  | ((with_reducible refine' od_ixS ?k1); (case k1 => (first | assumption | rfl)))
  | ((with_reducible refine' od_catT ?k1); (case k1 => (first | assumption | (simp; omega)))))
local macro_rules | `(tactic| walk_at "cb") => `(tactic| first
  | with_reducible exact cb_lenTm
  | with_reducible exact cb_lenLm
  | with_reducible exact cb_lenT
  | with_reducible exact cb_lenL
  | with_reducible exact cb_lenS
  | with_reducible exact cb_tupL
  | with_reducible exact cb_tupT
  | with_reducible exact cb_sum
  | with_reducible exact cb_all
  | with_reducible exact cb_any
  | with_reducible exact cb_abs
  | with_reducible exact cb_max
  | with_reducible exact cb_min
  | with_reducible exact cb_intB)
local macro_rules | `(tactic| walk_at "ev") => `(tactic| first
  | ((with_reducible refine' ev_var ?k1); (case k1 => rfl))
  | with_reducible exact ev_int
  | with_reducible exact ev_non
  | with_reducible exact ev_str
  | with_reducible exact ev_bl
  | ((with_reducible refine' ev_op ?k1 ?k2 ?k3); (case k1 => walk_at "ev"); (case k2 => walk_at "ev"); (case k3 => walk_at "od"))
  | ((with_reducible refine' ev_un ?k1 ud_neg); (case k1 => walk_at "ev"))
  | ((with_reducible refine' ev_tup ?k1 ?k2); (case k1 => walk_at "ea"); (case k2 => (first | (simp; done) | (simp; omega))))
  | ((with_reducible refine' ev_cb ?k1 ?k2); (case k1 => walk_at "ea"); (case k2 => walk_at "cb"))
  | ((with_reducible refine' ev_slT ?k1 ?k2 ?k3); (case k1 => walk_at "ev"); (case k2 => walk_at "eo"); (case k3 => walk_at "eo"))
  | ((with_reducible refine' EvN.dt ?k1); (case k1 => walk_at "en")))
local macro_rules | `(tactic| walk_at "eo") => `(tactic| first
  | with_reducible exact eo_none
  | ((with_reducible refine' eo_some ?k1); (case k1 => walk_at "ev")))
local macro_rules | `(tactic| walk_at "ea") => `(tactic| first
  | with_reducible exact ea_nil
  | ((with_reducible refine' ea_cons ?k1 ?k2); (case k1 => walk_at "ev"); (case k2 => walk_at "ea")))
local macro_rules | `(tactic| walk_at "en") => `(tactic| first
  | ((with_reducible refine' evn_lst ?k1 ?k2); (case k1 => walk_at "ea"); (case k2 => (first | (simp; done) | (simp; omega))))
  | ((with_reducible refine' evn_op ?k1 ?k2 (on_cat ?k3)); (case k1 => walk_at "ev"); (case k2 => walk_at "ev"); (case k3 => (first | assumption | (simp; omega))))
  | ((with_reducible refine' evn_op ?k1 ?k2 (on_rep ?k3 ?k4)); (case k1 => walk_at "ev"); (case k2 => walk_at "ev"); (case k3 => (first | assumption | (simp; omega))); (case k4 => (first | assumption | omega)))
  | ((with_reducible refine' evn_sl ?k1 ?k2 ?k3); (case k1 => walk_at "ev"); (case k2 => walk_at "eo"); (case k3 => walk_at "eo"))
  | ((with_reducible refine' evn_cb ?k1 cb_listL); (case k1 => walk_at "ea"))
  | ((with_reducible refine' evn_cb ?k1 cb_listT); (case k1 => walk_at "ea")))
local macro_rules | `(tactic| walk_at "et") => `(tactic| first
  | ((with_reducible refine' et_cmp ?k1); (case k1 => walk_at "ev"))
  | ((with_reducible refine' et_or ?k1 ?k2); (case k1 => walk_at "et"); (case k2 => (intro _; walk_at "et")))
  | ((with_reducible refine' et_and ?k1 ?k2); (case k1 => walk_at "et"); (case k2 => (intro _; walk_at "et")))
  | ((with_reducible refine' et_not ?k1); (case k1 => walk_at "et"))
  | ((with_reducible refine' et_trM ?k1); (case k1 => rfl))
  | ((with_reducible refine' et_trMs ?k1); (case k1 => rfl))
  | ((with_reducible refine' et_trB ?k1); (case k1 => walk_at "ev"))
  | ((with_reducible refine' et_trT ?k1); (case k1 => walk_at "ev"))
  | ((with_reducible refine' et_trL ?k1); (case k1 => walk_at "ev"))
  | ((with_reducible refine' et_trS ?k1); (case k1 => walk_at "ev")))


theorem ok_p_up {a : Addr} {fd : FuncData} (F : Fun K "up" "up" s_p_up a fd) (T : Tx mg)  : FnOk P w K mg base CX0 1 a fd P_p_up (sp_p_up K) := by
  refine F.ok sc_p_up (fun vs H Q E h => sp_len (n := 2) (fun _ => rfl) vs H Q E h) (fun cdv A outer s H vs Q E hr h => ?_)
  refine ⟨_, (pss_cons (ps_if (pt_cmpR op_lt (pv 1) pe_int (nomark _)) (pss_one ps_never) pss_nil)
      (pss_one (ps_ret (pe_un un_neg (pe_op op_fdivW (pe_un un_neg (pv 0)) (pv 1)))))), fn_do (N := N_p_up) (fun x hx => ?_) h⟩
  obtain ⟨t, b⟩ := x
  obtain ⟨h1, h2⟩ := hx
  refine do_seq (do_if (b := false) ((?_ : EvT K _ _ (decide (b < 1))).to (by simp; omega)) (fun q => nomatch q) (fun _ => do_next ?_))
  · walk_at "et"
  refine do_ret (d := .int (upV t b)) ?_ rfl
  have h3 : b < 2 ^ 64 := by omega
  walk_at "ev"

theorem ok_p_left {a : Addr} {fd : FuncData} (F : Fun K "left" "left" s_p_left a fd) (T : Tx mg)  : FnOk P w K mg base CX0 1 a fd P_p_left (sp_p_left K) := by
  refine F.ok sc_p_left (fun vs H Q E h => sp_len (n := 2) (fun _ => rfl) vs H Q E h) (fun cdv A outer s H vs Q E hr h => ?_)
  refine ⟨_, (pss_cons (ps_set (i := 2) sc_p_left.nd rfl (Or.inl rfl) pe_int)
      (pss_cons (ps_for PassesOwn.never rfl (zip_k K (by rfl) T.zip (pa_cons (pv 0) (pa_cons (pv 1) pa_nil))) (tup_k K (n := 2) (pgs_cons (pg_name (i := 3) sc_p_left.nd rfl (Or.inl rfl)) (pgs_cons (pg_name (i := 4) sc_p_left.nd rfl (Or.inl rfl)) pgs_nil))) (pss_one (ps_aug (i := 2) sc_p_left.nd rfl (Or.inl rfl) (pe_op op_mulA (pv 3) (pv 4)) ip_add)))
      (pss_one (ps_ret (pv 2))))), fn_do (N := N_p_left) (fun x hx => ?_) h⟩
  obtain ⟨es, sp⟩ := x
  obtain ⟨hl, hb⟩ := hx
  have hl : es.length = sp.length := hl
  refine do_seq (do_asg ev_int ?_)
  refine do_seq (do_for (ei_zip (ds := es.map Dt.int) (es := sp.map Dt.int) (by walk_at "ea") (by simp [hl])) (fun i ρ => ∃ s4 s3, ρ = [.fz (tupI es), .fz (tupI sp), .fz (.int (dot (es.take i) (sp.take i))), s3, s4]) ⟨_, _, rfl⟩ ?_ ?_)
  · rintro i d ρ' hd ⟨s4, s3, rfl⟩
    obtain ⟨d1, d2, h1, h2, rfl⟩ := zipD_get hd
    rw [List.getElem?_map] at h1 h2
    obtain ⟨a, ha, rfl⟩ := Option.map_eq_some_iff.mp h1
    obtain ⟨b, hb2, rfl⟩ := Option.map_eq_some_iff.mp h2
    have hsm : -(2 ^ 60) ≤ b ∧ b ≤ 2 ^ 60 := hb b (List.mem_of_getElem? hb2)
    have hm : CMul a b := .inr (by obtain ⟨q1, q2⟩ := hsm; omega)
    refine ⟨_, _, g_tup (gs_cons g_name (gs_cons g_name gs_nil)), ?_⟩
    refine do_aug (a := dot (es.take i) (sp.take i)) (b := a * b) rfl (by walk_at "ev") ?_
    have e : dot (es.take (i + 1)) (sp.take (i + 1)) = dot (es.take i) (sp.take i) + a * b := by
      unfold dot
      rw [List.take_add_one, List.take_add_one, ha, hb2, List.zipWith_append (by simp [hl])]
      simp
    exact ⟨.fz (.int b), .fz (.int a), by rw [e]; rfl⟩
  · rintro ρ' ⟨s4, s3, rfl⟩
    refine do_ret (by walk_at "ev") ?_
    have lz : (zipD (es.map Dt.int) (sp.map Dt.int)).length = es.length := by rw [zipD_len]; simp [hl]
    show Dt.int _ = Dt.int _
    rw [lz, List.take_length, hl, List.take_length]
end
end Cy
namespace Cy
open PySem PySem.Spec L2 Dr Dl
section
variable {P : Program} {w : World} {K : PySem.W.Frag} {mg : Str → Option Value} {base : Heap}

local macro_rules | `(tactic| walk_at "od") => `(tactic| first
  | with_reducible exact od_add
  | with_reducible exact od_sub
  | with_reducible exact od_lt
  | with_reducible exact od_le
  | with_reducible exact od_gt
  | with_reducible exact od_ge
  | with_reducible exact od_eqI
  | with_reducible exact od_neI
  | with_reducible exact od_eqS
  | with_reducible exact od_eqB
  | with_reducible exact od_isN
  | with_reducible exact od_notN
  | ((with_reducible refine' od_mul ?k1); (case k1 => (first | assumption | exact Or.inl (by omega) | exact Or.inr (by omega))))
  | with_reducible exact od_pow cpow10
  | ((with_reducible refine' od_mod ?k1); (case k1 => (first | assumption | omega)))
  | ((with_reducible refine' od_div ?k1 ?k2); (case k1 => (first | assumption | omega)); (case k2 => (first | assumption | omega)))
  | ((with_reducible refine' od_ixT ?k1); (case k1 => (first | assumption | rfl)))
  | ((with_reducible refine' od_ixL ?k1); (case k1 => (first | assumption | rfl)))
  | ((with_reducible refine' od_ixS ?k1); (case k1 => (first | assumption | rfl)))
  | ((with_reducible refine' od_catT ?k1); (case k1 => (first | assumption | (simp; omega)))))
local macro_rules | `(tactic| walk_at "cb") => `(tactic| first
  | with_reducible exact cb_lenTm
  | with_reducible exact cb_lenLm
  | with_reducible exact cb_lenT
  | with_reducible exact cb_lenL
  | with_reducible exact cb_lenS
  | with_reducible exact cb_tupL
  | with_reducible exact cb_tupT
  | with_reducible exact cb_sum
  | with_reducible exact cb_all
  | with_reducible exact cb_any
  | with_reducible exact cb_abs
  | with_reducible exact cb_max
  | with_reducible exact cb_min
  | with_reducible exact cb_intB)
local macro_rules | `(tactic| walk_at "ev") => `(tactic| first
  | ((with_reducible refine' ev_var ?k1); (case k1 => rfl))
  | with_reducible exact ev_int
  | with_reducible exact ev_non
  | with_reducible exact ev_str
  | with_reducible exact ev_bl
  | ((with_reducible refine' ev_op ?k1 ?k2 ?k3); (case k1 => walk_at "ev"); (case k2 => walk_at "ev"); (case k3 => walk_at "od"))
  | ((with_reducible refine' ev_un ?k1 ud_neg); (case k1 => walk_at "ev"))
  | ((with_reducible refine' ev_tup ?k1 ?k2); (case k1 => walk_at "ea"); (case k2 => (first | (simp; done) | (simp; omega))))
  | ((with_reducible refine' ev_cb ?k1 ?k2); (case k1 => walk_at "ea"); (case k2 => walk_at "cb"))
  | ((with_reducible refine' ev_slT ?k1 ?k2 ?k3); (case k1 => walk_at "ev"); (case k2 => walk_at "eo"); (case k3 => walk_at "eo"))
  | ((with_reducible refine' EvN.dt ?k1); (case k1 => walk_at "en")))
local macro_rules | `(tactic| walk_at "eo") => `(tactic| first
  | with_reducible exact eo_none
  | ((with_reducible refine' eo_some ?k1); (case k1 => walk_at "ev")))
local macro_rules | `(tactic| walk_at "ea") => `(tactic| first
  | with_reducible exact ea_nil
  | ((with_reducible refine' ea_cons ?k1 ?k2); (case k1 => walk_at "ev"); (case k2 => walk_at "ea")))
local macro_rules | `(tactic| walk_at "en") => `(tactic| first
  | ((with_reducible refine' evn_lst ?k1 ?k2); (case k1 => walk_at "ea"); (case k2 => (first | (simp; done) | (simp; omega))))
  | ((with_reducible refine' evn_op ?k1 ?k2 (on_cat ?k3)); (case k1 => walk_at "ev"); (case k2 => walk_at "ev"); (case k3 => (first | assumption | (simp; omega))))
  | ((with_reducible refine' evn_op ?k1 ?k2 (on_rep ?k3 ?k4)); (case k1 => walk_at "ev"); (case k2 => walk_at "ev"); (case k3 => (first | assumption | (simp; omega))); (case k4 => (first | assumption | omega)))
  | ((with_reducible refine' evn_sl ?k1 ?k2 ?k3); (case k1 => walk_at "ev"); (case k2 => walk_at "eo"); (case k3 => walk_at "eo"))
  | ((with_reducible refine' evn_cb ?k1 cb_listL); (case k1 => walk_at "ea"))
  | ((with_reducible refine' evn_cb ?k1 cb_listT); (case k1 => walk_at "ea")))
local macro_rules | `(tactic| walk_at "et") => `(tactic| first
  | ((with_reducible refine' et_cmp ?k1); (case k1 => walk_at "ev"))
  | ((with_reducible refine' et_or ?k1 ?k2); (case k1 => walk_at "et"); (case k2 => (intro _; walk_at "et")))
  | ((with_reducible refine' et_and ?k1 ?k2); (case k1 => walk_at "et"); (case k2 => (intro _; walk_at "et")))
  | ((with_reducible refine' et_not ?k1); (case k1 => walk_at "et"))
  | ((with_reducible refine' et_trM ?k1); (case k1 => rfl))
  | ((with_reducible refine' et_trMs ?k1); (case k1 => rfl))
  | ((with_reducible refine' et_trB ?k1); (case k1 => walk_at "ev"))
  | ((with_reducible refine' et_trT ?k1); (case k1 => walk_at "ev"))
  | ((with_reducible refine' et_trL ?k1); (case k1 => walk_at "ev"))
  | ((with_reducible refine' et_trS ?k1); (case k1 => walk_at "ev")))

theorem ok_p_meets {a : Addr} {fd : FuncData} (F : Fun K "meets" "meets" s_p_meets a fd) (T : Tx mg) (D_p_left : Def P w K mg base 1 "left" P_p_left (sp_p_left K)) : FnOk P w K mg base CX0 2 a fd P_p_meets (sp_p_meets K) := by
  refine F.ok sc_p_meets (fun vs H Q E h => sp_len (n := 2) (fun _ => rfl) vs H Q E h) (fun cdv A outer s H vs Q E hr h => ?_)
  refine ⟨_, (pss_one (ps_ret (pe_cmpR op_ge (pe_def D_p_left hr (by rfl) (pa_cons (pe_ix (ix_k K) (pv 0) pe_int (fun _ _ => rfl)) (pa_cons (pv 1) pa_nil))) (pe_ix (ix_k K) (pv 0) pe_int (fun _ _ => rfl)) (nomark _)))), fn_do (N := N_p_meets) (fun x hx => ?_) h⟩
  obtain ⟨r, s⟩ := x
  exact do_ret (d := .bl (meetsV r s)) (ev_op (ev_call (r.1, s) (by walk_at "ea") hx) (by walk_at "ev") od_ge) rfl

theorem ok_p_turned {a : Addr} {fd : FuncData} (F : Fun K "turned" "turned" s_p_turned a fd) (T : Tx mg)  : FnOk P w K mg base CX0 1 a fd P_p_turned (sp_p_turned K) := by
  refine F.ok sc_p_turned (fun vs H Q E h => sp_len (n := 1) (fun _ => rfl) vs H Q E h) (fun cdv A outer s H vs Q E hr h => ?_)
  refine ⟨_, (pss_one (ps_ret (pe_tup (pa_cons (pe_callTy (tuple_k K) (by rfl) T.tuple bt_tuple (pa_cons (pe_lc (own := [("entry", 1)]) rfl sc_p_turned.nd (seq_k K (pe_ix (ix_k K) (pv 0) pe_int (fun _ _ => rfl))) (blkOk_by (own := [("entry", 1)]) (N := N_p_turned) (sc := defScope s_p_turned) (by decide +kernel)) (fun _ _ _ _ _ => (pg_name (i := 1) sc_p_turned.nd rfl (Or.inl rfl))) (fun _ _ _ _ _ => pts_nil) (fun _ _ _ _ _ => (pe_un un_neg (pv 1)))) pa_nil)) (pa_cons (pe_un un_neg (pe_ix (ix_k K) (pv 0) pe_int (fun _ _ => rfl))) pa_nil))))), fn_do (N := N_p_turned) (fun x hx => ?_) h⟩
  refine do_ret (d := rowD (negV x.1, -x.2)) (ev_tup (ea_cons (ev_cb (ea_cons (EvN.dt (ds := (negV x.1).map Dt.int) ?_) ea_nil) cb_tupL) (by walk_at "ea"))) rfl
  have hz : x.1.length ≤ 100000 := Nat.le_trans hx (by decide)
  refine (evn_map (g := Dt.int) (fun e => Dt.int (-e)) x.1 (ei_seq (by walk_at "ev")) hz fun i e he => ⟨_, _, g_name, by simp, by walk_at "ev"⟩).to ?_
  unfold negV
  rw [List.map_map]
  rfl

theorem ok_p_unit {a : Addr} {fd : FuncData} (F : Fun K "unit" "unit" s_p_unit a fd) (T : Tx mg)  : FnOk P w K mg base CX0 1 a fd P_p_unit (sp_p_unit K) := by
  refine F.ok sc_p_unit (fun vs H Q E h => sp_len (n := 3) (fun _ => rfl) vs H Q E h) (fun cdv A outer s H vs Q E hr h => ?_)
  refine ⟨_, (pss_cons (ps_setLc (i := 3) (own := [("k", 4)]) rfl sc_p_unit.nd rfl rfl (sw_true rfl rfl rfl (by decide +kernel)) (pi_range1 (by rfl) T.range (pa_cons (pv 0) pa_nil)) (blkOk_by (own := [("k", 4)]) (N := N_p_unit) (sc := defScope s_p_unit) (by decide +kernel)) (fun _ _ _ _ _ => (pg_name (i := 4) sc_p_unit.nd rfl (Or.inl rfl))) (fun _ _ _ _ _ => pts_nil) (fun _ _ _ _ _ => pe_int))
      (pss_cons (ps_asg (pv 2) (pg_sub (pv 3) (pv 1) set_list))
      (pss_one (ps_ret (pe_callTy (tuple_k K) (by rfl) T.tuple bt_tuple (pa_cons (pv 3) pa_nil)))))), fn_do (N := N_p_unit) (fun x hx => ?_) h⟩
  obtain ⟨n, at_, v⟩ := x
  obtain ⟨h1, h2⟩ := hx
  have h1 : at_ < n := h1
  have h2 : n ≤ 100 := h2
  refine do_seq (do_asgN (ds := (List.replicate n 0).map Dt.int) ?_ ?_)
  · refine (evn_range (lo := 0) (fun _ => Dt.int 0) (ei_range1 (by walk_at "ea") (by omega)) (by omega) fun i hi => ⟨_, _, g_name, by simp, ev_int⟩).to ?_
    simp [List.map_const']
  refine do_seq (do_setL (d := .int v) (j := at_) rfl (by walk_at "ev") (by walk_at "ev") rfl (by simpa using h1) ?_)
  refine do_ret (d := tupI (unitV n at_ v)) ((ev_peek (i := 3) rfl (ev_cb (ea_cons (ev_var rfl) ea_nil) cb_tupL) ?_).to ?_) ?_
  · rw [← List.map_set]
    simp only [Dt.imm, imm_tupI]
  · unfold unitV
    rw [← List.map_set]
  · rfl

theorem mostRows_snoc (n : Nat) (b : Int × Option Int) : ∀ (a : Nat) (bs : List (Int × Option Int)), mostRows n a (bs ++ [b]) = mostRows n a bs ++ mostRows n (a + bs.length) [b]
  | a, [] => rfl
  | a, (l, none) :: bs => by
    show mostRows n (a + 1) (bs ++ [b]) = mostRows n (a + 1) bs ++ _
    rw [mostRows_snoc n b (a + 1) bs, show a + 1 + bs.length = a + ((l, none) :: bs).length from by simp; omega]
  | a, (l, some m) :: bs => by
    show (unitV n a (-1), -m) :: mostRows n (a + 1) (bs ++ [b]) = (unitV n a (-1), -m) :: mostRows n (a + 1) bs ++ _
    rw [mostRows_snoc n b (a + 1) bs, show a + 1 + bs.length = a + ((l, some m) :: bs).length from by simp; omega]
    rfl
theorem mostRows_len (n : Nat) : ∀ (a : Nat) (bs : List (Int × Option Int)), (mostRows n a bs).length ≤ bs.length
  | a, [] => Nat.le_refl _
  | a, (l, none) :: bs => by
    show (mostRows n (a + 1) bs).length ≤ bs.length + 1
    have := mostRows_len n (a + 1) bs
    omega
  | a, (l, some m) :: bs => by
    show (mostRows n (a + 1) bs).length + 1 ≤ bs.length + 1
    have := mostRows_len n (a + 1) bs
    omega
theorem leastRows_len (n : Nat) (bs : List (Int × Option Int)) : (leastRows n bs).length = bs.length := by
  unfold leastRows
  simp

theorem ok_p_givens {a : Addr} {fd : FuncData} (F : Fun K "givens" "givens" s_p_givens a fd) (T : Tx mg) (D_p_unit : Def P w K mg base 1 "unit" P_p_unit (sp_p_unit K)) : FnOk P w K mg base CX0 2 a fd P_p_givens (sp_p_givens K) := by
  refine F.ok sc_p_givens (fun vs H Q E h => sp_len (n := 1) (fun _ => rfl) vs H Q E h) (fun cdv A outer s H vs Q E hr h => ?_)
  refine ⟨_, (pss_cons (ps_set (i := 1) sc_p_givens.nd rfl (Or.inl rfl) (pe_ix (ix_k K) (pv 0) pe_int (fun _ _ => rfl)))
      (pss_cons (ps_set (i := 2) sc_p_givens.nd rfl (Or.inl rfl) (pe_callB (len_k K) (by rfl) T.len bt_len (pa_cons (pv 1) pa_nil)))
      (pss_cons (ps_set (i := 3) sc_p_givens.nd rfl (Or.inl rfl) (pe_lst pa_nil))
      (pss_cons (ps_for PassesOwn.never rfl (enum_k K (by rfl) T.enumerate (pa_cons (pv 1) pa_nil)) (tup_k K (n := 2) (pgs_cons (pg_name (i := 4) sc_p_givens.nd rfl (Or.inl rfl)) (pgs_cons (tup_k K (n := 2) (pgs_cons (pg_name (i := 5) sc_p_givens.nd rfl (Or.inl rfl)) (pgs_cons (pg_name (i := 6) sc_p_givens.nd rfl (Or.inl rfl)) pgs_nil))) pgs_nil))) (pss_one (ps_expr (app_k K (pv 3) (pe_tup (pa_cons (pe_def D_p_unit hr (by rfl) (pa_cons (pv 2) (pa_cons (pv 4) (pa_cons pe_int pa_nil)))) (pa_cons (pv 5) pa_nil)))))))
      (pss_cons (ps_for PassesOwn.never rfl (enum_k K (by rfl) T.enumerate (pa_cons (pv 1) pa_nil)) (tup_k K (n := 2) (pgs_cons (pg_name (i := 4) sc_p_givens.nd rfl (Or.inl rfl)) (pgs_cons (tup_k K (n := 2) (pgs_cons (pg_name (i := 5) sc_p_givens.nd rfl (Or.inl rfl)) (pgs_cons (pg_name (i := 6) sc_p_givens.nd rfl (Or.inl rfl)) pgs_nil))) pgs_nil))) (pss_one (ps_if (pt_cmpR op_notN1 (pv 6) pe_non (nomark _)) (pss_one (ps_expr (app_k K (pv 3) (pe_tup (pa_cons (pe_def D_p_unit hr (by rfl) (pa_cons (pv 2) (pa_cons (pv 4) (pa_cons (pe_un un_neg pe_int) pa_nil)))) (pa_cons (pe_un un_neg (pv 6)) pa_nil)))))) pss_nil)))
      (pss_one (ps_ret (pe_callTy (tuple_k K) (by rfl) T.tuple bt_tuple (pa_cons (pe_op (add_k K) (pv 3) (pe_callTy (list_k K) (by rfl) T.list bt_list (pa_cons (pe_ix (ix_k K) (pv 0) pe_int (fun _ _ => rfl)) pa_nil))) pa_nil))))))))), fn_do (N := N_p_givens) (fun x hx => ?_) h⟩
  obtain ⟨bs, rs, g⟩ := x
  obtain ⟨h1, h2⟩ := hx
  have h1 : bs.length ≤ 50 := h1
  have h2 : rs.length ≤ 1000 := h2
  refine do_seq (do_asg (by walk_at "ev") ?_)
  refine do_seq (do_asg (by walk_at "ev") ?_)
  refine do_seq (do_asgN (by walk_at "en") ?_)
  have ll := leastRows_len bs.length bs
  refine do_seq (do_for (ei_enum (ds := bs.map boundD) (by walk_at "ea")) (fun i ρ => ∃ s4 s5 s6, ρ = [.fz (planD ⟨bs, rs, g⟩), .fz (.tup (bs.map boundD)), .fz (.int bs.length), .mt (((leastRows bs.length bs).take i).map rowD), s4, s5, s6]) ⟨_, _, _, rfl⟩ ?_ ?_)
  · rintro i d ρ' hd ⟨s4, s5, s6, rfl⟩
    obtain ⟨e, he, rfl⟩ := enumD_get hd
    rw [List.getElem?_map] at he
    obtain ⟨b, hb, rfl⟩ := Option.map_eq_some_iff.mp he
    have hi := (List.getElem?_eq_some_iff.mp hb).1
    refine ⟨_, _, g_tup (gs_cons g_name (gs_cons (g_tup (gs_cons g_name (gs_cons g_name gs_nil))) gs_nil)), ?_⟩
    refine do_app (d := rowD (unitV bs.length i 1, b.1)) rfl (ev_tup (ea_cons (ev_call (bs.length, i, 1) (by walk_at "ea") ⟨hi, by show bs.length ≤ 100; omega⟩) (by walk_at "ea"))) ?_ ?_
    · simp
      omega
    · refine ⟨.fz (.int i), .fz (.int b.1), .fz (optD b.2), ?_⟩
      have e : (leastRows bs.length bs).take (i + 1) = (leastRows bs.length bs).take i ++ [(unitV bs.length i 1, b.1)] := by
        rw [List.take_add_one]
        congr 1
        unfold leastRows
        rw [List.getElem?_mapIdx, hb]
        rfl
      rw [e, List.map_append]
      rfl
  rintro ρ' ⟨s4, s5, s6, rfl⟩
  have el : (leastRows bs.length bs).take (enumD (bs.map boundD)).length = leastRows bs.length bs := List.take_of_length_le (by rw [enumD_len, ll]; simp)
  rw [el]
  refine do_seq (do_for (ei_enum (ds := bs.map boundD) (by walk_at "ea")) (fun i ρ => ∃ s4 s5 s6, ρ = [.fz (planD ⟨bs, rs, g⟩), .fz (.tup (bs.map boundD)), .fz (.int bs.length), .mt ((leastRows bs.length bs ++ mostRows bs.length 0 (bs.take i)).map rowD), s4, s5, s6]) ⟨s4, s5, s6, by simp [mostRows]⟩ ?_ ?_)
  · rintro i d ρ' hd ⟨s4, s5, s6, rfl⟩
    obtain ⟨e, he, rfl⟩ := enumD_get hd
    rw [List.getElem?_map] at he
    obtain ⟨b, hb, rfl⟩ := Option.map_eq_some_iff.mp he
    have hi := (List.getElem?_eq_some_iff.mp hb).1
    have et : bs.take (i + 1) = bs.take i ++ [b] := by rw [List.take_add_one, hb]; rfl
    have lt : (bs.take i).length = i := by simp; omega
    refine ⟨_, _, g_tup (gs_cons g_name (gs_cons (g_tup (gs_cons g_name (gs_cons g_name gs_nil))) gs_nil)), ?_⟩
    obtain ⟨l, m⟩ := b
    have lm := mostRows_len bs.length 0 (bs.take i)
    cases m with
    | none =>
      refine do_if (b := false) (et_cmp (by exact ev_op (ev_var rfl) ev_non od_notN)) (fun q => nomatch q) fun _ => do_next ⟨.fz (.int i), .fz (.int l), .fz .non, ?_⟩
      rw [et, mostRows_snoc]
      simp [mostRows, optD]
    | some m =>
      refine do_if (b := true) (et_cmp (by exact ev_op (ev_var rfl) ev_non od_notN)) (fun _ => ?_) (fun q => nomatch q)
      refine do_app (d := rowD (unitV bs.length i (-1), -m)) rfl (ev_tup (ea_cons (ev_call (bs.length, i, -1) (by walk_at "ea") ⟨hi, by show bs.length ≤ 100; omega⟩) (ea_cons (ev_un (x := .int m) (ev_var rfl) ud_neg) ea_nil))) ?_ ?_
      · simp
        omega
      · refine ⟨.fz (.int i), .fz (.int l), .fz (.int m), ?_⟩
        rw [et, mostRows_snoc, lt]
        simp [mostRows, optD]
  rintro ρ' ⟨s4, s5, s6, rfl⟩
  have lm := mostRows_len bs.length 0 bs
  have eb : bs.take (enumD (bs.map boundD)).length = bs := List.take_of_length_le (by rw [enumD_len]; simp)
  rw [eb]
  refine do_ret (d := rowsT (givensV bs rs)) (ev_peek (i := 3) rfl ((ev_cb (ea_cons (EvN.dt (evn_op (ev_var rfl) (EvN.dt (ds := rs.map rowD) (by walk_at "en")) (on_cat ?_))) ea_nil) cb_tupL).to ?_) ?_) rfl
  · simp
    omega
  · simp [givensV]
  · simp [Dt.imm, imm_rows]

theorem ok_p_worth {a : Addr} {fd : FuncData} (F : Fun K "worth" "worth" s_p_worth a fd) (T : Tx mg) (D_p_left : Def P w K mg base 1 "left" P_p_left (sp_p_left K)) : FnOk P w K mg base CX0 2 a fd P_p_worth (sp_p_worth K) := by
  refine F.ok sc_p_worth (fun vs H Q E h => sp_len (n := 2) (fun _ => rfl) vs H Q E h) (fun cdv A outer s H vs Q E hr h => ?_)
  refine ⟨_, (pss_one (ps_ret (pe_def D_p_left hr (by rfl) (pa_cons (pe_ix (ix_k K) (pv 0) pe_int (fun _ _ => rfl)) (pa_cons (pv 1) pa_nil))))), fn_do (N := N_p_worth) (fun x hx => ?_) h⟩
  obtain ⟨p, s⟩ := x
  exact do_ret (d := .int (dot p.goal s)) (ev_call (p.goal, s) (by walk_at "ea") hx) rfl

theorem ok_p_better {a : Addr} {fd : FuncData} (F : Fun K "better" "better" s_p_better a fd) (T : Tx mg)  : FnOk P w K mg base CX0 1 a fd P_p_better (sp_p_better K) := by
  refine F.ok sc_p_better (fun vs H Q E h => sp_len (n := 2) (fun _ => rfl) vs H Q E h) (fun cdv A outer s H vs Q E hr h => ?_)
  refine ⟨_, (pss_one (ps_ret (pe_tup (pa_cons (pe_ix (ix_k K) (pv 0) pe_int (fun _ _ => rfl)) (pa_cons (pe_op (add_k K) (pv 1) pe_int) pa_nil))))), fn_do (N := N_p_better) (fun x hx => ?_) h⟩
  obtain ⟨p, v⟩ := x
  show Do K _ [.fz (planD p), .fz (.int v)] _
  exact do_ret (d := rowD (p.goal, v + 1)) (by walk_at "ev") rfl

theorem ok_p_row_width {a : Addr} {fd : FuncData} (F : Fun K "row_width" "row_width" s_p_row_width a fd) (T : Tx mg)  : FnOk P w K mg base CX0 1 a fd P_p_row_width (sp_p_row_width K) := by
  refine F.ok sc_p_row_width (fun vs H Q E h => sp_len (n := 1) (fun _ => rfl) vs H Q E h) (fun cdv A outer s H vs Q E hr h => ?_)
  refine ⟨_, (pss_cons (ps_if (pt_not (tr_k K (pv 0))) (pss_one (ps_ret pe_int)) pss_nil)
      (pss_one (ps_ret (pe_callB (len_k K) (by rfl) T.len bt_len (pa_cons (pe_ix (ix_k K) (pe_ix (ix_k K) (pv 0) pe_int (fun _ _ => rfl)) pe_int (fun _ _ => rfl)) pa_nil))))), fn_do (N := N_p_row_width) (fun x hx => ?_) h⟩
  obtain ⟨k, rs⟩ := x
  refine do_seq (do_if (b := rs.isEmpty) ?_ (fun he => ?_) (fun he => do_next ?_))
  · cases k with
    | true => exact (et_not (et_trL (ev_var rfl))).to (by simp)
    | false => exact (et_not (et_trT (ev_var rfl))).to (by simp)
  · have e : rs = [] := by simpa using he
    subst e
    exact do_ret ev_int rfl
  · cases rs with
    | nil => cases he
    | cons r rs =>
      cases k with
      | true => exact do_ret (d := .int r.1.length) (ev_cb (ea_cons (ev_op (x := rowD r) (ev_op (x := .lst (rowD r :: rs.map rowD)) (ev_var rfl) ev_int (od_ixL (at_nat (j := 0) rfl rfl))) ev_int (od_ixT (d := tupI r.1) rfl)) ea_nil) cb_lenTm) rfl
      | false => exact do_ret (d := .int r.1.length) (ev_cb (ea_cons (ev_op (x := rowD r) (ev_op (x := .tup (rowD r :: rs.map rowD)) (ev_var rfl) ev_int (od_ixT (at_nat (j := 0) rfl rfl))) ev_int (od_ixT (d := tupI r.1) rfl)) ea_nil) cb_lenTm) rfl
end
end Cy
namespace Cy
open PySem PySem.Spec L2 Dr Dl
section
variable {P : Program} {w : World} {K : PySem.W.Frag} {mg : Str → Option Value} {base : Heap}

local macro_rules | `(tactic| walk_at "od") => `(tactic| first
  | with_reducible exact od_add
  | with_reducible exact od_sub
  | with_reducible exact od_lt
  | with_reducible exact od_le
  | with_reducible exact od_gt
  | with_reducible exact od_ge
  | with_reducible exact od_eqI
  | with_reducible exact od_neI
  | with_reducible exact od_eqS
  | with_reducible exact od_eqB
  | with_reducible exact od_isN
  | with_reducible exact od_notN
  | ((with_reducible refine' od_mul ?k1); (case k1 => (first | assumption | exact Or.inl (by omega) | exact Or.inr (by omega))))
  | with_reducible exact od_pow cpow10
  | ((with_reducible refine' od_mod ?k1); (case k1 => (first | assumption | omega)))
  | ((with_reducible refine' od_div ?k1 ?k2); (case k1 => (first | assumption | omega)); (case k2 => (first | assumption | omega)))
  | ((with_reducible refine' od_ixT ?k1); (case k1 => (first | assumption | rfl)))
  | ((with_reducible refine' od_ixL ?k1); (case k1 => (first | assumption | rfl)))
  | ((with_reducible refine' od_ixS ?k1); (case k1 => (first | assumption | rfl)))
  | ((with_reducible refine' od_catT ?k1); (case k1 => (first | assumption | (simp; omega)))))
local macro_rules | `(tactic| walk_at "cb") => `(tactic| first
  | with_reducible exact cb_lenTm
  | with_reducible exact cb_lenLm
  | with_reducible exact cb_lenT
  | with_reducible exact cb_lenL
  | with_reducible exact cb_lenS
  | with_reducible exact cb_tupL
  | with_reducible exact cb_tupT
  | with_reducible exact cb_sum
  | with_reducible exact cb_all
  | with_reducible exact cb_any
  | with_reducible exact cb_abs
  | with_reducible exact cb_max
  | with_reducible exact cb_min
  | with_reducible exact cb_intB)
local macro_rules | `(tactic| walk_at "ev") => `(tactic| first
  | ((with_reducible refine' ev_var ?k1); (case k1 => rfl))
  | with_reducible exact ev_int
  | with_reducible exact ev_non
  | with_reducible exact ev_str
  | with_reducible exact ev_bl
  | ((with_reducible refine' ev_op ?k1 ?k2 ?k3); (case k1 => walk_at "ev"); (case k2 => walk_at "ev"); (case k3 => walk_at "od"))
  | ((with_reducible refine' ev_un ?k1 ud_neg); (case k1 => walk_at "ev"))
  | ((with_reducible refine' ev_tup ?k1 ?k2); (case k1 => walk_at "ea"); (case k2 => (first | (simp; done) | (simp; omega))))
  | ((with_reducible refine' ev_cb ?k1 ?k2); (case k1 => walk_at "ea"); (case k2 => walk_at "cb"))
  | ((with_reducible refine' ev_slT ?k1 ?k2 ?k3); (case k1 => walk_at "ev"); (case k2 => walk_at "eo"); (case k3 => walk_at "eo"))
  | ((with_reducible refine' EvN.dt ?k1); (case k1 => walk_at "en")))
local macro_rules | `(tactic| walk_at "eo") => `(tactic| first
  | with_reducible exact eo_none
  | ((with_reducible refine' eo_some ?k1); (case k1 => walk_at "ev")))
local macro_rules | `(tactic| walk_at "ea") => `(tactic| first
  | with_reducible exact ea_nil
  | ((with_reducible refine' ea_cons ?k1 ?k2); (case k1 => walk_at "ev"); (case k2 => walk_at "ea")))
local macro_rules | `(tactic| walk_at "en") => `(tactic| first
  | ((with_reducible refine' evn_lst ?k1 ?k2); (case k1 => walk_at "ea"); (case k2 => (first | (simp; done) | (simp; omega))))
  | ((with_reducible refine' evn_op ?k1 ?k2 (on_cat ?k3)); (case k1 => walk_at "ev"); (case k2 => walk_at "ev"); (case k3 => (first | assumption | (simp; omega))))
  | ((with_reducible refine' evn_op ?k1 ?k2 (on_rep ?k3 ?k4)); (case k1 => walk_at "ev"); (case k2 => walk_at "ev"); (case k3 => (first | assumption | (simp; omega))); (case k4 => (first | assumption | omega)))
  | ((with_reducible refine' evn_sl ?k1 ?k2 ?k3); (case k1 => walk_at "ev"); (case k2 => walk_at "eo"); (case k3 => walk_at "eo"))
  | ((with_reducible refine' evn_cb ?k1 cb_listL); (case k1 => walk_at "ea"))
  | ((with_reducible refine' evn_cb ?k1 cb_listT); (case k1 => walk_at "ea")))
local macro_rules | `(tactic| walk_at "et") => `(tactic| first
  | ((with_reducible refine' et_cmp ?k1); (case k1 => walk_at "ev"))
  | ((with_reducible refine' et_or ?k1 ?k2); (case k1 => walk_at "et"); (case k2 => (intro _; walk_at "et")))
  | ((with_reducible refine' et_and ?k1 ?k2); (case k1 => walk_at "et"); (case k2 => (intro _; walk_at "et")))
  | ((with_reducible refine' et_not ?k1); (case k1 => walk_at "et"))
  | ((with_reducible refine' et_trM ?k1); (case k1 => rfl))
  | ((with_reducible refine' et_trMs ?k1); (case k1 => rfl))
  | ((with_reducible refine' et_trB ?k1); (case k1 => walk_at "ev"))
  | ((with_reducible refine' et_trT ?k1); (case k1 => walk_at "ev"))
  | ((with_reducible refine' et_trL ?k1); (case k1 => walk_at "ev"))
  | ((with_reducible refine' et_trS ?k1); (case k1 => walk_at "ev")))

theorem ok_p_shares_sum {a : Addr} {fd : FuncData} (F : Fun K "shares_sum" "shares_sum" s_p_shares_sum a fd) (T : Tx mg)  : FnOk P w K mg base CX0 1 a fd P_p_shares_sum (sp_p_shares_sum K) := by
  refine F.ok sc_p_shares_sum (fun vs H Q E h => sp_len (n := 3) (fun _ => rfl) vs H Q E h) (fun cdv A outer s H vs Q E hr h => ?_)
  refine ⟨_, (pss_cons (ps_set (i := 3) sc_p_shares_sum.nd rfl (Or.inl rfl) (pe_op op_mulA (pe_lst (pa_cons pe_int pa_nil)) (pv 2)))
      (pss_cons (ps_set (i := 4) sc_p_shares_sum.nd rfl (Or.inl rfl) pe_int)
      (pss_cons (ps_for PassesOwn.never rfl (seq_k K (pv 1)) (tup_k K (n := 2) (pgs_cons (pg_name (i := 5) sc_p_shares_sum.nd rfl (Or.inl rfl)) (pgs_cons (pg_name (i := 6) sc_p_shares_sum.nd rfl (Or.inr rfl)) pgs_nil))) (pss_cons (ps_if (PW.pt (pw_or (pt_cmpR op_lt (pv 5) pe_int (nomark _)) (pw_or (pt_cmpR op_ge (pv 5) (pe_callB (len_k K) (by rfl) T.len bt_len (pa_cons (pv 0) pa_nil)) (nomark _)) (pw_or1 (pt_cmpR op_lt (pv 6) pe_int (nomark _)))))) (pss_one (ps_ret pe_non)) pss_nil)
      (pss_cons (ps_set (i := 7) sc_p_shares_sum.nd rfl (Or.inl rfl) (pe_ix (ix_k K) (pv 0) (pv 5) (fun _ _ => rfl)))
      (pss_cons (ps_setLc (i := 3) (own := [("one", 8), ("more", 9)]) rfl sc_p_shares_sum.nd rfl rfl (sw_true rfl rfl rfl (by decide +kernel)) (zip_k K (by rfl) T.zip (pa_cons (pv 3) (pa_cons (pe_ix (ix_k K) (pv 7) pe_int (fun _ _ => rfl)) pa_nil))) (blkOk_by (own := [("one", 8), ("more", 9)]) (N := N_p_shares_sum) (sc := defScope s_p_shares_sum) (by decide +kernel)) (fun _ _ _ _ _ => (tup_k K (n := 2) (pgs_cons (pg_name (i := 8) sc_p_shares_sum.nd rfl (Or.inl rfl)) (pgs_cons (pg_name (i := 9) sc_p_shares_sum.nd rfl (Or.inl rfl)) pgs_nil)))) (fun _ _ _ _ _ => pts_nil) (fun _ _ _ _ _ => (pe_op (add_k K) (pv 8) (pe_op op_mulA (pv 6) (pv 9)))))
      (pss_one (ps_set (i := 4) sc_p_shares_sum.nd rfl (Or.inl rfl) (pe_op (add_k K) (pv 4) (pe_op op_mulA (pv 6) (pe_ix (ix_k K) (pv 7) pe_int (fun _ _ => rfl))))))))))
      (pss_one (ps_ret (pe_tup (pa_cons (pv 3) (pa_cons (pv 4) pa_nil)))))))), fn_do (N := N_p_shares_sum) (fun x hx => ?_) h⟩
  obtain ⟨rs, sh, n⟩ := x
  obtain ⟨⟨h1, h2⟩, h3⟩ := hx
  have h3 : n ≤ 1000 := h3
  have h2 : sh.length ≤ 100 := h2
  show Do K _ [.fz (rowsL rs), .fz (.tup (sh.map shD)), .fz (.int n), .no, .no, .no, .no, .no, .no, .no] _
  refine do_seq (do_asg (d := lstI (List.replicate n 0)) ?_ ?_)
  · refine (EvN.to (ds := (List.replicate (n : Int).toNat [Dt.int 0]).flatten) (by walk_at "en") ?_).dt
    rw [toNat_nat, flat1]
    simp
  refine do_seq (do_asg (by walk_at "ev") ?_)
  refine do_seq (do_for (ds := sh.map shD) (ei_seq (by walk_at "ev")) (fun i ρ => ∃ acc s5 s6 s7, sharesSum rs sh (List.replicate n 0, 0) = sharesSum rs (sh.drop i) acc ∧ acc.1.length ≤ 1000 ∧
    ρ = [.fz (rowsL rs), .fz (.tup (sh.map shD)), .fz (.int n), .fz (lstI acc.1), .fz (.int acc.2), s5, s6, s7, .no, .no]) ⟨(List.replicate n 0, 0), _, _, _, rfl, by simpa using h3, rfl⟩ ?_ ?_)
  · rintro i d ρ' hd ⟨acc, s5, s6, s7, ha, hl, rfl⟩
    rw [List.getElem?_map] at hd
    obtain ⟨s, hs, rfl⟩ := Option.map_eq_some_iff.mp hd
    rw [drop_at hs] at ha
    obtain ⟨m, v⟩ := s
    have hw : -(2 ^ 60) ≤ v ∧ v ≤ 2 ^ 60 := h1 _ (List.mem_of_getElem? hs)
    refine ⟨_, _, g_tup (gs_cons g_name (gs_cons g_name gs_nil)), ?_⟩
    refine do_seq (do_if (b := decide (m < 0) || (decide ((rs.length : Int) ≤ m) || decide (v < 0))) (by walk_at "et") (fun hb => ?_) (fun hb => do_next ?_))
    · refine do_ret ev_non ?_
      have e : sumStep rs acc (m, v) = none := by
        unfold sumStep
        rw [if_pos (by simpa using hb)]
      show Dt.non = sumD (sharesSum rs sh (List.replicate n 0, 0))
      rw [ha]
      show Dt.non = sumD ((sumStep rs acc (m, v)).bind _)
      rw [e]
      rfl
    have hb : ¬ (m < 0 ∨ (rs.length : Int) ≤ m ∨ v < 0) := by simpa using hb
    have e : sumStep rs acc (m, v) = some (addV v acc.1 (rs.getD m.toNat ([], 0)).1, acc.2 + v * (rs.getD m.toNat ([], 0)).2) := by
      unfold sumStep
      rw [if_neg hb]
    have hr : atI (rs.map rowD) m = some (rowD (rs.getD m.toNat ([], 0))) := at_map rowD rs m ([], 0) (by omega) (by omega)
    generalize rs.getD m.toNat ([], 0) = r at e hr
    have cm : ∀ y, CMul v y := fun y => .inl (by omega)
    refine do_seq (do_asg (d := rowD r) (by walk_at "ev") ?_)
    refine do_seq (do_asg (d := lstI (addV v acc.1 r.1)) (EvN.dt (EvN.to (evn_zipm (g := Dt.int) (g' := Dt.int) (fun x y => Dt.int (x + v * y)) acc.1 r.1 (ei_zipA (by walk_at "ea")) (by omega) fun i x y hx hy => ?_) ?_)) ?_)
    · have := cm y
      exact ⟨_, _, g_tup (gs_cons g_name (gs_cons g_name gs_nil)), by simp, by walk_at "ev"⟩
    · unfold addV
      rw [List.map_zipWith]
    have := cm r.2
    refine do_asg (d := .int (acc.2 + v * r.2)) (by walk_at "ev") ?_
    refine ⟨(addV v acc.1 r.1, acc.2 + v * r.2), .fz (.int m), .fz (.int v), .fz (rowD r), ?_, Nat.le_trans (addV_len _ _ _) hl, rfl⟩
    rw [ha]
    show (sumStep rs acc (m, v)).bind _ = _
    rw [e]
    rfl
  · rintro ρ' ⟨acc, s5, s6, s7, ha, hl, rfl⟩
    refine do_ret (d := .tup [lstI acc.1, .int acc.2]) (by walk_at "ev") ?_
    rw [List.length_map, List.drop_length] at ha
    show _ = sumD _
    rw [ha]
    rfl

theorem ok_p_all_noughts {a : Addr} {fd : FuncData} (F : Fun K "all_noughts" "all_noughts" s_p_all_noughts a fd) (T : Tx mg)  : FnOk P w K mg base CX0 1 a fd P_p_all_noughts (sp_p_all_noughts K) := by
  refine F.ok sc_p_all_noughts (fun vs H Q E h => sp_len (n := 1) (fun _ => rfl) vs H Q E h) (fun cdv A outer s H vs Q E hr h => ?_)
  refine ⟨_, (pss_one (ps_ret (pe_callB (all_k K) (by rfl) T.all bt_all (pa_cons (pe_lc (own := [("one", 1)]) rfl sc_p_all_noughts.nd (seq_k K (pv 0)) (blkOk_by (own := [("one", 1)]) (N := N_p_all_noughts) (sc := defScope s_p_all_noughts) (by decide +kernel)) (fun _ _ _ _ _ => (pg_name (i := 1) sc_p_all_noughts.nd rfl (Or.inl rfl))) (fun _ _ _ _ _ => pts_nil) (fun _ _ _ _ _ => (pe_cmpR op_eq (pv 1) pe_int (nomark _)))) pa_nil)))), fn_do (N := N_p_all_noughts) (fun x hx => ?_) h⟩
  have hx : x.length ≤ 1000 := hx
  show Do K _ [.fz (tupI x), .no] _
  refine do_ret (d := .bl (noughts x)) ((ev_cb (ea_cons (EvN.dt ((evn_map (g := Dt.int) (fun y => Dt.bl (decide (y = 0))) x (ei_seq (by walk_at "ev")) (by omega) fun i y hy => ⟨_, _, g_name, by simp, by walk_at "ev"⟩).to (ds' := (x.map fun y => decide (y = 0)).map Dt.bl) (by rw [List.map_map]; rfl))) ea_nil) cb_all).to ?_) rfl
  unfold noughts
  rw [List.all_map]
  rfl

theorem ok_p_row_shuts {a : Addr} {fd : FuncData} (F : Fun K "row_shuts" "row_shuts" s_p_row_shuts a fd) (T : Tx mg) (D_p_all_noughts : Def P w K mg base 1 "all_noughts" P_p_all_noughts (sp_p_all_noughts K)) : FnOk P w K mg base CX0 2 a fd P_p_row_shuts (sp_p_row_shuts K) := by
  refine F.ok sc_p_row_shuts (fun vs H Q E h => sp_len (n := 2) (fun _ => rfl) vs H Q E h) (fun cdv A outer s H vs Q E hr h => ?_)
  refine ⟨_, (pss_cons (ps_if (PW.pt (pw_or (pt_cmpR op_lt (pv 1) pe_int (nomark _)) (pw_or1 (pt_cmpR op_ge (pv 1) (pe_callB (len_k K) (by rfl) T.len bt_len (pa_cons (pv 0) pa_nil)) (nomark _))))) (pss_one (ps_ret pe_bl)) pss_nil)
      (pss_one (ps_ret (pe_and (pe_def D_p_all_noughts hr (by rfl) (pa_cons (pe_ix (ix_k K) (pe_ix (ix_k K) (pv 0) (pv 1) (fun _ _ => rfl)) pe_int (fun _ _ => rfl)) pa_nil)) (pe_one (pe_cmpR op_gt (pe_ix (ix_k K) (pe_ix (ix_k K) (pv 0) (pv 1) (fun _ _ => rfl)) pe_int (fun _ _ => rfl)) pe_int (nomark _))))))), fn_do (N := N_p_row_shuts) (fun x hx => ?_) h⟩
  obtain ⟨rs, m⟩ := x
  show Do K _ [.fz (rowsL rs), .fz (.int m)] _
  refine do_seq (do_if (b := decide (m < 0) || decide ((rs.length : Int) ≤ m)) (by walk_at "et") (fun hb => ?_) (fun hb => do_next ?_))
  · refine do_ret ev_bl ?_
    show Dt.bl _ = Dt.bl (rowShuts rs m)
    unfold rowShuts
    rw [if_pos (by simpa using hb)]
  have hb : ¬ (m < 0 ∨ (rs.length : Int) ≤ m) := by simpa using hb
  have hr : atI (rs.map rowD) m = some (rowD (rs.getD m.toNat ([], 0))) := at_map rowD rs m ([], 0) (by omega) (by omega)
  have hlen : (rs.getD m.toNat ([], 0)).1.length ≤ 1000 := by
    rw [List.getD_eq_getElem?_getD, List.getElem?_eq_getElem (show m.toNat < rs.length by omega)]
    exact hx _ (List.getElem_mem _)
  have e : rowShuts rs m = (noughts (rs.getD m.toNat ([], 0)).1 && decide (0 < (rs.getD m.toNat ([], 0)).2)) := by
    unfold rowShuts
    rw [if_neg hb]
  generalize rs.getD m.toNat ([], 0) = r at e hr hlen
  refine do_ret (d := .bl (rowShuts rs m)) ?_ rfl
  rw [e]
  exact ev_and (ev_call r.1 (by walk_at "ea") hlen) fun _ => by walk_at "ev"

theorem ok_p_line_row {a : Addr} {fd : FuncData} (F : Fun K "line_row" "line_row" s_p_line_row a fd) (T : Tx mg) (D_p_row_width : Def P w K mg base 1 "row_width" P_p_row_width (sp_p_row_width K)) (D_p_shares_sum : Def P w K mg base 1 "shares_sum" P_p_shares_sum (sp_p_shares_sum K)) (D_p_up : Def P w K mg base 1 "up" P_p_up (sp_p_up K)) : FnOk P w K mg base CX0 2 a fd P_p_line_row (sp_p_line_row K) := by
  refine F.ok sc_p_line_row (fun vs H Q E h => sp_len (n := 3) (fun _ => rfl) vs H Q E h) (fun cdv A outer s H vs Q E hr h => ?_)
  refine ⟨_, (pss_cons (ps_if (PW.pt (pw_or (pt_cmpR op_lt (pv 2) pe_int (nomark _)) (pw_or1 (pt_not (tr_k K (pv 1)))))) (pss_one (ps_ret pe_non)) pss_nil)
      (pss_cons (ps_set (i := 3) sc_p_line_row.nd rfl (Or.inl rfl) (pe_def D_p_shares_sum hr (by rfl) (pa_cons (pv 0) (pa_cons (pv 1) (pa_cons (pe_def D_p_row_width hr (by rfl) (pa_cons (pv 0) pa_nil)) pa_nil)))))
      (pss_cons (ps_if (pt_cmpR op_isN1 (pv 3) pe_non (nomark _)) (pss_one (ps_ret pe_non)) pss_nil)
      (pss_cons (ps_set (i := 4) sc_p_line_row.nd rfl (Or.inl rfl) (pe_lst pa_nil))
      (pss_cons (ps_for PassesOwn.never rfl (seq_k K (pe_ix (ix_k K) (pv 3) pe_int (fun _ _ => rfl))) (pg_name (i := 5) sc_p_line_row.nd rfl (Or.inl rfl)) (pss_cons (ps_if (pt_cmpR op_ne (pe_op op_mod (pv 5) (pv 2)) pe_int (nomark _)) (pss_one (ps_ret pe_non)) pss_nil)
      (pss_one (ps_expr (app_k K (pv 4) (pe_op op_fdivW (pv 5) (pv 2)))))))
      (pss_one (ps_ret (pe_tup (pa_cons (pe_callTy (tuple_k K) (by rfl) T.tuple bt_tuple (pa_cons (pv 4) pa_nil)) (pa_cons (pe_def D_p_up hr (by rfl) (pa_cons (pe_ix (ix_k K) (pv 3) pe_int (fun _ _ => rfl)) (pa_cons (pv 2) pa_nil))) pa_nil)))))))))), fn_do (N := N_p_line_row) (fun x hx => ?_) h⟩
  obtain ⟨rs, sh, dv⟩ := x
  obtain ⟨h1, h2, h3⟩ := hx
  have h2 : -10000 ≤ dv ∧ dv ≤ 10000 := h2
  have h3 : width rs ≤ 1000 := h3
  show Do K _ [.fz (rowsL rs), .fz (.tup (sh.map shD)), .fz (.int dv), .no, .no, .no] (ends fun d => d = optRow (lineRow (width rs) rs sh dv))
  refine do_seq (do_if (b := decide (dv < 1) || !(!(sh.map shD).isEmpty)) (by walk_at "et") (fun hb => ?_) (fun hb => do_next ?_))
  · refine do_ret ev_non ?_
    show Dt.non = optRow (lineRow (width rs) rs sh dv)
    unfold lineRow
    rw [if_pos (by simpa using hb)]
    rfl
  have hb : ¬ (dv < 1 ∨ sh = []) := by simpa using hb
  have el : lineRow (width rs) rs sh dv = finRow dv (sharesSum rs sh (List.replicate (width rs) 0, 0)) := by
    unfold lineRow
    rw [if_neg hb]
  have hlen : ∀ t, sharesSum rs sh (List.replicate (width rs) 0, 0) = some t → t.1.length ≤ 1000 := fun t ht => Nat.le_trans (sharesSum_len ht) (by simpa using h3)
  refine do_seq (do_asg (d := sumD (sharesSum rs sh (List.replicate (width rs) 0, 0))) (ev_call (rs, sh, width rs) (ea_cons (by walk_at "ev") (ea_cons (by walk_at "ev") (ea_cons (ev_call (f := fun x : Bool × List Row => Dt.int (width x.2)) (true, rs) (by walk_at "ea") trivial) ea_nil))) ⟨h1, h3⟩) ?_)
  generalize sharesSum rs sh (List.replicate (width rs) 0, 0) = o at el hlen
  rw [el]
  cases o with
  | none =>
    refine do_seq (do_if (b := true) (et_cmp (ev_op (ev_var rfl) ev_non od_isN)) (fun _ => do_ret ev_non rfl) (fun q => nomatch q))
  | some t =>
    have hlen := hlen t rfl
    refine do_seq (do_if (b := false) (et_cmp (ev_op (x := .tup [lstI t.1, .int t.2]) (ev_var rfl) ev_non od_isN)) (fun q => nomatch q) (fun _ => do_next ?_))
    refine do_seq (do_asgN (by walk_at "en") ?_)
    show Do K _ [.fz (rowsL rs), .fz (.tup (sh.map shD)), .fz (.int dv), .fz (.tup [lstI t.1, .int t.2]), .mt [], .no] _
    refine do_seq (do_for (ds := t.1.map Dt.int) (ei_seq (x := lstI t.1) (by walk_at "ev")) (fun i ρ => ∃ s5, (t.1.take i).all (fun x => x % dv == 0) = true ∧
      ρ = [.fz (rowsL rs), .fz (.tup (sh.map shD)), .fz (.int dv), .fz (.tup [lstI t.1, .int t.2]), .mt (((t.1.take i).map (fun x => x / dv)).map Dt.int), s5]) ⟨.no, by simp, by simp⟩ ?_ ?_)
    · rintro i d ρ' hd ⟨s5, ha, rfl⟩
      rw [List.getElem?_map] at hd
      obtain ⟨y, hy, rfl⟩ := Option.map_eq_some_iff.mp hd
      refine ⟨_, _, g_name, ?_⟩
      have hd0 : 0 < dv := by omega
      have hd1 : dv < 2 ^ 64 := by omega
      refine do_seq (do_if (b := !decide (y % dv = 0)) (by walk_at "et") (fun hb => ?_) (fun hb => do_next ?_))
      · refine do_ret ev_non ?_
        show Dt.non = optRow (if t.1.all (fun x => x % dv == 0) then some (t.1.map (fun x => x / dv), upV t.2 dv) else none)
        rw [if_neg]
        · rfl
        intro hall
        have := (List.all_eq_true.mp hall) y (List.mem_of_getElem? hy)
        simp at hb this
        exact hb this
      · refine do_app (d := .int (y / dv)) rfl (by walk_at "ev") ?_ ?_
        · simp
          omega
        · refine ⟨.fz (.int y), ?_, ?_⟩
          · rw [List.take_add_one, hy]
            simp at hb ⊢
            exact ⟨by simpa using ha, hb⟩
          · rw [List.take_add_one, hy]
            simp
    · rintro ρ' ⟨s5, ha, rfl⟩
      rw [List.length_map, List.take_length] at ha ⊢
      refine do_ret (d := rowD (t.1.map (fun x => x / dv), upV t.2 dv)) (ev_tup (ea_cons (ev_peek (i := 4) rfl (ev_cb (ea_cons (ev_var rfl) ea_nil) cb_tupL) (by simp only [Dt.imm, imm_tupI])) (ea_cons (ev_call (t.2, dv) (by walk_at "ea") ⟨by show 0 < dv; omega, by show dv < 2 ^ 60; omega⟩) ea_nil))) ?_
      show _ = optRow (if t.1.all (fun x => x % dv == 0) then some (t.1.map (fun x => x / dv), upV t.2 dv) else none)
      rw [if_pos ha]
      rfl
end
end Cy
namespace Cy
open PySem PySem.Spec L2 Dr Dl
section
variable {P : Program} {w : World} {K : PySem.W.Frag} {mg : Str → Option Value} {base : Heap}

local macro_rules | `(tactic| walk_at "od") => `(tactic| first
  | with_reducible exact od_add
  | with_reducible exact od_sub
  | with_reducible exact od_lt
  | with_reducible exact od_le
  | with_reducible exact od_gt
  | with_reducible exact od_ge
  | with_reducible exact od_eqI
  | with_reducible exact od_neI
  | with_reducible exact od_eqS
  | with_reducible exact od_eqB
  | with_reducible exact od_isN
  | with_reducible exact od_notN
  | ((with_reducible refine' od_mul ?k1); (case k1 => (first | assumption | exact Or.inl (by omega) | exact Or.inr (by omega))))
  | with_reducible exact od_pow cpow10
  | ((with_reducible refine' od_mod ?k1); (case k1 => (first | assumption | omega)))
  | ((with_reducible refine' od_div ?k1 ?k2); (case k1 => (first | assumption | omega)); (case k2 => (first | assumption | omega)))
  | ((with_reducible refine' od_ixT ?k1); (case k1 => (first | assumption | rfl)))
  | ((with_reducible refine' od_ixL ?k1); (case k1 => (first | assumption | rfl)))
  | ((with_reducible refine' od_ixS ?k1); (case k1 => (first | assumption | rfl)))
  | ((with_reducible refine' od_catT ?k1); (case k1 => (first | assumption | (simp; omega)))))
local macro_rules | `(tactic| walk_at "cb") => `(tactic| first
  | with_reducible exact cb_lenTm
  | with_reducible exact cb_lenLm
  | with_reducible exact cb_lenT
  | with_reducible exact cb_lenL
  | with_reducible exact cb_lenS
  | with_reducible exact cb_tupL
  | with_reducible exact cb_tupT
  | with_reducible exact cb_sum
  | with_reducible exact cb_all
  | with_reducible exact cb_any
  | with_reducible exact cb_abs
  | with_reducible exact cb_max
  | with_reducible exact cb_min
  | with_reducible exact cb_intB)
local macro_rules | `(tactic| walk_at "ev") => `(tactic| first
  | ((with_reducible refine' ev_var ?k1); (case k1 => rfl))
  | with_reducible exact ev_int
  | with_reducible exact ev_non
  | with_reducible exact ev_str
  | with_reducible exact ev_bl
  | ((with_reducible refine' ev_op ?k1 ?k2 ?k3); (case k1 => walk_at "ev"); (case k2 => walk_at "ev"); (case k3 => walk_at "od"))
  | ((with_reducible refine' ev_un ?k1 ud_neg); (case k1 => walk_at "ev"))
  | ((with_reducible refine' ev_tup ?k1 ?k2); (case k1 => walk_at "ea"); (case k2 => (first | (simp; done) | (simp; omega))))
  | ((with_reducible refine' ev_cb ?k1 ?k2); (case k1 => walk_at "ea"); (case k2 => walk_at "cb"))
  | ((with_reducible refine' ev_slT ?k1 ?k2 ?k3); (case k1 => walk_at "ev"); (case k2 => walk_at "eo"); (case k3 => walk_at "eo"))
  | ((with_reducible refine' EvN.dt ?k1); (case k1 => walk_at "en")))
local macro_rules | `(tactic| walk_at "eo") => `(tactic| first
  | with_reducible exact eo_none
  | ((with_reducible refine' eo_some ?k1); (case k1 => walk_at "ev")))
local macro_rules | `(tactic| walk_at "ea") => `(tactic| first
  | with_reducible exact ea_nil
  | ((with_reducible refine' ea_cons ?k1 ?k2); (case k1 => walk_at "ev"); (case k2 => walk_at "ea")))
local macro_rules | `(tactic| walk_at "en") => `(tactic| first
  | ((with_reducible refine' evn_lst ?k1 ?k2); (case k1 => walk_at "ea"); (case k2 => (first | (simp; done) | (simp; omega))))
  | ((with_reducible refine' evn_op ?k1 ?k2 (on_cat ?k3)); (case k1 => walk_at "ev"); (case k2 => walk_at "ev"); (case k3 => (first | assumption | (simp; omega))))
  | ((with_reducible refine' evn_op ?k1 ?k2 (on_rep ?k3 ?k4)); (case k1 => walk_at "ev"); (case k2 => walk_at "ev"); (case k3 => (first | assumption | (simp; omega))); (case k4 => (first | assumption | omega)))
  | ((with_reducible refine' evn_sl ?k1 ?k2 ?k3); (case k1 => walk_at "ev"); (case k2 => walk_at "eo"); (case k3 => walk_at "eo"))
  | ((with_reducible refine' evn_cb ?k1 cb_listL); (case k1 => walk_at "ea"))
  | ((with_reducible refine' evn_cb ?k1 cb_listT); (case k1 => walk_at "ea")))
local macro_rules | `(tactic| walk_at "et") => `(tactic| first
  | ((with_reducible refine' et_cmp ?k1); (case k1 => walk_at "ev"))
  | ((with_reducible refine' et_or ?k1 ?k2); (case k1 => walk_at "et"); (case k2 => (intro _; walk_at "et")))
  | ((with_reducible refine' et_and ?k1 ?k2); (case k1 => walk_at "et"); (case k2 => (intro _; walk_at "et")))
  | ((with_reducible refine' et_not ?k1); (case k1 => walk_at "et"))
  | ((with_reducible refine' et_trM ?k1); (case k1 => rfl))
  | ((with_reducible refine' et_trMs ?k1); (case k1 => rfl))
  | ((with_reducible refine' et_trB ?k1); (case k1 => walk_at "ev"))
  | ((with_reducible refine' et_trT ?k1); (case k1 => walk_at "ev"))
  | ((with_reducible refine' et_trL ?k1); (case k1 => walk_at "ev"))
  | ((with_reducible refine' et_trS ?k1); (case k1 => walk_at "ev")))

theorem width_eq {n : Nat} {rs : List Row} (h : RowsOk n rs) (h0 : rs = [] → n = 0) : width rs = n := by
  cases rs with
  | nil => exact (h0 rfl).symm
  | cons r rs => exact h r (List.mem_cons_self ..)
theorem sum_len {n : Nat} {rows : List Row} (hr : RowsOk n rows) : ∀ {sh : List (Int × Int)} {acc t : List Int × Int}, acc.1.length = n → sharesSum rows sh acc = some t → t.1.length = n
  | [], acc, t, ha, h => by
    cases h
    exact ha
  | s :: sh, acc, t, ha, h => by
    have h : (sumStep rows acc s).bind (sharesSum rows sh) = some t := h
    unfold sumStep at h
    by_cases hc : s.1 < 0 ∨ s.1 ≥ (rows.length : Int) ∨ s.2 < 0
    · rw [if_pos hc] at h
      cases h
    · rw [if_neg hc] at h
      refine sum_len hr ?_ h
      have hlt : s.1.toNat < rows.length := by omega
      have := hr (rows.getD s.1.toNat ([], 0)) (by rw [List.getD_eq_getElem?_getD, List.getElem?_eq_getElem hlt]; exact List.getElem_mem _)
      show (addV s.2 acc.1 (rows.getD s.1.toNat ([], 0)).1).length = n
      unfold addV
      rw [List.length_zipWith, this, ha]
      omega
theorem line_len {n : Nat} {rows : List Row} (hr : RowsOk n rows) {sh : List (Int × Int)} {d : Int} {r : Row} (h : lineRow n rows sh d = some r) : r.1.length = n := by
  unfold lineRow at h
  split at h
  · cases h
  cases e : sharesSum rows sh (List.replicate n 0, 0) with
  | none => rw [e] at h; cases h
  | some t =>
    rw [e] at h
    have h : (if t.1.all (fun x => x % d == 0) then some (t.1.map (fun x => x / d), upV t.2 d) else none) = some r := h
    split at h
    · cases h
      rw [List.length_map]
      exact sum_len hr (by simp) e
    · cases h
theorem rows_snoc {n : Nat} {rs : List Row} {r : Row} (h : RowsOk n rs) (hr : r.1.length = n) : RowsOk n (rs ++ [r]) := fun q hq => by
  rcases List.mem_append.mp hq with hq | hq
  · exact h q hq
  · rw [List.mem_singleton.mp hq]
    exact hr
theorem imm_opt (o : Option Row) : (optRow o).imm = true := by
  cases o with
  | none => simp [optRow, Dt.imm]
  | some r => exact imm_row r
structure BInv (n N : Nat) (now : List Row) : Prop where
  ok : RowsOk n now
  ne : now = [] → n = 0
  len : now.length ≤ N
theorem BInv.mono {n N N' : Nat} {now : List Row} (b : BInv n N now) (h : N ≤ N') : BInv n N' now := ⟨b.ok, b.ne, Nat.le_trans b.len h⟩
theorem BInv.snoc {n N : Nat} {now : List Row} {r : Row} (b : BInv n N now) (hr : r.1.length = n) : BInv n (N + 1) (now ++ [r]) :=
  ⟨rows_snoc b.ok hr, fun h => by simp at h, by simp; exact b.len⟩
theorem lop {B : Int} {sh : List (Int × Int)} {d : Int} (h : LineOk B (.cut sh d)) (hB : B ≤ 10000) : SharesOk B6 sh ∧ Sm 10000 d := by
  obtain ⟨h1, ⟨h2, h2'⟩, h3⟩ := h
  exact ⟨⟨fun s hs => by obtain ⟨q1, q2⟩ := h1 s hs; exact ⟨by show -(2 ^ 60) ≤ s.2; omega, by show s.2 ≤ 2 ^ 60; omega⟩, h3⟩, by constructor <;> omega⟩
theorem ok_p_bars {a : Addr} {fd : FuncData} (F : Fun K "bars" "bars" s_p_bars a fd) (T : Tx mg) (D_p_line_row : Def P w K mg base 2 "line_row" P_p_line_row (sp_p_line_row K)) (D_p_row_shuts : Def P w K mg base 2 "row_shuts" P_p_row_shuts (sp_p_row_shuts K)) (D_p_row_width : Def P w K mg base 1 "row_width" P_p_row_width (sp_p_row_width K)) (D_p_turned : Def P w K mg base 1 "turned" P_p_turned (sp_p_turned K)) : FnOk P w K mg base CX0 3 a fd P_p_bars (sp_p_bars K) := by
  refine F.ok sc_p_bars (fun vs H Q E h => sp_len (n := 2) (fun _ => rfl) vs H Q E h) (fun cdv A outer s H vs Q E hr h => ?_)
  refine ⟨_, (pss_cons (ps_set (i := 2) sc_p_bars.nd rfl (Or.inl rfl) (pe_def D_p_row_width hr (by rfl) (pa_cons (pv 0) pa_nil)))
      (pss_cons (ps_set (i := 3) sc_p_bars.nd rfl (Or.inl rfl) (pe_callTy (list_k K) (by rfl) T.list bt_list (pa_cons (pv 0) pa_nil)))
      (pss_cons (ps_set (i := 4) sc_p_bars.nd rfl (Or.inl rfl) (pe_lst pa_nil))
      (pss_cons (ps_for PassesOwn.never rfl (enum_k K (by rfl) T.enumerate (pa_cons (pv 1) pa_nil)) (tup_k K (n := 2) (pgs_cons (pg_name (i := 5) sc_p_bars.nd rfl (Or.inl rfl)) (pgs_cons (pg_name (i := 6) sc_p_bars.nd rfl (Or.inl rfl)) pgs_nil))) (pss_one (ps_if (pt_cmpR op_eq (pe_ix (ix_k K) (pv 6) pe_int (fun _ _ => rfl)) pe_str (nomark _)) (pss_cons (ps_set (i := 7) sc_p_bars.nd rfl (Or.inl rfl) (pe_def D_p_line_row hr (by rfl) (pa_cons (pv 3) (pa_cons (pe_ix (ix_k K) (pv 6) pe_int (fun _ _ => rfl)) (pa_cons (pe_ix (ix_k K) (pv 6) pe_int (fun _ _ => rfl)) pa_nil)))))
      (pss_cons (ps_if (pt_cmpR op_isN1 (pv 7) pe_non (nomark _)) (pss_one (ps_ret pe_bl)) pss_nil)
      (pss_one (ps_expr (app_k K (pv 3) (pv 7)))))) (pss_one (ps_if (pt_cmpR op_eq (pe_ix (ix_k K) (pv 6) pe_int (fun _ _ => rfl)) pe_str (nomark _)) (pss_cons (ps_if (pt_cmpR op_ne (pe_callB (len_k K) (by rfl) T.len bt_len (pa_cons (pe_ix (ix_k K) (pv 6) pe_int (fun _ _ => rfl)) pa_nil)) (pv 2) (nomark _)) (pss_one (ps_ret pe_bl)) pss_nil)
      (pss_cons (ps_expr (app_k K (pv 4) (pe_op (add_k K) (pv 3) (pe_lst (pa_cons (pe_tup (pa_cons (pe_ix (ix_k K) (pv 6) pe_int (fun _ _ => rfl)) (pa_cons (pe_op (add_k K) (pe_ix (ix_k K) (pv 6) pe_int (fun _ _ => rfl)) pe_int) pa_nil))) pa_nil)))))
      (pss_one (ps_expr (app_k K (pv 3) (pe_def D_p_turned hr (by rfl) (pa_cons (pe_tup (pa_cons (pe_ix (ix_k K) (pv 6) pe_int (fun _ _ => rfl)) (pa_cons (pe_ix (ix_k K) (pv 6) pe_int (fun _ _ => rfl)) pa_nil))) pa_nil))))))) (pss_cons (ps_if (pt_not (tr_k K (pe_def D_p_row_shuts hr (by rfl) (pa_cons (pv 3) (pa_cons (pe_ix (ix_k K) (pv 6) pe_int (fun _ _ => rfl)) pa_nil))))) (pss_one (ps_ret pe_bl)) pss_nil)
      (pss_cons (ps_if (pt_not (tr_k K (pv 4))) (pss_one (ps_ret (pe_cmpR op_eq (pv 5) (pe_op op_sub (pe_callB (len_k K) (by rfl) T.len bt_len (pa_cons (pv 1) pa_nil)) pe_int) (nomark _)))) pss_nil)
      (pss_one (ps_set (i := 3) sc_p_bars.nd rfl (Or.inl rfl) (pop_k K (pv 4)))))))))))
      (pss_one (ps_ret pe_bl)))))), fn_do (N := N_p_bars) (fun x hx => ?_) h⟩
  obtain ⟨n, rs, paper⟩ := x
  obtain ⟨h1, h2, h3, ⟨h4, h5⟩, h6⟩ := hx
  have h1 : n ≤ 100 := h1
  have h2 : RowsOk n rs := h2
  have h4 : paper.length ≤ 60 := h4
  have h6 : rs.length ≤ 1000 := h6
  have h5 : ∀ l ∈ paper, LineOk 5000 l := h5
  have hw : width rs = n := width_eq h2 h3
  show Do K _ [.fz (rowsT rs), .fz (linesT paper), .no, .no, .no, .no, .no, .no] (ends fun d => d = .bl (barsV n rs [] paper))
  refine do_seq (do_asg (d := .int n) ((ev_call (f := fun x : Bool × List Row => Dt.int (width x.2)) (false, rs) (by walk_at "ea") trivial).to (by rw [hw])) ?_)
  refine do_seq (do_asgN (ds := rs.map rowD) (by walk_at "en") ?_)
  refine do_seq (do_asgNs (by walk_at "en") ?_)
  show Do K _ [.fz (rowsT rs), .fz (linesT paper), .fz (.int n), .mt (rs.map rowD), .mts [], .no, .no, .no] _
  refine do_seq (do_for (ds := enumD (paper.map lineD)) (ei_enum (by walk_at "ea")) (fun i ρ => ∃ now later s5 s6 s7, barsV n rs [] paper = barsV n now later (paper.drop i) ∧ BInv n (1000 + i) now ∧ later.length ≤ i ∧ (∀ l ∈ later, BInv n (1000 + i) l) ∧
    ρ = [.fz (rowsT rs), .fz (linesT paper), .fz (.int n), .mt (now.map rowD), .mts (later.map fun l => l.map rowD), s5, s6, s7]) ⟨rs, [], .no, .no, .no, rfl, ⟨h2, h3, h6⟩, Nat.le_refl _, by simp, rfl⟩ ?_ ?_)
  · rintro i d ρ' hd ⟨now, later, s5, s6, s7, hbar, hnow, hll, hlat, rfl⟩
    obtain ⟨e, he, rfl⟩ := enumD_get hd
    rw [List.getElem?_map] at he
    obtain ⟨l, hl, rfl⟩ := Option.map_eq_some_iff.mp he
    have hi := (List.getElem?_eq_some_iff.mp hl).1
    have hlok := h5 l (List.mem_of_getElem? hl)
    rw [drop_at hl] at hbar
    have hwn : width now = n := width_eq hnow.ok hnow.ne
    have hnl := hnow.len
    refine ⟨_, _, g_tup (gs_cons g_name (gs_cons g_name gs_nil)), ?_⟩
    have ret : ∀ {ρ : List Sl} {b : Bool} {E : DE} , barsV n rs [] paper = b → E.rt = (fun d => d = Dt.bl (barsV n rs [] paper)) → Do K (tRet (tC (.bl b))) ρ E := fun hb hE => do_ret ev_bl (by rw [hE]; show _ = _; rw [hb])
    cases l with
    | cut sh dv =>
      show Do K _ [.fz (rowsT rs), .fz (linesT paper), .fz (.int n), .mt (now.map rowD), .mts (later.map fun l => l.map rowD), .fz (.int i), .fz (.tup [.str "cut", .tup (sh.map shD), .int dv]), s7] _
      have hbar : barsV n rs [] paper = match lineRow n now sh dv with
        | none => false
        | some r => barsV n (now ++ [r]) later (paper.drop (i + 1)) := hbar
      obtain ⟨k1, k2⟩ := lop hlok (by decide)
      refine do_if (b := true) ((?_ : EvT K _ _ (decide (("cut" : Str) = "cut"))).to (by decide +kernel)) (fun _ => ?_) (fun q => nomatch q)
      · walk_at "et"
      refine do_seq (do_asg (d := optRow (lineRow n now sh dv)) (ev_peek (i := 3) rfl ((ev_call (now, sh, dv) (by walk_at "ea") ⟨k1, k2, by show width now ≤ 1000; omega⟩).to (by show optRow (lineRow (width now) now sh dv) = _; rw [hwn])) (imm_opt _)) ?_)
      have hlr : ∀ r, lineRow n now sh dv = some r → r.1.length = n := fun r hr => line_len hnow.ok hr
      generalize lineRow n now sh dv = o at hbar hlr
      cases o with
      | none =>
        exact do_seq (do_if (b := true) (et_cmp (ev_op (ev_var rfl) ev_non od_isN)) (fun _ => ret hbar rfl) (fun q => nomatch q))
      | some r =>
        refine do_seq (do_if (b := false) (et_cmp (ev_op (x := rowD r) (ev_var rfl) ev_non od_isN)) (fun q => nomatch q) (fun _ => do_next ?_))
        refine do_app (d := rowD r) rfl (ev_var rfl) (by have := hnow.len; simp; omega) ?_
        refine ⟨now ++ [r], later, .fz (.int i), .fz (lineD (.cut sh dv)), .fz (rowD r), hbar, hnow.snoc (hlr r rfl), by omega, fun l hl => (hlat l hl).mono (by omega), ?_⟩
        rw [List.map_append]
        rfl
    | choice es k =>
      show Do K _ [.fz (rowsT rs), .fz (linesT paper), .fz (.int n), .mt (now.map rowD), .mts (later.map fun l => l.map rowD), .fz (.int i), .fz (.tup [.str "choice", tupI es, .int k]), s7] _
      have hbar : barsV n rs [] paper = if es.length ≠ n then false else barsV n (now ++ [(negV es, -k)]) (later ++ [now ++ [(es, k + 1)]]) (paper.drop (i + 1)) := hbar
      have hes : es.length ≤ 250 := by have : (es.length : Int) * 20 ≤ 5000 := hlok; omega
      refine do_if (b := false) ((?_ : EvT K _ _ (decide (("choice" : Str) = "cut"))).to (by decide +kernel)) (fun q => nomatch q) (fun _ => ?_)
      · walk_at "et"
      refine do_if (b := true) ((?_ : EvT K _ _ (decide (("choice" : Str) = "choice"))).to (by decide +kernel)) (fun _ => ?_) (fun q => nomatch q)
      · walk_at "et"
      refine do_seq (do_if (b := !decide ((es.length : Int) = n)) (by walk_at "et") (fun hb => ?_) (fun hb => do_next ?_))
      · refine ret ?_ rfl
        rw [hbar, if_pos]
        simp at hb
        omega
      have hb : es.length = n := by
        simp at hb
        omega
      rw [if_neg (by simpa using hb)] at hbar
      refine do_seq (do_appNs (ds := now.map rowD ++ [rowD (es, k + 1)]) rfl (evn_peek (i := 3) rfl (by walk_at "en") ?_) ?_ ?_)
      · have := imm_rows (now ++ [(es, k + 1)])
        simpa using this
      · simp
        omega
      refine do_app (d := rowD (negV es, -k)) rfl (ev_call (es, k) (by walk_at "ea") (by show es.length ≤ 1000; omega)) (by have := hnow.len; simp; omega) ?_
      refine ⟨now ++ [(negV es, -k)], later ++ [now ++ [(es, k + 1)]], .fz (.int i), .fz (lineD (.choice es k)), s7, hbar, hnow.snoc (by show (negV es).length = n; unfold negV; simpa using hb), by simp; omega, fun l hl => ?_, ?_⟩
      · rcases List.mem_append.mp hl with hl | hl
        · exact (hlat l hl).mono (by omega)
        · rw [List.mem_singleton.mp hl]
          exact hnow.snoc hb
      · simp
        rfl
    | shut m =>
      show Do K _ [.fz (rowsT rs), .fz (linesT paper), .fz (.int n), .mt (now.map rowD), .mts (later.map fun l => l.map rowD), .fz (.int i), .fz (.tup [.str "shut", .int m]), s7] _
      have hbar : barsV n rs [] paper = if rowShuts now m then (match later.getLast? with
        | none => (paper.drop (i + 1)).isEmpty
        | some x => barsV n x later.dropLast (paper.drop (i + 1))) else false := hbar
      refine do_if (b := false) ((?_ : EvT K _ _ (decide (("shut" : Str) = "cut"))).to (by decide +kernel)) (fun q => nomatch q) (fun _ => ?_)
      · walk_at "et"
      refine do_if (b := false) ((?_ : EvT K _ _ (decide (("shut" : Str) = "choice"))).to (by decide +kernel)) (fun q => nomatch q) (fun _ => ?_)
      · walk_at "et"
      refine do_seq (do_if (b := !rowShuts now m) (et_not (et_trB (ev_peek (i := 3) rfl (ev_call (now, m) (by walk_at "ea") (fun r hr => by have := hnow.ok r hr; show r.1.length ≤ 1000; omega)) (by simp [Dt.imm])))) (fun hb => ?_) (fun hb => do_next ?_))
      · refine ret ?_ rfl
        rw [hbar, if_neg (by simpa using hb)]
      rw [if_pos (by simpa using hb)] at hbar
      rcases List.eq_nil_or_concat later with rfl | ⟨la, x, rfl⟩
      · refine do_seq (do_if (b := true) ((et_not (et_trMs rfl)).to (by simp)) (fun _ => ?_) (fun q => nomatch q))
        refine do_ret (d := .bl (decide ((i : Int) = (paper.length : Int) - 1))) (by walk_at "ev") ?_
        show Dt.bl _ = Dt.bl (barsV n rs [] paper)
        rw [hbar]
        show Dt.bl _ = Dt.bl (paper.drop (i + 1)).isEmpty
        congr 1
        rw [Bool.eq_iff_iff]
        simp
        omega
      · have em : ((la ++ [x]).map fun l => l.map rowD) = (la.map fun l => l.map rowD) ++ [x.map rowD] := by simp
        rw [List.concat_eq_append] at hbar hlat hll
        rw [List.concat_eq_append, em]
        rw [List.getLast?_concat, List.dropLast_concat] at hbar
        refine do_seq (do_if (b := false) ((et_not (et_trMs rfl)).to (by simp)) (fun q => nomatch q) (fun _ => do_next ?_))
        refine do_popNs rfl (by decide) ?_
        exact ⟨x, la, .fz (.int i), .fz (lineD (.shut m)), s7, hbar, (hlat x (by simp)).mono (by omega), by simp at hll; omega, fun l hl => (hlat l (List.mem_append_left _ hl)).mono (by omega), rfl⟩
  · rintro ρ' ⟨now, later, s5, s6, s7, hbar, _, _, _, rfl⟩
    refine do_ret ev_bl ?_
    rw [List.drop_of_length_le (by rw [enumD_len]; simp)] at hbar
    show Dt.bl false = Dt.bl (barsV n rs [] paper)
    rw [hbar]
    cases now <;> rfl
theorem all_map_bl {α : Type} (f : α → Bool) (xs : List α) : (xs.map fun x => Dt.bl (f x)) = (xs.map f).map Dt.bl := by
  rw [List.map_map]
  rfl
theorem ok_p_ray_holds {a : Addr} {fd : FuncData} (F : Fun K "ray_holds" "ray_holds" s_p_ray_holds a fd) (T : Tx mg) (D_p_left : Def P w K mg base 1 "left" P_p_left (sp_p_left K)) : FnOk P w K mg base CX0 2 a fd P_p_ray_holds (sp_p_ray_holds K) := by
  refine F.ok sc_p_ray_holds (fun vs H Q E h => sp_len (n := 3) (fun _ => rfl) vs H Q E h) (fun cdv A outer s H vs Q E hr h => ?_)
  refine ⟨_, (pss_cons (ps_if (pt_cmpR op_ne (pe_callB (len_k K) (by rfl) T.len bt_len (pa_cons (pv 2) pa_nil)) (pe_callB (len_k K) (by rfl) T.len bt_len (pa_cons (pv 1) pa_nil)) (nomark _)) (pss_one (ps_ret pe_bl)) pss_nil)
      (pss_one (ps_ret (pe_and (pe_callB (all_k K) (by rfl) T.all bt_all (pa_cons (pe_lc (own := [("row", 3)]) rfl sc_p_ray_holds.nd (seq_k K (pv 0)) (blkOk_by (own := [("row", 3)]) (N := N_p_ray_holds) (sc := defScope s_p_ray_holds) (by decide +kernel)) (fun _ _ _ _ _ => (pg_name (i := 3) sc_p_ray_holds.nd rfl (Or.inl rfl))) (fun _ _ _ _ _ => pts_nil) (fun _ _ _ _ _ => (pe_cmpR op_ge (pe_def D_p_left hr (by rfl) (pa_cons (pe_ix (ix_k K) (pv 3) pe_int (fun _ _ => rfl)) (pa_cons (pv 2) pa_nil))) pe_int (nomark _)))) pa_nil)) (pe_one (pe_cmpR op_gt (pe_def D_p_left hr (by rfl) (pa_cons (pv 1) (pa_cons (pv 2) pa_nil))) pe_int (nomark _))))))), fn_do (N := N_p_ray_holds) (fun x hx => ?_) h⟩
  obtain ⟨rs, goal, ray⟩ := x
  obtain ⟨h1, h2, h3⟩ := hx
  have h1 : RowsOk goal.length rs := h1
  have h2 : rs.length ≤ 1000 := h2
  show Do K _ [.fz (rowsT rs), .fz (tupI goal), .fz (tupI ray), .no] (ends fun d => d = .bl (rayV rs goal ray))
  refine do_seq (do_if (b := !decide ((ray.length : Int) = goal.length)) (by walk_at "et") (fun hb => ?_) (fun hb => do_next ?_))
  · refine do_ret ev_bl ?_
    show Dt.bl false = Dt.bl (rayV rs goal ray)
    unfold rayV
    rw [decide_eq_false (by simp at hb; omega)]
    rfl
  have hb : ray.length = goal.length := by simp at hb; omega
  refine do_ret (d := .bl (rayV rs goal ray)) ?_ rfl
  unfold rayV
  rw [decide_eq_true hb, Bool.true_and]
  refine ev_and ((ev_cb (ea_cons (EvN.dt ((evn_map (g := rowD) (fun r => Dt.bl (decide (0 ≤ dot r.1 ray))) rs (ei_seq (by walk_at "ev")) (by omega) fun i r hr => ⟨_, _, g_name, by simp, ?_⟩).to (all_map_bl _ _))) ea_nil) cb_all).to (by rw [List.all_map]; rfl)) fun _ => ?_
  · exact ev_op (ev_call (r.1, ray) (by walk_at "ea") ⟨by show r.1.length = ray.length; rw [hb]; exact h1 r (List.mem_of_getElem? hr), h3⟩) ev_int od_ge
  · exact ev_op (ev_call (goal, ray) (by walk_at "ea") ⟨hb.symm, h3⟩) ev_int od_gt
theorem givens_ok {n : Nat} {bs : List (Int × Option Int)} {rs : List Row} (hb : bs.length = n) (hr : RowsOk n rs) : RowsOk n (givensV bs rs) := by
  subst hb
  intro r h
  unfold givensV at h
  rcases List.mem_append.mp h with h | h
  · rcases List.mem_append.mp h with h | h
    · unfold leastRows at h
      obtain ⟨i, _, rfl⟩ := List.mem_mapIdx.mp h
      simp [unitV]
    · have key : ∀ (a : Nat) (cs : List (Int × Option Int)), ∀ q ∈ mostRows bs.length a cs, q.1.length = bs.length := by
        intro a cs
        induction cs generalizing a with
        | nil => intro q hq; cases hq
        | cons c cs ih =>
          obtain ⟨l, m⟩ := c
          cases m with
          | none => exact ih (a + 1)
          | some m =>
            intro q hq
            rcases List.mem_cons.mp hq with rfl | hq
            · simp [unitV]
            · exact ih (a + 1) q hq
      exact key 0 bs r h
  · exact hr r h
theorem mostRows_len' (n : Nat) : ∀ (a : Nat) (bs : List (Int × Option Int)), (mostRows n a bs).length ≤ bs.length
  | a, [] => Nat.le_refl _
  | a, (l, none) :: bs => by
    show (mostRows n (a + 1) bs).length ≤ bs.length + 1
    have := mostRows_len' n (a + 1) bs
    omega
  | a, (l, some m) :: bs => by
    show (mostRows n (a + 1) bs).length + 1 ≤ bs.length + 1
    have := mostRows_len' n (a + 1) bs
    omega
theorem givens_len (bs : List (Int × Option Int)) (rs : List Row) : (givensV bs rs).length ≤ 2 * bs.length + rs.length ∧ bs.length ≤ (givensV bs rs).length := by
  have := mostRows_len' bs.length 0 bs
  unfold givensV leastRows
  simp
  omega
theorem nn {a b : Bool} (h : (!a || !b) = true) : (a && b) = false := by cases a <;> cases b <;> simp_all
theorem ok_p_holds {a : Addr} {fd : FuncData} (F : Fun K "holds" "holds" s_p_holds a fd) (T : Tx mg) (D_p_bars : Def P w K mg base 3 "bars" P_p_bars (sp_p_bars K)) (D_p_better : Def P w K mg base 1 "better" P_p_better (sp_p_better K)) (D_p_givens : Def P w K mg base 2 "givens" P_p_givens (sp_p_givens K)) (D_p_meets : Def P w K mg base 2 "meets" P_p_meets (sp_p_meets K)) (D_p_ray_holds : Def P w K mg base 2 "ray_holds" P_p_ray_holds (sp_p_ray_holds K)) (D_p_worth : Def P w K mg base 2 "worth" P_p_worth (sp_p_worth K)) : FnOk P w K mg base CX0 4 a fd P_p_holds (sp_p_holds K) := by
  refine F.ok sc_p_holds (fun vs H Q E h => sp_len (n := 2) (fun _ => rfl) vs H Q E h) (fun cdv A outer s H vs Q E hr h => ?_)
  refine ⟨_, (pss_cons (ps_set (i := 2) sc_p_holds.nd rfl (Or.inl rfl) (pe_def D_p_givens hr (by rfl) (pa_cons (pv 0) pa_nil)))
      (pss_cons (ps_if (pt_cmpR op_eq (pe_ix (ix_k K) (pv 1) pe_int (fun _ _ => rfl)) pe_str (nomark _)) (pss_one (ps_ret (pe_def D_p_bars hr (by rfl) (pa_cons (pv 2) (pa_cons (pe_ix (ix_k K) (pv 1) pe_int (fun _ _ => rfl)) pa_nil))))) pss_nil)
      (pss_cons (ps_set (i := 3) sc_p_holds.nd rfl (Or.inr rfl) (pe_ix (ix_k K) (pv 1) pe_int (fun _ _ => rfl)))
      (pss_cons (ps_if (PW.pt (pw_or (pt_cmpR op_ne (pe_callB (len_k K) (by rfl) T.len bt_len (pa_cons (pv 3) pa_nil)) (pe_callB (len_k K) (by rfl) T.len bt_len (pa_cons (pe_ix (ix_k K) (pv 0) pe_int (fun _ _ => rfl)) pa_nil)) (nomark _)) (pw_or1 (pt_not (tr_k K (pe_callB (all_k K) (by rfl) T.all bt_all (pa_cons (pe_lc (own := [("row", 4)]) rfl sc_p_holds.nd (seq_k K (pv 2)) (blkOk_by (own := [("row", 4)]) (N := N_p_holds) (sc := defScope s_p_holds) (by decide +kernel)) (fun _ _ _ _ _ => (pg_name (i := 4) sc_p_holds.nd rfl (Or.inl rfl))) (fun _ _ _ _ _ => pts_nil) (fun _ _ _ _ _ => (pe_def D_p_meets hr (by rfl) (pa_cons (pv 4) (pa_cons (pv 3) pa_nil))))) pa_nil))))))) (pss_one (ps_ret pe_bl)) pss_nil)
      (pss_cons (ps_if (pt_cmpR op_eq (pe_ix (ix_k K) (pv 1) pe_int (fun _ _ => rfl)) pe_str (nomark _)) (pss_one (ps_ret (pe_def D_p_ray_holds hr (by rfl) (pa_cons (pv 2) (pa_cons (pe_ix (ix_k K) (pv 0) pe_int (fun _ _ => rfl)) (pa_cons (pe_ix (ix_k K) (pv 1) pe_int (fun _ _ => rfl)) pa_nil)))))) pss_nil)
      (pss_one (ps_ret (pe_def D_p_bars hr (by rfl) (pa_cons (pe_op (add_k K) (pv 2) (pe_tup (pa_cons (pe_def D_p_better hr (by rfl) (pa_cons (pv 0) (pa_cons (pe_def D_p_worth hr (by rfl) (pa_cons (pv 0) (pa_cons (pv 3) pa_nil))) pa_nil))) pa_nil))) (pa_cons (pe_ix (ix_k K) (pv 1) pe_int (fun _ _ => rfl)) pa_nil)))))))))), fn_do (N := N_p_holds) (fun x hx => ?_) h⟩
  obtain ⟨n, p, told⟩ := x
  obtain ⟨⟨h1, h2, h3, h4, h5⟩, h6⟩ := hx
  have h1 : n ≤ 8 := h1
  have h2 : p.bounds.length = n := h2
  have h3 : p.goal.length = n := h3
  have h4 : p.rows.length ≤ 60 := h4
  have h5 : RowsOk n p.rows := h5
  have gok := givens_ok h2 h5
  have gl := givens_len p.bounds p.rows
  show Do K _ [.fz (planD p), .fz (toldD told), .no, .no, .no] (ends fun d => d = .bl (holdsV p told))
  refine do_seq (do_asg (d := rowsT (givensV p.bounds p.rows)) (ev_call p (by walk_at "ea") ⟨by show p.bounds.length ≤ 50; omega, by show p.rows.length ≤ 1000; omega⟩) ?_)
  have gne : givensV p.bounds p.rows = [] → p.goal.length = 0 := fun q => by have := congrArg List.length q; rw [List.length_nil] at this; omega
  have gok' : RowsOk p.goal.length (givensV p.bounds p.rows) := by rw [h3]; exact gok
  have hall : ∀ {ρ : List Sl} (s : List Int), ρ[2]? = some (.fz (rowsT (givensV p.bounds p.rows))) → (wipeS ρ [4])[3]? = some (.fz (tupI s)) → ρ.length = 5 → s.length = p.goal.length → (∀ y ∈ s, Sm B6 y) → EvD K (tCB (rAll K) (tCons (tLc (iSeq K (tVar 2)) (gName 4) tYes (tCall (sp_p_meets K) [] E0 (tCons (tVar 4) (tCons (tVar 3) tNil))) [4]) tNil)) ρ (.bl ((givensV p.bounds p.rows).all fun r => meetsV r s)) := fun {ρ} s e2 e3 e5 hs hb =>
    (ev_cb (ea_cons (EvN.dt ((evn_map (g := rowD) (fun r => Dt.bl (meetsV r s)) (givensV p.bounds p.rows) (ei_seq (ev_var e2)) (by omega) fun i r hr => ⟨_, _, g_name, by simp, ev_call (r, s) (ea_cons (ev_var (by rw [List.getElem?_set_self (by rw [wipeS_len]; omega)])) (ea_cons (ev_var (by rw [List.getElem?_set_ne (by decide)]; exact e3)) ea_nil)) ⟨by show r.1.length = s.length; rw [hs]; exact gok' r (List.mem_of_getElem? hr), hb⟩⟩).to (all_map_bl _ _))) ea_nil) cb_all).to (by rw [List.all_map]; rfl)
  generalize hg : givensV p.bounds p.rows = rs at gok gok' gl gne hall
  have sm6 : ∀ {s : List Int}, SpotOk 5000 s → ∀ y ∈ s, Sm B6 y := fun h y hy => by
    obtain ⟨q1, q2⟩ := h.2 y hy
    exact ⟨by show -(2 ^ 60) ≤ y; omega, by show y ≤ 2 ^ 60; omega⟩
  cases told with
  | none paper =>
    show Do K _ [.fz (planD p), .fz (.tup [.str "none", linesT paper]), .fz (rowsT rs), .no, .no] _
    refine do_seq (do_if (b := true) ((?_ : EvT K _ _ (decide (("none" : Str) = "none"))).to (by decide +kernel)) (fun _ => ?_) (fun q => nomatch q))
    · walk_at "et"
    refine do_ret (d := .bl (barsV p.goal.length rs [] paper)) (ev_call (p.goal.length, rs, paper) (by walk_at "ea") ⟨by show p.goal.length ≤ 100; omega, gok', gne, h6, by show rs.length ≤ 1000; omega⟩) ?_
    show _ = Dt.bl (barsV p.goal.length (givensV p.bounds p.rows) [] paper)
    rw [hg]
  | endless s r =>
    obtain ⟨h6, h7⟩ := h6
    have ed : decide ((s.length : Int) = (p.goal.length : Int)) = decide (s.length = p.goal.length) := decide_eq_decide.mpr (by omega)
    show Do K _ [.fz (planD p), .fz (.tup [.str "endless", tupI s, tupI r]), .fz (rowsT rs), .no, .no] _
    refine do_seq (do_if (b := false) ((?_ : EvT K _ _ (decide (("endless" : Str) = "none"))).to (by decide +kernel)) (fun q => nomatch q) (fun _ => do_next ?_))
    · walk_at "et"
    refine do_seq (do_asg (d := tupI s) (by walk_at "ev") ?_)
    show Do K _ [.fz (planD p), .fz (.tup [.str "endless", tupI s, tupI r]), .fz (rowsT rs), .fz (tupI s), .no] _
    refine do_seq (do_if (b := !decide ((s.length : Int) = p.goal.length) || !(rs.all fun r => meetsV r s)) (et_or (by walk_at "et") fun hq => et_not (et_trB (hall s rfl rfl rfl (by simp at hq; omega) (sm6 h6)))) (fun hb => ?_) (fun hb => do_next ?_))
    · refine do_ret ev_bl ?_
      show Dt.bl false = Dt.bl (decide (s.length = p.goal.length) && (givensV p.bounds p.rows).all (fun x => meetsV x s) && rayV (givensV p.bounds p.rows) p.goal r)
      rw [hg]
      rw [ed] at hb
      rw [nn hb, Bool.false_and]
    have hb : s.length = p.goal.length ∧ (rs.all fun r => meetsV r s) = true := by
      rw [Bool.or_eq_false_iff] at hb
      obtain ⟨q1, q2⟩ := hb
      exact ⟨by simp at q1; omega, by simpa using q2⟩
    refine do_seq (do_if (b := true) ((?_ : EvT K _ _ (decide (("endless" : Str) = "endless"))).to (by decide +kernel)) (fun _ => ?_) (fun q => nomatch q))
    · walk_at "et"
    refine do_ret (d := .bl (rayV rs p.goal r)) (ev_call (rs, p.goal, r) (by walk_at "ea") ⟨gok', by show rs.length ≤ 1000; omega, sm6 h7⟩) ?_
    show _ = Dt.bl (decide (s.length = p.goal.length) && (givensV p.bounds p.rows).all (fun x => meetsV x s) && rayV (givensV p.bounds p.rows) p.goal r)
    rw [hg, hb.2, decide_eq_true hb.1]
    rfl
  | best s paper =>
    obtain ⟨h6, h7⟩ := h6
    have ed : decide ((s.length : Int) = (p.goal.length : Int)) = decide (s.length = p.goal.length) := decide_eq_decide.mpr (by omega)
    show Do K _ [.fz (planD p), .fz (.tup [.str "best", tupI s, linesT paper]), .fz (rowsT rs), .no, .no] _
    refine do_seq (do_if (b := false) ((?_ : EvT K _ _ (decide (("best" : Str) = "none"))).to (by decide +kernel)) (fun q => nomatch q) (fun _ => do_next ?_))
    · walk_at "et"
    refine do_seq (do_asg (d := tupI s) (by walk_at "ev") ?_)
    show Do K _ [.fz (planD p), .fz (.tup [.str "best", tupI s, linesT paper]), .fz (rowsT rs), .fz (tupI s), .no] _
    refine do_seq (do_if (b := !decide ((s.length : Int) = p.goal.length) || !(rs.all fun r => meetsV r s)) (et_or (by walk_at "et") fun hq => et_not (et_trB (hall s rfl rfl rfl (by simp at hq; omega) (sm6 h6)))) (fun hb => ?_) (fun hb => do_next ?_))
    · refine do_ret ev_bl ?_
      show Dt.bl false = Dt.bl (decide (s.length = p.goal.length) && (givensV p.bounds p.rows).all (fun x => meetsV x s) && barsV p.goal.length (givensV p.bounds p.rows ++ [(p.goal, dot p.goal s + 1)]) [] paper)
      rw [hg]
      rw [ed] at hb
      rw [nn hb, Bool.false_and]
    have hb : s.length = p.goal.length ∧ (rs.all fun r => meetsV r s) = true := by
      rw [Bool.or_eq_false_iff] at hb
      obtain ⟨q1, q2⟩ := hb
      exact ⟨by simp at q1; omega, by simpa using q2⟩
    refine do_seq (do_if (b := false) ((?_ : EvT K _ _ (decide (("best" : Str) = "endless"))).to (by decide +kernel)) (fun q => nomatch q) (fun _ => do_next ?_))
    · walk_at "et"
    have ew : EvD K (tCall (sp_p_worth K) [] E0 (tCons (tVar 0) (tCons (tVar 3) tNil))) [.fz (planD p), .fz (.tup [.str "best", tupI s, linesT paper]), .fz (rowsT rs), .fz (tupI s), .no] (.int (dot p.goal s)) := ev_call (p, s) (by walk_at "ea") ⟨hb.1.symm, sm6 h6⟩
    refine do_ret (d := .bl (barsV p.goal.length (rs ++ [(p.goal, dot p.goal s + 1)]) [] paper)) (ev_call (p.goal.length, rs ++ [(p.goal, dot p.goal s + 1)], paper) (ea_cons ((ev_op (ev_var rfl) (ev_tup (ea_cons (ev_call (p, dot p.goal s) (ea_cons (ev_var rfl) (ea_cons ew ea_nil)) trivial) ea_nil)) (od_catT (by simp; omega))).to (by simp)) (by walk_at "ea")) ⟨by show p.goal.length ≤ 100; omega, rows_snoc gok' rfl, fun q => by simp at q, h7, by show (rs ++ _).length ≤ 1000; simp; omega⟩) ?_
    show _ = Dt.bl (decide (s.length = p.goal.length) && (givensV p.bounds p.rows).all (fun x => meetsV x s) && barsV p.goal.length (givensV p.bounds p.rows ++ [(p.goal, dot p.goal s + 1)]) [] paper)
    rw [hg, hb.2, decide_eq_true hb.1]
    rfl
end
end Cy
namespace Cy
open PySem PySem.Spec L2 Dr Dl
section
variable {P : Program} {w : World} {K : PySem.W.Frag} {mg : Str → Option Value} {base : Heap}

local macro_rules | `(tactic| walk_at "od") => `(tactic| first
  | with_reducible exact od_add
  | with_reducible exact od_sub
  | with_reducible exact od_lt
  | with_reducible exact od_le
  | with_reducible exact od_gt
  | with_reducible exact od_ge
  | with_reducible exact od_eqI
  | with_reducible exact od_neI
  | with_reducible exact od_eqS
  | with_reducible exact od_eqB
  | with_reducible exact od_isN
  | with_reducible exact od_notN
  | ((with_reducible refine' od_mul ?k1); (case k1 => (first | assumption | exact Or.inl (by omega) | exact Or.inr (by omega))))
  | with_reducible exact od_pow cpow10
  | ((with_reducible refine' od_mod ?k1); (case k1 => (first | assumption | omega)))
  | ((with_reducible refine' od_div ?k1 ?k2); (case k1 => (first | assumption | omega)); (case k2 => (first | assumption | omega)))
  | ((with_reducible refine' od_ixT ?k1); (case k1 => (first | assumption | rfl)))
  | ((with_reducible refine' od_ixL ?k1); (case k1 => (first | assumption | rfl)))
  | ((with_reducible refine' od_ixS ?k1); (case k1 => (first | assumption | rfl)))
  | ((with_reducible refine' od_catT ?k1); (case k1 => (first | assumption | (simp; omega)))))
local macro_rules | `(tactic| walk_at "cb") => `(tactic| first
  | with_reducible exact cb_lenTm
  | with_reducible exact cb_lenLm
  | with_reducible exact cb_lenT
  | with_reducible exact cb_lenL
  | with_reducible exact cb_lenS
  | with_reducible exact cb_tupL
  | with_reducible exact cb_tupT
  | with_reducible exact cb_sum
  | with_reducible exact cb_all
  | with_reducible exact cb_any
  | with_reducible exact cb_abs
  | with_reducible exact cb_max
  | with_reducible exact cb_min
  | with_reducible exact cb_intB)
local macro_rules | `(tactic| walk_at "ev") => `(tactic| first
  | ((with_reducible refine' ev_var ?k1); (case k1 => rfl))
  | with_reducible exact ev_int
  | with_reducible exact ev_non
  | with_reducible exact ev_str
  | with_reducible exact ev_bl
  | ((with_reducible refine' ev_op ?k1 ?k2 ?k3); (case k1 => walk_at "ev"); (case k2 => walk_at "ev"); (case k3 => walk_at "od"))
  | ((with_reducible refine' ev_un ?k1 ud_neg); (case k1 => walk_at "ev"))
  | ((with_reducible refine' ev_tup ?k1 ?k2); (case k1 => walk_at "ea"); (case k2 => (first | (simp; done) | (simp; omega))))
  | ((with_reducible refine' ev_cb ?k1 ?k2); (case k1 => walk_at "ea"); (case k2 => walk_at "cb"))
  | ((with_reducible refine' ev_slT ?k1 ?k2 ?k3); (case k1 => walk_at "ev"); (case k2 => walk_at "eo"); (case k3 => walk_at "eo"))
  | ((with_reducible refine' EvN.dt ?k1); (case k1 => walk_at "en")))
local macro_rules | `(tactic| walk_at "eo") => `(tactic| first
  | with_reducible exact eo_none
  | ((with_reducible refine' eo_some ?k1); (case k1 => walk_at "ev")))
local macro_rules | `(tactic| walk_at "ea") => `(tactic| first
  | with_reducible exact ea_nil
  | ((with_reducible refine' ea_cons ?k1 ?k2); (case k1 => walk_at "ev"); (case k2 => walk_at "ea")))
local macro_rules | `(tactic| walk_at "en") => `(tactic| first
  | ((with_reducible refine' evn_lst ?k1 ?k2); (case k1 => walk_at "ea"); (case k2 => (first | (simp; done) | (simp; omega))))
  | ((with_reducible refine' evn_op ?k1 ?k2 (on_cat ?k3)); (case k1 => walk_at "ev"); (case k2 => walk_at "ev"); (case k3 => (first | assumption | (simp; omega))))
  | ((with_reducible refine' evn_op ?k1 ?k2 (on_rep ?k3 ?k4)); (case k1 => walk_at "ev"); (case k2 => walk_at "ev"); (case k3 => (first | assumption | (simp; omega))); (case k4 => (first | assumption | omega)))
  | ((with_reducible refine' evn_sl ?k1 ?k2 ?k3); (case k1 => walk_at "ev"); (case k2 => walk_at "eo"); (case k3 => walk_at "eo"))
  | ((with_reducible refine' evn_cb ?k1 cb_listL); (case k1 => walk_at "ea"))
  | ((with_reducible refine' evn_cb ?k1 cb_listT); (case k1 => walk_at "ea")))
local macro_rules | `(tactic| walk_at "et") => `(tactic| first
  | ((with_reducible refine' et_cmp ?k1); (case k1 => walk_at "ev"))
  | ((with_reducible refine' et_or ?k1 ?k2); (case k1 => walk_at "et"); (case k2 => (intro _; walk_at "et")))
  | ((with_reducible refine' et_and ?k1 ?k2); (case k1 => walk_at "et"); (case k2 => (intro _; walk_at "et")))
  | ((with_reducible refine' et_not ?k1); (case k1 => walk_at "et"))
  | ((with_reducible refine' et_trM ?k1); (case k1 => rfl))
  | ((with_reducible refine' et_trMs ?k1); (case k1 => rfl))
  | ((with_reducible refine' et_trB ?k1); (case k1 => walk_at "ev"))
  | ((with_reducible refine' et_trT ?k1); (case k1 => walk_at "ev"))
  | ((with_reducible refine' et_trL ?k1); (case k1 => walk_at "ev"))
  | ((with_reducible refine' et_trS ?k1); (case k1 => walk_at "ev")))

theorem ok_l_cell {a : Addr} {fd : FuncData} (F : Fun K "_law_cell" "_law_cell" s_l_cell a fd) (T : Tx mg)  : FnOk P w K mg base CX0 1 a fd P_l_cell (sp_l_cell K) := by
  refine F.ok sc_l_cell (fun vs H Q E h => sp_len (n := 2) (fun _ => rfl) vs H Q E h) (fun cdv A outer s H vs Q E hr h => ?_)
  refine ⟨_, (pss_cons (ps_if (pt_not (tr_k K (pv 0))) (pss_one (ps_ret (pe_op (add_k K) (pe_op op_mulA pe_int (pv 1)) pe_int))) pss_nil)
      (pss_one (ps_ret (pe_op (add_k K) (pe_ix (ix_k K) (pv 0) (pe_op op_mod (pv 1) (pe_callB (len_k K) (by rfl) T.len bt_len (pa_cons (pv 0) pa_nil))) (fun _ _ => rfl)) (pe_op op_mulA pe_int (pe_op op_fdivW (pv 1) (pe_callB (len_k K) (by rfl) T.len bt_len (pa_cons (pv 0) pa_nil)))))))), fn_do (N := N_l_cell) (fun x hx => ?_) h⟩
  obtain ⟨ns, k⟩ := x
  have hx : ns.length ≤ 63 := hx
  show Do K _ [.fz (.scr ns), .fz (.int k)] _
  refine do_seq (do_if (b := !(!ns.isEmpty)) (by walk_at "et") (fun hb => ?_) (fun hb => do_next ?_))
  · exact do_ret (d := .int (31 * k + 7)) (by walk_at "ev") ⟨_, rfl⟩
  have hl : 0 < (ns.length : Int) := by
    cases ns with
    | nil => simp at hb
    | cons n ns => simp
  have hm : CMul 1009 (k / (ns.length : Int)) := .inl (by omega)
  have h1 := Int.emod_nonneg k (show (ns.length : Int) ≠ 0 by omega)
  have h2 := Int.emod_lt_of_pos k hl
  have hk : (k % (ns.length : Int)).toNat < ns.length := by omega
  have ha : atI ns (k % (ns.length : Int)) = some (ns[(k % (ns.length : Int)).toNat]'hk) := at_nat (j := (k % (ns.length : Int)).toNat) (by omega) (List.getElem?_eq_getElem hk)
  exact do_ret (d := .int (ns[(k % (ns.length : Int)).toNat]'hk + 1009 * (k / (ns.length : Int)))) (ev_op (ev_op (ev_var rfl) (ev_op (ev_var rfl) (ev_cb (ea_cons (ev_var rfl) ea_nil) cb_lenS) (od_mod hl)) (od_ixS ha)) (ev_op ev_int (ev_op (ev_var rfl) (ev_cb (ea_cons (ev_var rfl) ea_nil) cb_lenS) (od_div hl (by omega))) (od_mul hm)) od_add) ⟨_, rfl⟩

theorem drawn_nil : Drawn [] [] := ⟨rfl, fun i x s h => by simp at h⟩
theorem drawn_snoc {ss ns : List Int} {x s : Int} (h : Drawn ss ns) (h0 : 0 ≤ x) (h1 : x < s) : Drawn (ss ++ [s]) (ns ++ [x]) := by
  obtain ⟨hl, hd⟩ := h
  refine ⟨by simp [hl], fun i y t hy ht => ?_⟩
  by_cases hi : i < ns.length
  · rw [List.getElem?_append_left hi] at hy
    rw [List.getElem?_append_left (by omega)] at ht
    exact hd i y t hy ht
  · rw [List.getElem?_append_right (by omega)] at hy ht
    have e1 : i - ns.length = 0 := by
      have := (List.getElem?_eq_some_iff.mp hy).1
      simp at this
      omega
    have e2 : i - ss.length = 0 := by omega
    rw [e1] at hy
    rw [e2] at ht
    simp at hy ht
    omega
theorem ok_l_draws {a : Addr} {fd : FuncData} (F : Fun K "_law_draws" "_law_draws" s_l_draws a fd) (T : Tx mg)  : FnOk P w K mg base CX0 1 a fd P_l_draws (sp_l_draws K) := by
  refine F.ok sc_l_draws (fun vs H Q E h => sp_len (n := 3) (fun _ => rfl) vs H Q E h) (fun cdv A outer s H vs Q E hr h => ?_)
  refine ⟨_, (pss_cons (ps_set (i := 3) sc_l_draws.nd rfl (Or.inl rfl) (pe_lst pa_nil))
      (pss_cons (ps_set (i := 4) sc_l_draws.nd rfl (Or.inl rfl) (pe_callB max_k (by rfl) T.max bt_max (pa_cons pe_int (pa_cons (pe_op op_sub (pe_callB abs_k (by rfl) T.abs bt_abs (pa_cons (pv 0) pa_nil)) (pe_op op_pow pe_int pe_int)) pa_nil))))
      (pss_cons (ps_for PassesOwn.never rfl (enum_k K (by rfl) T.enumerate (pa_cons (pv 2) pa_nil)) (tup_k K (n := 2) (pgs_cons (pg_name (i := 5) sc_l_draws.nd rfl (Or.inl rfl)) (pgs_cons (pg_name (i := 6) sc_l_draws.nd rfl (Or.inl rfl)) pgs_nil))) (pss_one (ps_if (pt_cmpR op_gt (pv 4) pe_int (nomark _)) (pss_cons (ps_expr (app_k K (pv 3) (pe_op op_mod (pe_op op_sub (pv 4) pe_int) (pv 6))))
      (pss_one (ps_set (i := 4) sc_l_draws.nd rfl (Or.inl rfl) (pe_op op_fdivW (pe_op op_sub (pv 4) pe_int) (pv 6))))) (pss_cons (ps_set (i := 7) sc_l_draws.nd rfl (Or.inl rfl) (pe_op (add_k K) (pe_op (add_k K) (pe_op op_mulA (pe_op op_mod (pv 0) pe_int) pe_int) (pe_op op_mulA (pv 1) pe_int)) pe_int))
      (pss_cons (ps_set (i := 7) sc_l_draws.nd rfl (Or.inl rfl) (pe_op (add_k K) (pv 7) (pe_op op_mulA (pv 5) (pe_op (add_k K) (pe_op op_mulA (pv 5) pe_int) pe_int))))
      (pss_cons (ps_set (i := 7) sc_l_draws.nd rfl (Or.inl rfl) (pe_op (add_k K) (pe_op op_mod (pe_op op_mulA (pv 7) pe_int) pe_int) (pe_op op_mulA (pv 5) (pv 1))))
      (pss_cons (ps_set (i := 7) sc_l_draws.nd rfl (Or.inl rfl) (pe_op op_mod (pe_op op_mulA (pv 7) pe_int) pe_int))
      (pss_cons (ps_if (pt_cmpR op_gt (pv 6) pe_int (nomark _)) (pss_one (ps_set (i := 7) sc_l_draws.nd rfl (Or.inl rfl) (pe_op op_mulA (pe_op op_mulA (pe_op op_mulA (pv 7) (pv 7)) (pv 7)) (pv 7)))) pss_nil)
      (pss_one (ps_expr (app_k K (pv 3) (pe_op op_mod (pv 7) (pv 6)))))))))))))
      (pss_one (ps_ret (pv 3)))))), fn_do (N := N_l_draws) (fun x hx => ?_) h⟩
  obtain ⟨c, salt, sizes⟩ := x
  obtain ⟨h1, h2, h3⟩ := hx
  have h1 : -1000 ≤ salt ∧ salt ≤ 1000 := h1
  have h2 : sizes.length ≤ 1000 := h2
  have h3 : ∀ s ∈ sizes, 0 < s ∧ s < 2 ^ 60 := h3
  show Do K _ [.fz (.int c), .fz (.int salt), .fz (lstI sizes), .no, .no, .no, .no, .no] (ends fun d => ∃ ns, d = lstI ns ∧ Drawn sizes ns)
  refine do_seq (do_asgN (by walk_at "en") ?_)
  refine do_seq (do_asg (by walk_at "ev") ?_)
  refine do_seq (do_for (ds := enumD (sizes.map Dt.int)) (ei_enum (by walk_at "ea")) (fun i ρ => ∃ ns rest s5 s6 s7, ns.length = i ∧ Drawn (sizes.take i) ns ∧
    ρ = [.fz (.int c), .fz (.int salt), .fz (lstI sizes), .mt (ns.map Dt.int), .fz (.int rest), s5, s6, s7]) ⟨[], _, _, _, _, rfl, drawn_nil, rfl⟩ ?_ ?_)
  · rintro i d ρ' hd ⟨ns, rest, s5, s6, s7, hl, hdr, rfl⟩
    obtain ⟨e, he, rfl⟩ := enumD_get hd
    rw [List.getElem?_map] at he
    obtain ⟨sz, hs, rfl⟩ := Option.map_eq_some_iff.mp he
    have hi := (List.getElem?_eq_some_iff.mp hs).1
    obtain ⟨p1, p2⟩ := h3 sz (List.mem_of_getElem? hs)
    have p3 : sz < 2 ^ 64 := by omega
    have et : sizes.take (i + 1) = sizes.take i ++ [sz] := by rw [List.take_add_one, hs]; rfl
    refine ⟨_, _, g_tup (gs_cons g_name (gs_cons g_name gs_nil)), ?_⟩
    show Do K _ [.fz (.int c), .fz (.int salt), .fz (lstI sizes), .mt (ns.map Dt.int), .fz (.int rest), .fz (.int i), .fz (.int sz), s7] _
    have fin : ∀ (x rest' : Int) (s7' : Sl), 0 ≤ x → x < sz → ∃ ns' rest'' t5 t6 t7, ns'.length = i + 1 ∧ Drawn (sizes.take (i + 1)) ns' ∧ [Sl.fz (.int c), .fz (.int salt), .fz (lstI sizes), .mt (ns.map Dt.int ++ [.int x]), .fz (.int rest'), .fz (.int i), .fz (.int sz), s7'] = [Sl.fz (.int c), .fz (.int salt), .fz (lstI sizes), .mt (ns'.map Dt.int), .fz (.int rest''), t5, t6, t7] := fun x rest' s7' x0 x1 =>
      ⟨ns ++ [x], rest', .fz (.int i), .fz (.int sz), s7', by simp [hl], by rw [et]; exact drawn_snoc hdr x0 x1, by simp⟩
    refine do_if (b := decide (0 < rest)) (by walk_at "et") (fun hb => ?_) (fun hb => ?_)
    · refine do_seq (do_app (d := .int ((rest - 1) % sz)) rfl (by walk_at "ev") (by simp; omega) ?_)
      refine do_asg (d := .int ((rest - 1) / sz)) (by walk_at "ev") ?_
      exact fin _ _ _ (Int.emod_nonneg _ (by omega)) (Int.emod_lt_of_pos _ p1)
    · have m1 : CMul (i : Int) ((i : Int) * 104729 + 611953) := .inl (by omega)
      have m2 : CMul (i : Int) salt := .inl (by omega)
      refine do_seq (do_asg (d := .int (c % 1000003 * 7919 + salt * 15485863 + 5)) (by walk_at "ev") ?_)
      generalize c % 1000003 * 7919 + salt * 15485863 + 5 = v1
      refine do_seq (do_asg (d := .int (v1 + (i : Int) * ((i : Int) * 104729 + 611953))) (by walk_at "ev") ?_)
      generalize v1 + (i : Int) * ((i : Int) * 104729 + 611953) = v2
      refine do_seq (do_asg (d := .int (v2 * 48271 % 2147483647 + (i : Int) * salt)) (by walk_at "ev") ?_)
      generalize v2 * 48271 % 2147483647 + (i : Int) * salt = v3
      refine do_seq (do_asg (d := .int (v3 * 69621 % 1000000007)) (by walk_at "ev") ?_)
      have b1 := Int.emod_nonneg (v3 * 69621) (show (1000000007 : Int) ≠ 0 by decide)
      have b2 := Int.emod_lt_of_pos (v3 * 69621) (show (0 : Int) < 1000000007 by decide)
      generalize v3 * 69621 % 1000000007 = v4 at b1 b2
      have c1 : ∀ y, CMul y v4 := fun y => .inr (by omega)
      have c2 := c1 v4
      have c3 := c1 (v4 * v4)
      have c4 := c1 (v4 * v4 * v4)
      refine do_cut (fun ρ => ∃ v5, ρ = [.fz (.int c), .fz (.int salt), .fz (lstI sizes), .mt (ns.map Dt.int), .fz (.int rest), .fz (.int i), .fz (.int sz), .fz (.int v5)]) ?_ ?_
      · refine do_if (b := decide (1000000 < sz)) (by walk_at "et") (fun _ => ?_) (fun _ => do_next ⟨v4, rfl⟩)
        exact do_asg (d := .int (v4 * v4 * v4 * v4)) (by walk_at "ev") ⟨_, rfl⟩
      · rintro ρ' ⟨v5, rfl⟩
        refine do_app (d := .int (v5 % sz)) rfl (by walk_at "ev") (by simp; omega) ?_
        exact fin _ _ _ (Int.emod_nonneg _ (by omega)) (Int.emod_lt_of_pos _ p1)
  · rintro ρ' ⟨ns, rest, s5, s6, s7, hl, hdr, rfl⟩
    refine do_freeze (i := 3) rfl ?_
    refine do_ret (d := lstI ns) (ev_var rfl) ⟨ns, rfl, ?_⟩
    rw [List.take_of_length_le (by rw [enumD_len]; simp)] at hdr
    exact hdr

theorem ok_l_left {a : Addr} {fd : FuncData} (F : Fun K "_law_left" "_law_left" s_l_left a fd) (T : Tx mg)  : FnOk P w K mg base CX0 1 a fd P_l_left (sp_l_left K) := by
  refine F.ok sc_l_left (fun vs H Q E h => sp_len (n := 2) (fun _ => rfl) vs H Q E h) (fun cdv A outer s H vs Q E hr h => ?_)
  refine ⟨_, (pss_one (ps_ret (pe_callB (sum_k K) (by rfl) T.sum bt_sum (pa_cons (pe_lc (own := [("_law_one", 2), ("_law_other", 3)]) rfl sc_l_left.nd (zip_k K (by rfl) T.zip (pa_cons (pv 0) (pa_cons (pv 1) pa_nil))) (blkOk_by (own := [("_law_one", 2), ("_law_other", 3)]) (N := N_l_left) (sc := defScope s_l_left) (by decide +kernel)) (fun _ _ _ _ _ => (tup_k K (n := 2) (pgs_cons (pg_name (i := 2) sc_l_left.nd rfl (Or.inl rfl)) (pgs_cons (pg_name (i := 3) sc_l_left.nd rfl (Or.inl rfl)) pgs_nil)))) (fun _ _ _ _ _ => pts_nil) (fun _ _ _ _ _ => (pe_op op_mulA (pv 2) (pv 3)))) pa_nil)))), fn_do (N := N_l_left) (fun x hx => ?_) h⟩
  obtain ⟨es, sp⟩ := x
  obtain ⟨hl, hz, hb⟩ := hx
  have hz : es.length ≤ 1000 := hz
  show Do K _ [.fz (tupI es), .fz (tupI sp), .no, .no] _
  refine do_ret (d := .int (dot es sp)) (ev_cb (ea_cons (EvN.dt ((evn_zipm (g := Dt.int) (g' := Dt.int) (fun a b => Dt.int (a * b)) es sp (ei_zipA (by walk_at "ea")) (by omega) fun i a b ha hb2 => ?_).to (ds' := (List.zipWith (fun a b => a * b) es sp).map Dt.int) (by rw [List.map_zipWith]))) ea_nil) cb_sum) rfl
  have hsm : -(2 ^ 60) ≤ b ∧ b ≤ 2 ^ 60 := hb b (List.mem_of_getElem? hb2)
  exact ⟨_, _, g_tup (gs_cons g_name (gs_cons g_name gs_nil)), by simp, by walk_at "ev"⟩

theorem unit_eq (n a : Nat) (v : Int) : (List.range n).map (fun (i : Nat) => v * (if (i : Int) = (a : Int) then 1 else 0)) = unitV n a v := by
  unfold unitV
  refine List.ext_getElem? fun k => ?_
  rw [List.getElem?_map, List.getElem?_set]
  by_cases hk : k < n
  · rw [List.getElem?_range hk]
    by_cases hka : a = k
    · subst hka
      simp [hk]
    · rw [if_neg hka, List.getElem?_replicate, if_pos hk]
      show some (v * if (k : Int) = (a : Int) then 1 else 0) = some 0
      rw [if_neg (by omega), Int.mul_zero]
  · rw [List.getElem?_eq_none (by simpa using hk)]
    by_cases hka : a = k
    · subst hka
      simp [hk]
    · rw [if_neg hka, List.getElem?_eq_none (by simpa using hk)]
      rfl
theorem ok_l_unit {a : Addr} {fd : FuncData} (F : Fun K "_law_unit" "_law_unit" s_l_unit a fd) (T : Tx mg)  : FnOk P w K mg base CX0 1 a fd P_l_unit (sp_l_unit K) := by
  refine F.ok sc_l_unit (fun vs H Q E h => sp_len (n := 3) (fun _ => rfl) vs H Q E h) (fun cdv A outer s H vs Q E hr h => ?_)
  refine ⟨_, (pss_one (ps_ret (pe_callTy (tuple_k K) (by rfl) T.tuple bt_tuple (pa_cons (pe_lc (own := [("_law_k", 3)]) rfl sc_l_unit.nd (pi_range1 (by rfl) T.range (pa_cons (pv 0) pa_nil)) (blkOk_by (own := [("_law_k", 3)]) (N := N_l_unit) (sc := defScope s_l_unit) (by decide +kernel)) (fun _ _ _ _ _ => (pg_name (i := 3) sc_l_unit.nd rfl (Or.inl rfl))) (fun _ _ _ _ _ => pts_nil) (fun _ _ _ _ _ => (pe_op op_mulA (pv 2) (pe_callTy int_k (by rfl) T.int bt_int (pa_cons (pe_cmpR op_eq (pv 3) (pv 1) (nomark _)) pa_nil))))) pa_nil)))), fn_do (N := N_l_unit) (fun x hx => ?_) h⟩
  obtain ⟨n, a', v⟩ := x
  obtain ⟨h1, h2⟩ := hx
  have h2 : n ≤ 100 := h2
  show Do K _ [.fz (.int n), .fz (.int a'), .fz (.int v), .no] _
  refine do_ret (d := tupI (unitV n a' v)) (ev_cb (ea_cons (EvN.dt ((evn_range (lo := 0) (n := (n : Int).toNat) (fun i => Dt.int (v * (if (i : Int) = (a' : Int) then 1 else 0))) (ei_range1 (by walk_at "ea") (by omega)) (by omega) fun i hi => ⟨_, _, g_name, by simp, ?_⟩).to ?_)) ea_nil) cb_tupL) rfl
  · have hm : CMul v (if decide ((0 : Int) + (i : Nat) = (a' : Int)) = true then 1 else 0) := .inr (by split <;> omega)
    refine EvD.to (d := .int (v * (if decide ((0 : Int) + (i : Nat) = (a' : Int)) = true then 1 else 0))) (by walk_at "ev") ?_
    simp
  · rw [toNat_nat, ← unit_eq, List.map_map]
    rfl

theorem ok_l_total {a : Addr} {fd : FuncData} (F : Fun K "_law_total" "_law_total" s_l_total a fd) (T : Tx mg)  : FnOk P w K mg base CX0 1 a fd P_l_total (sp_l_total K) := by
  refine F.ok sc_l_total (fun vs H Q E h => sp_len (n := 3) (fun _ => rfl) vs H Q E h) (fun cdv A outer s H vs Q E hr h => ?_)
  refine ⟨_, (pss_cons (ps_set (i := 3) sc_l_total.nd rfl (Or.inl rfl) (pe_op op_mulA (pe_lst (pa_cons pe_int pa_nil)) (pe_op (add_k K) (pv 2) pe_int)))
      (pss_cons (ps_for PassesOwn.never rfl (seq_k K (pv 1)) (tup_k K (n := 2) (pgs_cons (pg_name (i := 4) sc_l_total.nd rfl (Or.inl rfl)) (pgs_cons (pg_name (i := 5) sc_l_total.nd rfl (Or.inr rfl)) pgs_nil))) (pss_cons (ps_if (PW.pt (pw_or (pt_cmpR op_lt (pv 4) pe_int (nomark _)) (pw_or (pt_cmpR op_ge (pv 4) (pe_callB (len_k K) (by rfl) T.len bt_len (pa_cons (pv 0) pa_nil)) (nomark _)) (pw_or1 (pt_cmpR op_lt (pv 5) pe_int (nomark _)))))) (pss_one (ps_ret pe_non)) pss_nil)
      (pss_cons (ps_set (i := 6) sc_l_total.nd rfl (Or.inl rfl) (pe_op (add_k K) (pe_callTy (list_k K) (by rfl) T.list bt_list (pa_cons (pe_ix (ix_k K) (pe_ix (ix_k K) (pv 0) (pv 4) (fun _ _ => rfl)) pe_int (fun _ _ => rfl)) pa_nil)) (pe_lst (pa_cons (pe_ix (ix_k K) (pe_ix (ix_k K) (pv 0) (pv 4) (fun _ _ => rfl)) pe_int (fun _ _ => rfl)) pa_nil))))
      (pss_one (ps_setLc (i := 3) (own := [("_law_one", 7), ("_law_more", 8)]) rfl sc_l_total.nd rfl rfl (sw_true rfl rfl rfl (by decide +kernel)) (zip_k K (by rfl) T.zip (pa_cons (pv 3) (pa_cons (pv 6) pa_nil))) (blkOk_by (own := [("_law_one", 7), ("_law_more", 8)]) (N := N_l_total) (sc := defScope s_l_total) (by decide +kernel)) (fun _ _ _ _ _ => (tup_k K (n := 2) (pgs_cons (pg_name (i := 7) sc_l_total.nd rfl (Or.inl rfl)) (pgs_cons (pg_name (i := 8) sc_l_total.nd rfl (Or.inl rfl)) pgs_nil)))) (fun _ _ _ _ _ => pts_nil) (fun _ _ _ _ _ => (pe_op (add_k K) (pv 7) (pe_op op_mulA (pv 5) (pv 8)))))))))
      (pss_one (ps_ret (pv 3))))), fn_do (N := N_l_total) (fun x hx => ?_) h⟩
  obtain ⟨kd, rs, sh, n⟩ := x
  obtain ⟨h0, ⟨h1, h2⟩, h3⟩ := hx
  have h0 : RowsOk n rs := h0
  have h3 : n ≤ 1000 := h3
  have h2 : sh.length ≤ 100 := h2
  show Do K _ [.fz (rowsL rs), .fz (seqD kd (sh.map shD)), .fz (.int n), .no, .no, .no, .no, .no, .no] (ends fun d => d = totD (sharesSum rs sh (List.replicate n 0, 0)))
  refine do_seq (do_asg (d := lstI (List.replicate n 0 ++ [0])) ?_ ?_)
  · refine (EvN.to (ds := (List.replicate ((n : Int) + 1).toNat [Dt.int 0]).flatten) (by walk_at "en") ?_).dt
    have e : ((n : Int) + 1).toNat = n + 1 := by omega
    rw [e, flat1, List.replicate_succ']
    simp
  refine do_seq (do_for (ds := sh.map shD) (ei_seq (ev_var rfl) (items_seq kd _)) (fun i ρ => ∃ acc s4 s5 s6, sharesSum rs sh (List.replicate n 0, 0) = sharesSum rs (sh.drop i) acc ∧ acc.1.length = n ∧
    ρ = [.fz (rowsL rs), .fz (seqD kd (sh.map shD)), .fz (.int n), .fz (lstI (acc.1 ++ [acc.2])), s4, s5, s6, .no, .no]) ⟨(List.replicate n 0, 0), _, _, _, rfl, by simp, rfl⟩ ?_ ?_)
  · rintro i d ρ' hd ⟨acc, s4, s5, s6, ha, hl, rfl⟩
    rw [List.getElem?_map] at hd
    obtain ⟨s, hs, rfl⟩ := Option.map_eq_some_iff.mp hd
    rw [drop_at hs] at ha
    obtain ⟨m, v⟩ := s
    have hw : -(2 ^ 60) ≤ v ∧ v ≤ 2 ^ 60 := h1 _ (List.mem_of_getElem? hs)
    refine ⟨_, _, g_tup (gs_cons g_name (gs_cons g_name gs_nil)), ?_⟩
    refine do_seq (do_if (b := decide (m < 0) || (decide ((rs.length : Int) ≤ m) || decide (v < 0))) (by walk_at "et") (fun hb => ?_) (fun hb => do_next ?_))
    · refine do_ret ev_non ?_
      have e : sumStep rs acc (m, v) = none := by
        unfold sumStep
        rw [if_pos (by simpa using hb)]
      show Dt.non = totD (sharesSum rs sh (List.replicate n 0, 0))
      rw [ha]
      show Dt.non = totD ((sumStep rs acc (m, v)).bind _)
      rw [e]
      rfl
    have hb : ¬ (m < 0 ∨ (rs.length : Int) ≤ m ∨ v < 0) := by simpa using hb
    have e : sumStep rs acc (m, v) = some (addV v acc.1 (rs.getD m.toNat ([], 0)).1, acc.2 + v * (rs.getD m.toNat ([], 0)).2) := by
      unfold sumStep
      rw [if_neg hb]
    have hr : atI (rs.map rowD) m = some (rowD (rs.getD m.toNat ([], 0))) := at_map rowD rs m ([], 0) (by omega) (by omega)
    have hrl : (rs.getD m.toNat ([], 0)).1.length = n := h0 _ (by rw [List.getD_eq_getElem?_getD, List.getElem?_eq_getElem (show m.toNat < rs.length by omega)]; exact List.getElem_mem _)
    generalize rs.getD m.toNat ([], 0) = r at e hr hrl
    have cm : ∀ y, CMul v y := fun y => .inl (by omega)
    refine do_seq (do_asg (d := lstI (r.1 ++ [r.2])) (EvN.dt ((EvN.to (ds := r.1.map Dt.int ++ [Dt.int r.2]) (by walk_at "en") (by simp)))) ?_)
    refine do_asg (d := lstI (addV v acc.1 r.1 ++ [acc.2 + v * r.2])) (EvN.dt (EvN.to (evn_zipm (g := Dt.int) (g' := Dt.int) (fun x y => Dt.int (x + v * y)) (acc.1 ++ [acc.2]) (r.1 ++ [r.2]) (ei_zipA (by walk_at "ea")) (by simp; omega) fun i x y hx hy => ?_) ?_)) ?_
    · have := cm y
      exact ⟨_, _, g_tup (gs_cons g_name (gs_cons g_name gs_nil)), by simp, by walk_at "ev"⟩
    · unfold addV
      rw [List.zipWith_append (by omega), List.map_append, List.map_zipWith]
      rfl
    refine ⟨(addV v acc.1 r.1, acc.2 + v * r.2), .fz (.int m), .fz (.int v), .fz (lstI (r.1 ++ [r.2])), ?_, ?_, rfl⟩
    · rw [ha]
      show (sumStep rs acc (m, v)).bind _ = _
      rw [e]
      rfl
    · show (addV v acc.1 r.1).length = n
      unfold addV
      rw [List.length_zipWith]
      omega
  · rintro ρ' ⟨acc, s4, s5, s6, ha, hl, rfl⟩
    refine do_ret (d := lstI (acc.1 ++ [acc.2])) (by walk_at "ev") ?_
    rw [List.length_map, List.drop_length] at ha
    show _ = totD _
    rw [ha]
    rfl

theorem sum_len5 {n : Nat} {rows : List Row} (hr : RowsOk n rows) : ∀ {sh : List (Int × Int)} {acc t : List Int × Int}, acc.1.length = n → sharesSum rows sh acc = some t → t.1.length = n
  | [], acc, t, ha, h => by
    cases h
    exact ha
  | s :: sh, acc, t, ha, h => by
    have h : (sumStep rows acc s).bind (sharesSum rows sh) = some t := h
    unfold sumStep at h
    by_cases hc : s.1 < 0 ∨ s.1 ≥ (rows.length : Int) ∨ s.2 < 0
    · rw [if_pos hc] at h
      cases h
    · rw [if_neg hc] at h
      refine sum_len5 hr ?_ h
      have hlt : s.1.toNat < rows.length := by omega
      have := hr (rows.getD s.1.toNat ([], 0)) (by rw [List.getD_eq_getElem?_getD, List.getElem?_eq_getElem hlt]; exact List.getElem_mem _)
      show (addV s.2 acc.1 (rows.getD s.1.toNat ([], 0)).1).length = n
      unfold addV
      rw [List.length_zipWith, this, ha]
      omega
theorem cut_to {α : Type} (xs ys : List α) : cut (xs ++ ys) none (some (xs.length : Int)) = xs := by
  unfold cut
  rw [HT.sIx_none, HT.sIx_nat]
  simp
theorem ok_l_line {a : Addr} {fd : FuncData} (F : Fun K "_law_line" "_law_line" s_l_line a fd) (T : Tx mg) (D_l_total : Def P w K mg base 1 "_law_total" P_l_total (sp_l_total K)) : FnOk P w K mg base CX0 2 a fd P_l_line (sp_l_line K) := by
  refine F.ok sc_l_line (fun vs H Q E h => sp_len (n := 4) (fun _ => rfl) vs H Q E h) (fun cdv A outer s H vs Q E hr h => ?_)
  refine ⟨_, (pss_cons (ps_if (PW.pt (pw_or (pt_cmpR op_lt (pv 2) pe_int (nomark _)) (pw_or1 (pt_cmpR op_eq (pe_callB (len_k K) (by rfl) T.len bt_len (pa_cons (pv 1) pa_nil)) pe_int (nomark _))))) (pss_one (ps_ret pe_non)) pss_nil)
      (pss_cons (ps_set (i := 4) sc_l_line.nd rfl (Or.inl rfl) (pe_def D_l_total hr (by rfl) (pa_cons (pv 0) (pa_cons (pv 1) (pa_cons (pv 3) pa_nil)))))
      (pss_cons (ps_if (PW.pt (pw_or (pt_cmpR op_isN1 (pv 4) pe_non (nomark _)) (pw_or1 (tr_k K (pe_callB (any_k K) (by rfl) T.any bt_any (pa_cons (pe_lc (own := [("_law_one", 5)]) rfl sc_l_line.nd (seq_k K (pe_slice (sl_k K) (pv 4) po_none (po_some (pv 3)))) (blkOk_by (own := [("_law_one", 5)]) (N := N_l_line) (sc := defScope s_l_line) (by decide +kernel)) (fun _ _ _ _ _ => (pg_name (i := 5) sc_l_line.nd rfl (Or.inl rfl))) (fun _ _ _ _ _ => pts_nil) (fun _ _ _ _ _ => (pe_cmpR op_ne (pe_op op_mod (pv 5) (pv 2)) pe_int (nomark _)))) pa_nil)))))) (pss_one (ps_ret pe_non)) pss_nil)
      (pss_one (ps_ret (pe_tup (pa_cons (pe_callTy (tuple_k K) (by rfl) T.tuple bt_tuple (pa_cons (pe_lc (own := [("_law_one", 5)]) rfl sc_l_line.nd (seq_k K (pe_slice (sl_k K) (pv 4) po_none (po_some (pv 3)))) (blkOk_by (own := [("_law_one", 5)]) (N := N_l_line) (sc := defScope s_l_line) (by decide +kernel)) (fun _ _ _ _ _ => (pg_name (i := 5) sc_l_line.nd rfl (Or.inl rfl))) (fun _ _ _ _ _ => pts_nil) (fun _ _ _ _ _ => (pe_op op_fdivW (pv 5) (pv 2)))) pa_nil)) (pa_cons (pe_un un_neg (pe_op op_fdivW (pe_un un_neg (pe_ix (ix_k K) (pv 4) (pv 3) (fun _ _ => rfl))) (pv 2))) pa_nil)))))))), fn_do (N := N_l_line) (fun x hx => ?_) h⟩
  obtain ⟨rs, sh, dv, n⟩ := x
  obtain ⟨h0, h1, h2, h3⟩ := hx
  have h0 : RowsOk n rs := h0
  have h2 : -10000 ≤ dv ∧ dv ≤ 10000 := h2
  have h3 : n ≤ 1000 := h3
  show Do K _ [.fz (rowsL rs), .fz (.tup (sh.map shD)), .fz (.int dv), .fz (.int n), .no, .no] (ends fun d => d = optRow (lineRow n rs sh dv))
  refine do_seq (do_if (b := decide (dv < 1) || decide ((sh.length : Int) = 0)) (by walk_at "et") (fun hb => ?_) (fun hb => do_next ?_))
  · refine do_ret ev_non ?_
    show Dt.non = optRow (lineRow n rs sh dv)
    unfold lineRow
    rw [if_pos (by simpa using hb)]
    rfl
  have hb : ¬ (dv < 1 ∨ sh = []) := by simpa using hb
  have el : lineRow n rs sh dv = finRow dv (sharesSum rs sh (List.replicate n 0, 0)) := by
    unfold lineRow
    rw [if_neg hb]
  have hlen : ∀ t, sharesSum rs sh (List.replicate n 0, 0) = some t → t.1.length = n := fun t ht => sum_len5 h0 (by simp) ht
  refine do_seq (do_asg (d := totD (sharesSum rs sh (List.replicate n 0, 0))) (ev_call (false, rs, sh, n) (by walk_at "ea") ⟨h0, h1, h3⟩) ?_)
  generalize sharesSum rs sh (List.replicate n 0, 0) = o at el hlen
  rw [el]
  have hd0 : 0 < dv := by omega
  have hd1 : dv < 2 ^ 64 := by omega
  cases o with
  | none =>
    exact do_seq (do_if (b := true) (et_or (et_cmp (ev_op (x := .non) (ev_var rfl) ev_non od_isN)) (fun q => nomatch q) (b := false)) (fun _ => do_ret ev_non rfl) (fun q => nomatch q))
  | some t =>
    have hlen := hlen t rfl
    obtain ⟨es, b⟩ := t
    have hlen : es.length = n := hlen
    show Do K _ [.fz (rowsL rs), .fz (.tup (sh.map shD)), .fz (.int dv), .fz (.int n), .fz (lstI (es ++ [b])), .no] _
    have hcut : ∀ {ρ : List Sl}, ρ[4]? = some (.fz (lstI (es ++ [b]))) → ρ[3]? = some (.fz (.int n)) → EvD K (tSl (rSlA2 K) (tVar 4) tNoPart (tPart (tVar 3))) ρ (lstI es) := fun e1 e2 =>
      (EvN.to (evn_sl (ev_var e1) eo_none (eo_some (ev_var e2))) (by rw [List.map_append, ← hlen, ← List.length_map (f := Dt.int), cut_to])).dt
    refine do_seq (do_if (b := false || es.any fun y => !decide (y % dv = 0)) (et_or ((et_cmp (ev_op (x := lstI (es ++ [b])) (ev_var rfl) ev_non od_isN))) fun _ => et_trB ((ev_cb (ea_cons (EvN.dt ((evn_map (g := Dt.int) (fun y => Dt.bl (!decide (y % dv = 0))) es (ei_seq (hcut rfl rfl)) (by omega) fun i y hy => ⟨_, _, g_name, by simp, by walk_at "ev"⟩).to (ds' := (es.map fun y => !decide (y % dv = 0)).map Dt.bl) (by rw [List.map_map]; rfl))) ea_nil) cb_any).to (by rw [List.any_map]; rfl))) (fun hb => ?_) (fun hb => do_next ?_))
    · refine do_ret ev_non ?_
      show Dt.non = optRow (if es.all (fun x => x % dv == 0) then some (es.map (fun x => x / dv), upV b dv) else none)
      rw [if_neg]
      · rfl
      intro hall
      simp at hb hall
      obtain ⟨y, hy, hy2⟩ := hb
      exact hy2 (hall y hy)
    · have hall : es.all (fun x => x % dv == 0) = true := by
        simp at hb ⊢
        exact hb
      have hn : atI ((es ++ [b]).map Dt.int) (n : Int) = some (Dt.int b) := at_nat (j := n) rfl (by rw [List.getElem?_map, List.getElem?_append_right (by omega)]; simp [hlen])
      refine do_ret (d := rowD (es.map (fun x => x / dv), upV b dv)) (ev_tup (ea_cons (ev_cb (ea_cons (EvN.dt ((evn_map (g := Dt.int) (fun y => Dt.int (y / dv)) es (ei_seq (hcut rfl rfl)) (by omega) fun i y hy => ⟨_, _, g_name, by simp, by walk_at "ev"⟩).to (ds' := (es.map fun y => y / dv).map Dt.int) (by rw [List.map_map]; rfl))) ea_nil) cb_tupL) (ea_cons ?_ ea_nil))) ?_
      · show EvD K _ _ (.int (-(-b / dv)))
        walk_at "ev"
      · show _ = optRow (if es.all (fun x => x % dv == 0) then some (es.map (fun x => x / dv), upV b dv) else none)
        rw [if_pos hall]
        rfl
end
end Cy
namespace Cy
open PySem PySem.Spec L2 Dr Dl
section
variable {P : Program} {w : World} {K : PySem.W.Frag} {mg : Str → Option Value} {base : Heap}

local macro_rules | `(tactic| walk_at "od") => `(tactic| first
  | with_reducible exact od_add
  | with_reducible exact od_sub
  | with_reducible exact od_lt
  | with_reducible exact od_le
  | with_reducible exact od_gt
  | with_reducible exact od_ge
  | with_reducible exact od_eqI
  | with_reducible exact od_neI
  | with_reducible exact od_eqS
  | with_reducible exact od_eqB
  | with_reducible exact od_isN
  | with_reducible exact od_notN
  | ((with_reducible refine' od_mul ?k1); (case k1 => (first | assumption | exact Or.inl (by omega) | exact Or.inr (by omega))))
  | with_reducible exact od_pow cpow10
  | ((with_reducible refine' od_mod ?k1); (case k1 => (first | assumption | omega)))
  | ((with_reducible refine' od_div ?k1 ?k2); (case k1 => (first | assumption | omega)); (case k2 => (first | assumption | omega)))
  | ((with_reducible refine' od_ixT ?k1); (case k1 => (first | assumption | rfl)))
  | ((with_reducible refine' od_ixL ?k1); (case k1 => (first | assumption | rfl)))
  | ((with_reducible refine' od_ixS ?k1); (case k1 => (first | assumption | rfl)))
  | ((with_reducible refine' od_catT ?k1); (case k1 => (first | assumption | (simp; omega)))))
local macro_rules | `(tactic| walk_at "cb") => `(tactic| first
  | with_reducible exact cb_lenTm
  | with_reducible exact cb_lenLm
  | with_reducible exact cb_lenT
  | with_reducible exact cb_lenL
  | with_reducible exact cb_lenS
  | with_reducible exact cb_tupL
  | with_reducible exact cb_tupT
  | with_reducible exact cb_sum
  | with_reducible exact cb_all
  | with_reducible exact cb_any
  | with_reducible exact cb_abs
  | with_reducible exact cb_max
  | with_reducible exact cb_min
  | with_reducible exact cb_intB)
local macro_rules | `(tactic| walk_at "ev") => `(tactic| first
  | ((with_reducible refine' ev_var ?k1); (case k1 => rfl))
  | with_reducible exact ev_int
  | with_reducible exact ev_non
  | with_reducible exact ev_str
  | with_reducible exact ev_bl
  | ((with_reducible refine' ev_op ?k1 ?k2 ?k3); (case k1 => walk_at "ev"); (case k2 => walk_at "ev"); (case k3 => walk_at "od"))
  | ((with_reducible refine' ev_un ?k1 ud_neg); (case k1 => walk_at "ev"))
  | ((with_reducible refine' ev_tup ?k1 ?k2); (case k1 => walk_at "ea"); (case k2 => (first | (simp; done) | (simp; omega))))
  | ((with_reducible refine' ev_cb ?k1 ?k2); (case k1 => walk_at "ea"); (case k2 => walk_at "cb"))
  | ((with_reducible refine' ev_slT ?k1 ?k2 ?k3); (case k1 => walk_at "ev"); (case k2 => walk_at "eo"); (case k3 => walk_at "eo"))
  | ((with_reducible refine' EvN.dt ?k1); (case k1 => walk_at "en")))
local macro_rules | `(tactic| walk_at "eo") => `(tactic| first
  | with_reducible exact eo_none
  | ((with_reducible refine' eo_some ?k1); (case k1 => walk_at "ev")))
local macro_rules | `(tactic| walk_at "ea") => `(tactic| first
  | with_reducible exact ea_nil
  | ((with_reducible refine' ea_cons ?k1 ?k2); (case k1 => walk_at "ev"); (case k2 => walk_at "ea")))
local macro_rules | `(tactic| walk_at "en") => `(tactic| first
  | ((with_reducible refine' evn_lst ?k1 ?k2); (case k1 => walk_at "ea"); (case k2 => (first | (simp; done) | (simp; omega))))
  | ((with_reducible refine' evn_op ?k1 ?k2 (on_cat ?k3)); (case k1 => walk_at "ev"); (case k2 => walk_at "ev"); (case k3 => (first | assumption | (simp; omega))))
  | ((with_reducible refine' evn_op ?k1 ?k2 (on_rep ?k3 ?k4)); (case k1 => walk_at "ev"); (case k2 => walk_at "ev"); (case k3 => (first | assumption | (simp; omega))); (case k4 => (first | assumption | omega)))
  | ((with_reducible refine' evn_sl ?k1 ?k2 ?k3); (case k1 => walk_at "ev"); (case k2 => walk_at "eo"); (case k3 => walk_at "eo"))
  | ((with_reducible refine' evn_cb ?k1 cb_listL); (case k1 => walk_at "ea"))
  | ((with_reducible refine' evn_cb ?k1 cb_listT); (case k1 => walk_at "ea")))
local macro_rules | `(tactic| walk_at "et") => `(tactic| first
  | ((with_reducible refine' et_cmp ?k1); (case k1 => walk_at "ev"))
  | ((with_reducible refine' et_or ?k1 ?k2); (case k1 => walk_at "et"); (case k2 => (intro _; walk_at "et")))
  | ((with_reducible refine' et_and ?k1 ?k2); (case k1 => walk_at "et"); (case k2 => (intro _; walk_at "et")))
  | ((with_reducible refine' et_not ?k1); (case k1 => walk_at "et"))
  | ((with_reducible refine' et_trM ?k1); (case k1 => rfl))
  | ((with_reducible refine' et_trMs ?k1); (case k1 => rfl))
  | ((with_reducible refine' et_trB ?k1); (case k1 => walk_at "ev"))
  | ((with_reducible refine' et_trT ?k1); (case k1 => walk_at "ev"))
  | ((with_reducible refine' et_trL ?k1); (case k1 => walk_at "ev"))
  | ((with_reducible refine' et_trS ?k1); (case k1 => walk_at "ev")))

theorem cut_mid {α : Type} (xs : List α) (a b : Nat) (h : a ≤ b) (h2 : b ≤ xs.length) : cut xs (some (a : Int)) (some (b : Int)) = (xs.drop a).take (b - a) := by
  unfold cut
  rw [HT.sIx_nat, HT.sIx_nat, Nat.min_eq_left h2, Nat.min_eq_left (show a ≤ xs.length by omega)]
theorem cut_pre {α : Type} (xs : List α) (b : Nat) (h2 : b ≤ xs.length) : cut xs none (some (b : Int)) = xs.take b := by
  unfold cut
  rw [HT.sIx_none, HT.sIx_nat, Nat.min_eq_left h2]
  simp
theorem ok_l_rows {a : Addr} {fd : FuncData} (F : Fun K "_law_rows" "_law_rows" s_l_rows a fd) (T : Tx mg) (D_l_draws : Def P w K mg base 1 "_law_draws" P_l_draws (sp_l_draws K)) : FnOk P w K mg base CX0 2 a fd P_l_rows (sp_l_rows K) := by
  refine F.ok sc_l_rows (fun vs H Q E h => sp_len (n := 5) (fun _ => rfl) vs H Q E h) (fun cdv A outer s H vs Q E hr h => ?_)
  refine ⟨_, (pss_cons (ps_set (i := 5) sc_l_rows.nd rfl (Or.inl rfl) (pe_def D_l_draws hr (by rfl) (pa_cons (pv 0) (pa_cons (pv 1) (pa_cons (pe_op op_mulA (pe_lst (pa_cons (pe_op (add_k K) (pe_op op_mulA pe_int (pv 4)) pe_int) pa_nil)) (pe_op op_mulA (pe_op (add_k K) (pv 2) pe_int) (pv 3))) pa_nil)))))
      (pss_cons (ps_set (i := 6) sc_l_rows.nd rfl (Or.inl rfl) (pe_lst pa_nil))
      (pss_cons (ps_for PassesOwn.never rfl (pi_range1 (by rfl) T.range (pa_cons (pv 3) pa_nil)) (pg_name (i := 7) sc_l_rows.nd rfl (Or.inl rfl)) (pss_cons (ps_set (i := 8) sc_l_rows.nd rfl (Or.inl rfl) (pe_slice (sl_k K) (pv 5) (po_some (pe_op op_mulA (pv 7) (pe_op (add_k K) (pv 2) pe_int))) (po_some (pe_op op_mulA (pe_op (add_k K) (pv 7) pe_int) (pe_op (add_k K) (pv 2) pe_int)))))
      (pss_one (ps_expr (app_k K (pv 6) (pe_tup (pa_cons (pe_callTy (tuple_k K) (by rfl) T.tuple bt_tuple (pa_cons (pe_lc (own := [("_law_one", 9)]) rfl sc_l_rows.nd (seq_k K (pe_slice (sl_k K) (pv 8) po_none (po_some (pv 2)))) (blkOk_by (own := [("_law_one", 9)]) (N := N_l_rows) (sc := defScope s_l_rows) (by decide +kernel)) (fun _ _ _ _ _ => (pg_name (i := 9) sc_l_rows.nd rfl (Or.inl rfl))) (fun _ _ _ _ _ => pts_nil) (fun _ _ _ _ _ => (pe_op op_sub (pv 9) (pv 4)))) pa_nil)) (pa_cons (pe_op op_sub (pe_ix (ix_k K) (pv 8) (pv 2) (fun _ _ => rfl)) (pv 4)) pa_nil))))))))
      (pss_one (ps_ret (pv 6)))))), fn_do (N := N_l_rows) (fun x hx => ?_) h⟩
  obtain ⟨c, salt, n, many, big⟩ := x
  obtain ⟨h1, h2, h3, h4, h5⟩ := hx
  have h2 : n ≤ 8 := h2
  have h3 : many ≤ 5 := h3
  have h4 : 1 ≤ big := h4
  have h5 : big ≤ 1000000000 := h5
  show Do K _ [.fz (.int c), .fz (.int salt), .fz (.int n), .fz (.int many), .fz (.int big), .no, .no, .no, .no, .no] (ends fun d => ∃ rs, d = rowsL rs ∧ rs.length = many ∧ RowsOk n rs)
  have hnm : (((n : Int) + 1) * (many : Int)).toNat = (n + 1) * many := by
    rw [show ((n : Int) + 1) * (many : Int) = (((n + 1) * many : Nat) : Int) by push_cast; rfl]
    exact toNat_nat _
  have hle : (n + 1) * many ≤ 45 := Nat.le_trans (Nat.mul_le_mul (show n + 1 ≤ 9 by omega) h3) (by decide)
  have hnn : ((n : Int) + 1) * (many : Int) ≤ 100000 ∧ [Dt.int (2 * big + 1)].length * (((n : Int) + 1) * (many : Int)).toNat ≤ 100000 := by
    rw [hnm]
    have : ((n : Int) + 1) * (many : Int) = (((n + 1) * many : Nat) : Int) := by push_cast; rfl
    constructor
    · rw [this]; omega
    · simp; omega
  have hnp : -100000 ≤ ((n : Int) + 1) * (many : Int) := by
    have : ((n : Int) + 1) * (many : Int) = (((n + 1) * many : Nat) : Int) := by push_cast; rfl
    rw [this]; omega
  have hm : CMul ((n : Int) + 1) (many : Int) := .inl (by omega)
  have es : EvD K (tOp rMulA (tLst (tCons (tOp (rAddA K) (tOp rMulA (tC (.int 2)) (tVar 4)) (tC (.int 1))) tNil)) (tOp rMulA (tOp (rAddA K) (tVar 2) (tC (.int 1))) (tVar 3)))
      [.fz (.int c), .fz (.int salt), .fz (.int n), .fz (.int many), .fz (.int big), .no, .no, .no, .no, .no] (lstI (List.replicate ((n + 1) * many) (2 * big + 1))) :=
    (EvN.to (ds := (List.replicate (((n : Int) + 1) * (many : Int)).toNat [Dt.int (2 * big + 1)]).flatten) (by walk_at "en") (by rw [hnm, flat1]; simp)).dt
  refine do_seq (do_asgP (evp_call (c, salt, List.replicate ((n + 1) * many) (2 * big + 1)) (ea_cons (ev_var rfl) (ea_cons (ev_var rfl) (ea_cons es ea_nil))) ⟨h1, by simp; omega, fun s hs => by rw [List.eq_of_mem_replicate hs]; omega⟩) ?_)
  rintro d ⟨ns, rfl, hnl, hnd⟩
  have hnl : ns.length = (n + 1) * many := by simpa using hnl
  refine do_seq (do_asgN (by walk_at "en") ?_)
  show Do K _ [.fz (.int c), .fz (.int salt), .fz (.int n), .fz (.int many), .fz (.int big), .fz (lstI ns), .mt [], .no, .no, .no] _
  refine do_seq (do_for (ds := rangeD 0 (many : Int).toNat) (ei_range1 (by walk_at "ea") (by omega)) (fun i ρ => ∃ rs s7 s8, rs.length = i ∧ RowsOk n rs ∧ ρ = [.fz (.int c), .fz (.int salt), .fz (.int n), .fz (.int many), .fz (.int big), .fz (lstI ns), .mt (rs.map rowD), s7, s8, .no]) ⟨[], _, _, rfl, fun r hr => by simp at hr, rfl⟩ ?_ ?_)
  · rintro i d ρ' hd ⟨rs, s7, s8, hrl, hro, rfl⟩
    obtain ⟨hi, rfl⟩ := rangeD_get hd
    have hi : i < many := by omega
    rw [Int.zero_add]
    refine ⟨_, _, g_name, ?_⟩
    have a1 : (i : Int) * ((n : Int) + 1) = ((i * (n + 1) : Nat) : Int) := by push_cast; rfl
    have a2 : ((i : Int) + 1) * ((n : Int) + 1) = (((i + 1) * (n + 1) : Nat) : Int) := by push_cast; rfl
    have m1 : CMul (i : Int) ((n : Int) + 1) := .inl (by omega)
    have m2 : CMul ((i : Int) + 1) ((n : Int) + 1) := .inl (by omega)
    have b2 : (i + 1) * (n + 1) ≤ ns.length := by
      rw [hnl, Nat.mul_comm (n + 1) many]
      exact Nat.mul_le_mul_right _ hi
    have b3 : (i + 1) * (n + 1) - i * (n + 1) = n + 1 := by rw [Nat.succ_mul]; omega
    have b4 : i * (n + 1) ≤ (i + 1) * (n + 1) := Nat.mul_le_mul_right _ (by omega)
    have hpl : ((ns.drop (i * (n + 1))).take (n + 1)).length = n + 1 := by
      rw [List.length_take, List.length_drop]
      omega
    refine do_seq (do_asg (d := lstI ((ns.drop (i * (n + 1))).take (n + 1))) (EvN.dt (EvN.to (ds := cut (ns.map Dt.int) (some ((i : Int) * ((n : Int) + 1))) (some (((i : Int) + 1) * ((n : Int) + 1)))) (by walk_at "en") ?_)) ?_)
    · rw [a1, a2, cut_mid _ _ _ b4 (by simpa using b2), b3, List.map_take, List.map_drop]
    generalize (ns.drop (i * (n + 1))).take (n + 1) = part at hpl
    obtain ⟨pe, pl, rfl, hpe⟩ : ∃ pe pl, part = pe ++ [pl] ∧ pe.length = n := by
      rcases List.eq_nil_or_concat part with rfl | ⟨la, y, rfl⟩
      · simp at hpl
      · refine ⟨la, y, List.concat_eq_append, ?_⟩
        simp at hpl
        exact hpl
    have hn : atI ((pe ++ [pl]).map Dt.int) (n : Int) = some (Dt.int pl) := at_nat (j := n) rfl (by rw [List.getElem?_map, List.getElem?_append_right (by omega)]; simp [hpe])
    refine do_app (d := rowD (pe.map (fun y => y - big), pl - big)) rfl (ev_tup (ea_cons (ev_cb (ea_cons (EvN.dt ((evn_map (g := Dt.int) (fun y => Dt.int (y - big)) pe (ei_seq (x := lstI pe) (EvN.dt ((evn_sl (ds := (pe ++ [pl]).map Dt.int) (ev_var rfl) eo_none (eo_some (ev_var rfl))).to ?_))) (by omega) fun j y hy => ⟨_, _, g_name, by simp, by walk_at "ev"⟩).to (ds' := (pe.map fun y => y - big).map Dt.int) (by rw [List.map_map]; rfl))) ea_nil) cb_tupL) (ea_cons (ev_op (ev_op (x := lstI (pe ++ [pl])) (ev_var rfl) (ev_var rfl) (od_ixL hn)) (ev_var rfl) od_sub) ea_nil))) (by simp; omega) ?_
    · rw [cut_pre _ n (by simp; omega), List.map_append, ← hpe, ← List.length_map (f := Dt.int), List.take_left]
    refine ⟨rs ++ [(pe.map (fun y => y - big), pl - big)], .fz (.int i), .fz (lstI (pe ++ [pl])), by simp [hrl], fun r hr => ?_, ?_⟩
    · rcases List.mem_append.mp hr with hr | hr
      · exact hro r hr
      · rw [List.mem_singleton.mp hr]
        simpa using hpe
    · rw [List.map_append]
      rfl
  · rintro ρ' ⟨rs, s7, s8, hrl, hro, rfl⟩
    refine do_freeze (i := 6) rfl ?_
    refine do_ret (d := rowsL rs) (ev_var rfl) ⟨rs, rfl, ?_, hro⟩
    rw [hrl, rangeD_len]
    omega

theorem most6 (n : Nat) (b : Int × Option Int) : ∀ (a : Nat) (bs : List (Int × Option Int)), mostRows n a (bs ++ [b]) = mostRows n a bs ++ mostRows n (a + bs.length) [b]
  | a, [] => rfl
  | a, (l, none) :: bs => by
    show mostRows n (a + 1) (bs ++ [b]) = mostRows n (a + 1) bs ++ _
    rw [most6 n b (a + 1) bs, show a + 1 + bs.length = a + ((l, none) :: bs).length from by simp; omega]
  | a, (l, some m) :: bs => by
    show (unitV n a (-1), -m) :: mostRows n (a + 1) (bs ++ [b]) = (unitV n a (-1), -m) :: mostRows n (a + 1) bs ++ _
    rw [most6 n b (a + 1) bs, show a + 1 + bs.length = a + ((l, some m) :: bs).length from by simp; omega]
    rfl
theorem most6_len (n : Nat) : ∀ (a : Nat) (bs : List (Int × Option Int)), (mostRows n a bs).length ≤ bs.length
  | a, [] => Nat.le_refl _
  | a, (l, none) :: bs => by
    show (mostRows n (a + 1) bs).length ≤ bs.length + 1
    have := most6_len n (a + 1) bs
    omega
  | a, (l, some m) :: bs => by
    show (mostRows n (a + 1) bs).length + 1 ≤ bs.length + 1
    have := most6_len n (a + 1) bs
    omega
theorem ok_l_givens {a : Addr} {fd : FuncData} (F : Fun K "_law_givens" "_law_givens" s_l_givens a fd) (T : Tx mg) (D_l_unit : Def P w K mg base 1 "_law_unit" P_l_unit (sp_l_unit K)) : FnOk P w K mg base CX0 2 a fd P_l_givens (sp_l_givens K) := by
  refine F.ok sc_l_givens (fun vs H Q E h => sp_len (n := 1) (fun _ => rfl) vs H Q E h) (fun cdv A outer s H vs Q E hr h => ?_)
  refine ⟨_, (pss_cons (ps_set (i := 1) sc_l_givens.nd rfl (Or.inr rfl) (pe_callB (len_k K) (by rfl) T.len bt_len (pa_cons (pe_ix (ix_k K) (pv 0) pe_int (fun _ _ => rfl)) pa_nil)))
      (pss_cons (ps_setLc (i := 2) (own := [("_law_k", 3)]) rfl sc_l_givens.nd rfl rfl (sw_true rfl rfl rfl (by decide +kernel)) (pi_range1 (by rfl) T.range (pa_cons (pv 1) pa_nil)) (blkOk_by (own := [("_law_k", 3)]) (N := N_l_givens) (sc := defScope s_l_givens) (by decide +kernel)) (fun _ _ _ _ _ => (pg_name (i := 3) sc_l_givens.nd rfl (Or.inl rfl))) (fun _ _ _ _ _ => pts_nil) (fun _ _ _ _ _ => (pe_tup (pa_cons (pe_def D_l_unit hr (by rfl) (pa_cons (pv 1) (pa_cons (pv 3) (pa_cons pe_int pa_nil)))) (pa_cons (pe_ix (ix_k K) (pe_ix (ix_k K) (pe_ix (ix_k K) (pv 0) pe_int (fun _ _ => rfl)) (pv 3) (fun _ _ => rfl)) pe_int (fun _ _ => rfl)) pa_nil)))))
      (pss_cons (ps_set (i := 2) sc_l_givens.nd rfl (Or.inl rfl) (pe_op (add_k K) (pv 2) (pe_lc (own := [("_law_k", 3)]) rfl sc_l_givens.nd (pi_range1 (by rfl) T.range (pa_cons (pv 1) pa_nil)) (blkOk_by (own := [("_law_k", 3)]) (N := N_l_givens) (sc := defScope s_l_givens) (by decide +kernel)) (fun _ _ _ _ _ => (pg_name (i := 3) sc_l_givens.nd rfl (Or.inl rfl))) (fun _ _ _ _ _ => (pts_one (pt_cmpR op_notN1 (pe_ix (ix_k K) (pe_ix (ix_k K) (pe_ix (ix_k K) (pv 0) pe_int (fun _ _ => rfl)) (pv 3) (fun _ _ => rfl)) pe_int (fun _ _ => rfl)) pe_non (nomark _)))) (fun _ _ _ _ _ => (pe_tup (pa_cons (pe_def D_l_unit hr (by rfl) (pa_cons (pv 1) (pa_cons (pv 3) (pa_cons (pe_un un_neg pe_int) pa_nil)))) (pa_cons (pe_un un_neg (pe_ix (ix_k K) (pe_ix (ix_k K) (pe_ix (ix_k K) (pv 0) pe_int (fun _ _ => rfl)) (pv 3) (fun _ _ => rfl)) pe_int (fun _ _ => rfl))) pa_nil)))))))
      (pss_one (ps_ret (pe_op (add_k K) (pv 2) (pe_callTy (list_k K) (by rfl) T.list bt_list (pa_cons (pe_ix (ix_k K) (pv 0) pe_int (fun _ _ => rfl)) pa_nil)))))))), fn_do (N := N_l_givens) (fun x hx => ?_) h⟩
  obtain ⟨kd, bs, rs, g⟩ := x
  obtain ⟨h1, h2⟩ := hx
  have h1 : bs.length ≤ 50 := h1
  have h2 : rs.length ≤ 1000 := h2
  show Do K _ [.fz (.tup [.tup (bs.map boundD), seqD kd (rs.map rowD), g]), .no, .no, .no] (ends fun d => d = rowsL (givensV bs rs))
  refine do_seq (do_asg (d := .int bs.length) (by walk_at "ev") ?_)
  have hb : ∀ (i : Nat) b, bs[i]? = some b → atI (bs.map boundD) ((0 : Int) + (i : Nat)) = some (boundD b) := fun i b hb => at_nat (j := i) (Int.zero_add _) (by rw [List.getElem?_map, hb]; rfl)
  have hbi : ∀ i, i < bs.length → ∃ b, bs[i]? = some b := fun i hi => ⟨bs[i], List.getElem?_eq_getElem hi⟩
  refine do_seq (do_asg (d := rowsL (leastRows bs.length bs)) (EvN.dt ((evn_range (lo := 0) (n := (bs.length : Int).toNat) (fun i => rowD (unitV bs.length i 1, (bs.getD i (0, none)).1)) (ei_range1 (by walk_at "ea") (by omega)) (by omega) fun i hi => ⟨_, _, g_name, by simp, ?_⟩).to ?_)) ?_)
  · have hi : i < bs.length := by omega
    obtain ⟨b, hbb⟩ := hbi i hi
    have e1 := hb i b hbb
    rw [List.getD_eq_getElem?_getD, hbb, Int.zero_add]
    rw [Int.zero_add] at e1
    exact ev_tup (ea_cons (ev_call (bs.length, i, 1) (by walk_at "ea") ⟨hi, by show bs.length ≤ 100; omega⟩) (by walk_at "ea"))
  · rw [toNat_nat]
    unfold leastRows
    refine List.ext_getElem? fun k => ?_
    rw [List.getElem?_map, List.getElem?_map, List.getElem?_mapIdx]
    by_cases hk : k < bs.length
    · rw [List.getElem?_range hk]
      show some (rowD (unitV bs.length k 1, (bs.getD k (0, none)).1)) = _
      rw [List.getD_eq_getElem?_getD, List.getElem?_eq_getElem hk]
      rfl
    · rw [List.getElem?_eq_none (by simpa using hk), List.getElem?_eq_none (by omega)]
      rfl
  have ll : (leastRows bs.length bs).length = bs.length := by unfold leastRows; simp
  have lm := most6_len bs.length 0 bs
  have comp : ∀ {ρ : List Sl}, ρ = [Sl.fz (.tup [.tup (bs.map boundD), seqD kd (rs.map rowD), g]), .fz (.int bs.length), .fz (rowsL (leastRows bs.length bs)), .no] →
      EvN K (tLc (iRng1 (tCons (tVar 1) tNil)) (gName 3) (tTest (tOp rNotN (tOp (rIx K) (tOp (rIx K) (tOp (rIx K) (tVar 0) (tC (.int 0))) (tVar 3)) (tC (.int 1))) (tC .non)))
        (tTup (tCons (tCall (sp_l_unit K) [] E0 (tCons (tVar 1) (tCons (tVar 3) (tCons (tUn (rU fun i => .int (-i)) (tC (.int 1))) tNil)))) (tCons (tUn (rU fun i => .int (-i)) (tOp (rIx K) (tOp (rIx K) (tOp (rIx K) (tVar 0) (tC (.int 0))) (tVar 3)) (tC (.int 1)))) tNil))) [3]) ρ ((mostRows bs.length 0 bs).map rowD) := by
    rintro ρ rfl
    refine (evnp_lc (Src := fun es => es = rangeD 0 (bs.length : Int).toNat) (R := fun es => es = (mostRows bs.length 0 bs).map rowD) ((ei_range1 (by walk_at "ea") (by omega)).p rfl) fun es e => ?_).imp1
    subst e
    refine ⟨by rw [rangeD_len]; omega, fun i acc => acc = (mostRows bs.length 0 (bs.take i)).map rowD, rfl, fun i d acc hd hacc => ?_, fun acc hacc => ?_⟩
    · obtain ⟨hi, rfl⟩ := rangeD_get hd
      have hi : i < bs.length := by omega
      obtain ⟨b, hbb⟩ := hbi i hi
      have e1 := hb i b hbb
      rw [Int.zero_add] at e1 ⊢
      have et : bs.take (i + 1) = bs.take i ++ [b] := by rw [List.take_add_one, hbb]; rfl
      have lt : (bs.take i).length = i := by simp; omega
      refine ⟨_, _, g_name, by simp, ?_⟩
      obtain ⟨l, m⟩ := b
      cases m with
      | none =>
        refine .inr ⟨(et_cmp (ev_op (x := .non) (ev_op (x := boundD (l, none)) (by walk_at "ev") ev_int (od_ixT rfl)) ev_non od_notN)), ?_⟩
        show acc = _
        rw [et, most6, show acc = _ from hacc]
        simp [mostRows]
      | some m =>
        refine .inl ⟨(et_cmp (ev_op (x := .int m) (ev_op (x := boundD (l, some m)) (by walk_at "ev") ev_int (od_ixT rfl)) ev_non od_notN)), ?_⟩
        refine EvD.p (d := rowD (unitV bs.length i (-1), -m)) (ev_tup (ea_cons (ev_call (bs.length, i, -1) (by walk_at "ea") ⟨hi, by show bs.length ≤ 100; omega⟩) (ea_cons (ev_un (x := .int m) (ev_op (x := boundD (l, some m)) (by walk_at "ev") ev_int (od_ixT rfl)) ud_neg) ea_nil))) ?_
        show acc ++ [_] = _
        rw [et, most6, lt, show acc = _ from hacc]
        simp [mostRows]
    · rw [show acc = _ from hacc, rangeD_len, toNat_nat, List.take_length]
  refine do_seq (do_asg (d := rowsL (leastRows bs.length bs ++ mostRows bs.length 0 bs)) (EvN.dt ((evn_op (ev_var rfl) (EvN.dt (comp rfl)) (on_cat (by simp; omega))).to (by simp))) ?_)
  refine do_ret (d := rowsL (givensV bs rs)) (EvN.dt ((evn_op (ds := (leastRows bs.length bs ++ mostRows bs.length 0 bs).map rowD ++ rs.map rowD) (ev_var rfl) (EvN.dt (ds := rs.map rowD) ?_) (on_cat (by simp; omega))).to (by simp [givensV]))) rfl
  cases kd with
  | true => exact evn_cb (ea_cons (ev_op (x := .tup [.tup (bs.map boundD), rowsL rs, g]) (ev_var rfl) ev_int (od_ixT rfl)) ea_nil) cb_listL
  | false => exact evn_cb (ea_cons (ev_op (x := .tup [.tup (bs.map boundD), rowsT rs, g]) (ev_var rfl) ev_int (od_ixT rfl)) ea_nil) cb_listT

theorem flat2 (a b : Dt) : ∀ n : Nat, (List.replicate n [a, b]).flatten.length = 2 * n
  | 0 => rfl
  | n + 1 => by rw [List.replicate_succ, List.flatten_cons, List.length_append, flat2 a b n]; simp; omega
theorem flat77 (n : Nat) : (List.replicate n [Dt.int 7, Dt.int 7]).flatten = (List.replicate (2 * n) (7 : Int)).map Dt.int := by
  induction n with
  | zero => rfl
  | succ n ih =>
    rw [List.replicate_succ, List.flatten_cons, ih, show 2 * (n + 1) = 2 * n + 1 + 1 by omega, List.replicate_succ, List.replicate_succ]
    rfl
theorem drawn_all {sizes ns : List Int} {M : Int} (h : Drawn sizes ns) (hs : ∀ s ∈ sizes, s ≤ M) : ∀ x ∈ ns, 0 ≤ x ∧ x < M := fun x hx => by
  obtain ⟨i, hi⟩ := List.mem_iff_getElem?.mp hx
  have hlt := (List.getElem?_eq_some_iff.mp hi).1
  have hlt2 : i < sizes.length := by rw [← h.1]; exact hlt
  have := h.2 i x _ hi (List.getElem?_eq_getElem hlt2)
  have := hs _ (List.getElem_mem hlt2)
  omega
theorem ok_l_bounds {a : Addr} {fd : FuncData} (F : Fun K "_law_bounds" "_law_bounds" s_l_bounds a fd) (T : Tx mg) (D_l_draws : Def P w K mg base 1 "_law_draws" P_l_draws (sp_l_draws K)) : FnOk P w K mg base CX0 2 a fd P_l_bounds (sp_l_bounds K) := by
  refine F.ok sc_l_bounds (fun vs H Q E h => sp_len (n := 2) (fun _ => rfl) vs H Q E h) (fun cdv A outer s H vs Q E hr h => ?_)
  refine ⟨_, (pss_cons (ps_set (i := 2) sc_l_bounds.nd rfl (Or.inl rfl) (pe_def D_l_draws hr (by rfl) (pa_cons (pv 0) (pa_cons pe_int (pa_cons (pe_op op_mulA (pe_lst (pa_cons pe_int (pa_cons pe_int pa_nil))) (pv 1)) pa_nil)))))
      (pss_cons (ps_set (i := 3) sc_l_bounds.nd rfl (Or.inl rfl) (pe_lst pa_nil))
      (pss_cons (ps_for PassesOwn.never rfl (pi_range1 (by rfl) T.range (pa_cons (pv 1) pa_nil)) (pg_name (i := 4) sc_l_bounds.nd rfl (Or.inl rfl)) (pss_cons (ps_set (i := 5) sc_l_bounds.nd rfl (Or.inl rfl) pe_non)
      (pss_cons (ps_if (pt_cmpR op_gt (pe_ix (ix_k K) (pv 2) (pe_op (add_k K) (pe_op op_mulA pe_int (pv 4)) pe_int) (fun _ _ => rfl)) pe_int (nomark _)) (pss_one (ps_set (i := 5) sc_l_bounds.nd rfl (Or.inl rfl) (pe_op op_sub (pe_op (add_k K) (pe_op op_sub (pe_ix (ix_k K) (pv 2) (pe_op op_mulA pe_int (pv 4)) (fun _ _ => rfl)) pe_int) (pe_ix (ix_k K) (pv 2) (pe_op (add_k K) (pe_op op_mulA pe_int (pv 4)) pe_int) (fun _ _ => rfl))) pe_int))) pss_nil)
      (pss_one (ps_expr (app_k K (pv 3) (pe_tup (pa_cons (pe_op op_sub (pe_ix (ix_k K) (pv 2) (pe_op op_mulA pe_int (pv 4)) (fun _ _ => rfl)) pe_int) (pa_cons (pv 5) pa_nil)))))))))
      (pss_one (ps_ret (pe_callTy (tuple_k K) (by rfl) T.tuple bt_tuple (pa_cons (pv 3) pa_nil))))))), fn_do (N := N_l_bounds) (fun x hx => ?_) h⟩
  obtain ⟨c, n⟩ := x
  have hx : n ≤ 8 := hx
  show Do K _ [.fz (.int c), .fz (.int n), .no, .no, .no, .no] (ends fun d => ∃ bs, d = .tup (bs.map boundD) ∧ bs.length = n ∧ BoundsOk bs)
  have hz : ([Dt.int 7, Dt.int 7].length) * (n : Int).toNat ≤ 100000 := by simp; omega
  have es : EvD K (tOp rMulA (tLst (tCons (tC (.int 7)) (tCons (tC (.int 7)) tNil))) (tVar 1)) [.fz (.int c), .fz (.int n), .no, .no, .no, .no] (lstI (List.replicate (2 * n) 7)) :=
    (EvN.to (ds := (List.replicate (n : Int).toNat [Dt.int 7, Dt.int 7]).flatten) (evn_op (by walk_at "ev") (by walk_at "ev") (on_rep ⟨by omega, hz⟩ (by omega))) (by rw [toNat_nat, flat77])).dt
  refine do_seq (do_asgP (evp_call (c, 28, List.replicate (2 * n) 7) (ea_cons (ev_var rfl) (ea_cons ev_int (ea_cons es ea_nil))) ⟨smk 28 (by decide), by simp; omega, fun s hs => by rw [List.eq_of_mem_replicate hs]; decide⟩) ?_)
  rintro d ⟨ns, rfl, hnd⟩
  have hnl : ns.length = 2 * n := by simpa using hnd.1
  have hall := drawn_all (M := 7) hnd (fun s hs => by rw [List.eq_of_mem_replicate hs]; decide)
  refine do_seq (do_asgN (by walk_at "en") ?_)
  show Do K _ [.fz (.int c), .fz (.int n), .fz (lstI ns), .mt [], .no, .no] _
  refine do_seq (do_for (ds := rangeD 0 (n : Int).toNat) (ei_range1 (by walk_at "ea") (by omega)) (fun i ρ => ∃ bs s4 s5, bs.length = i ∧ BoundsOk bs ∧ ρ = [.fz (.int c), .fz (.int n), .fz (lstI ns), .mt (bs.map boundD), s4, s5]) ⟨[], _, _, rfl, fun b hb => by simp at hb, rfl⟩ ?_ ?_)
  · rintro i d ρ' hd ⟨bs, s4, s5, hbl, hbo, rfl⟩
    obtain ⟨hi, rfl⟩ := rangeD_get hd
    have hi : i < n := by omega
    rw [Int.zero_add]
    refine ⟨_, _, g_name, ?_⟩
    have l1 : 2 * i < ns.length := by omega
    have l2 : 2 * i + 1 < ns.length := by omega
    have x1 : atI (ns.map Dt.int) (2 * (i : Int)) = some (Dt.int ns[2 * i]) := at_nat (j := 2 * i) (by omega) (by rw [List.getElem?_map, List.getElem?_eq_getElem l1]; rfl)
    have x2 : atI (ns.map Dt.int) (2 * (i : Int) + 1) = some (Dt.int ns[2 * i + 1]) := at_nat (j := 2 * i + 1) (by omega) (by rw [List.getElem?_map, List.getElem?_eq_getElem l2]; rfl)
    have y1 := hall _ (List.getElem_mem l1)
    have y2 := hall _ (List.getElem_mem l2)
    generalize ns[2 * i] = u at x1 y1
    generalize ns[2 * i + 1] = v at x2 y2
    refine do_seq (do_asg (by walk_at "ev") ?_)
    show Do K _ [.fz (.int c), .fz (.int n), .fz (lstI ns), .mt (bs.map boundD), .fz (.int i), .fz .non] _
    refine do_cut (fun ρ => ∃ m, (∀ q, m = some q → Sm 20 q) ∧ ρ = [.fz (.int c), .fz (.int n), .fz (lstI ns), .mt (bs.map boundD), .fz (.int i), .fz (optD m)]) ?_ ?_
    · refine do_if (b := decide (1 < v)) (by walk_at "et") (fun _ => ?_) (fun _ => do_next ⟨none, (fun q h => nomatch h), rfl⟩)
      exact do_asg (d := .int (u - 3 + v - 2)) (by walk_at "ev") ⟨some (u - 3 + v - 2), fun q h => by cases h; constructor <;> omega, rfl⟩
    · rintro ρ' ⟨m, hm, rfl⟩
      refine do_app (d := boundD (u - 3, m)) rfl (by walk_at "ev") (by simp; omega) ?_
      refine ⟨bs ++ [(u - 3, m)], .fz (.int i), .fz (optD m), by simp [hbl], fun b hb => ?_, ?_⟩
      · rcases List.mem_append.mp hb with hb | hb
        · exact hbo b hb
        · rw [List.mem_singleton.mp hb]
          exact ⟨by constructor <;> (show _ ≤ _; omega), hm⟩
      · rw [List.map_append]
        rfl
  · rintro ρ' ⟨bs, s4, s5, hbl, hbo, rfl⟩
    refine do_ret (d := .tup (bs.map boundD)) (ev_peek (i := 3) rfl (ev_cb (ea_cons (ev_var rfl) ea_nil) cb_tupL) (by simp only [Dt.imm, imm_map imm_bound])) ⟨bs, rfl, ?_, hbo⟩
    rw [hbl, rangeD_len]
    omega
end
end Cy
namespace Cy
open PySem PySem.Spec L2 Dr Dl
section
variable {P : Program} {w : World} {K : PySem.W.Frag} {mg : Str → Option Value} {base : Heap}

local macro_rules | `(tactic| walk_at "od") => `(tactic| first
  | with_reducible exact od_add
  | with_reducible exact od_sub
  | with_reducible exact od_lt
  | with_reducible exact od_le
  | with_reducible exact od_gt
  | with_reducible exact od_ge
  | with_reducible exact od_eqI
  | with_reducible exact od_neI
  | with_reducible exact od_eqS
  | with_reducible exact od_eqB
  | with_reducible exact od_isN
  | with_reducible exact od_notN
  | ((with_reducible refine' od_mul ?k1); (case k1 => (first | assumption | exact Or.inl (by omega) | exact Or.inr (by omega))))
  | with_reducible exact od_pow cpow10
  | ((with_reducible refine' od_mod ?k1); (case k1 => (first | assumption | omega)))
  | ((with_reducible refine' od_div ?k1 ?k2); (case k1 => (first | assumption | omega)); (case k2 => (first | assumption | omega)))
  | ((with_reducible refine' od_ixT ?k1); (case k1 => (first | assumption | rfl)))
  | ((with_reducible refine' od_ixL ?k1); (case k1 => (first | assumption | rfl)))
  | ((with_reducible refine' od_ixS ?k1); (case k1 => (first | assumption | rfl)))
  | ((with_reducible refine' od_catT ?k1); (case k1 => (first | assumption | (simp; omega)))))
local macro_rules | `(tactic| walk_at "cb") => `(tactic| first
  | with_reducible exact cb_lenTm
  | with_reducible exact cb_lenLm
  | with_reducible exact cb_lenT
  | with_reducible exact cb_lenL
  | with_reducible exact cb_lenS
  | with_reducible exact cb_tupL
  | with_reducible exact cb_tupT
  | with_reducible exact cb_sum
  | with_reducible exact cb_all
  | with_reducible exact cb_any
  | with_reducible exact cb_abs
  | with_reducible exact cb_max
  | with_reducible exact cb_min
  | with_reducible exact cb_intB)
local macro_rules | `(tactic| walk_at "ev") => `(tactic| first
  | ((with_reducible refine' ev_var ?k1); (case k1 => rfl))
  | with_reducible exact ev_int
  | with_reducible exact ev_non
  | with_reducible exact ev_str
  | with_reducible exact ev_bl
  | ((with_reducible refine' ev_op ?k1 ?k2 ?k3); (case k1 => walk_at "ev"); (case k2 => walk_at "ev"); (case k3 => walk_at "od"))
  | ((with_reducible refine' ev_un ?k1 ud_neg); (case k1 => walk_at "ev"))
  | ((with_reducible refine' ev_tup ?k1 ?k2); (case k1 => walk_at "ea"); (case k2 => (first | (simp; done) | (simp; omega))))
  | ((with_reducible refine' ev_cb ?k1 ?k2); (case k1 => walk_at "ea"); (case k2 => walk_at "cb"))
  | ((with_reducible refine' ev_slT ?k1 ?k2 ?k3); (case k1 => walk_at "ev"); (case k2 => walk_at "eo"); (case k3 => walk_at "eo"))
  | ((with_reducible refine' EvN.dt ?k1); (case k1 => walk_at "en")))
local macro_rules | `(tactic| walk_at "eo") => `(tactic| first
  | with_reducible exact eo_none
  | ((with_reducible refine' eo_some ?k1); (case k1 => walk_at "ev")))
local macro_rules | `(tactic| walk_at "ea") => `(tactic| first
  | with_reducible exact ea_nil
  | ((with_reducible refine' ea_cons ?k1 ?k2); (case k1 => walk_at "ev"); (case k2 => walk_at "ea")))
local macro_rules | `(tactic| walk_at "en") => `(tactic| first
  | ((with_reducible refine' evn_lst ?k1 ?k2); (case k1 => walk_at "ea"); (case k2 => (first | (simp; done) | (simp; omega))))
  | ((with_reducible refine' evn_op ?k1 ?k2 (on_cat ?k3)); (case k1 => walk_at "ev"); (case k2 => walk_at "ev"); (case k3 => (first | assumption | (simp; omega))))
  | ((with_reducible refine' evn_op ?k1 ?k2 (on_rep ?k3 ?k4)); (case k1 => walk_at "ev"); (case k2 => walk_at "ev"); (case k3 => (first | assumption | (simp; omega))); (case k4 => (first | assumption | omega)))
  | ((with_reducible refine' evn_sl ?k1 ?k2 ?k3); (case k1 => walk_at "ev"); (case k2 => walk_at "eo"); (case k3 => walk_at "eo"))
  | ((with_reducible refine' evn_cb ?k1 cb_listL); (case k1 => walk_at "ea"))
  | ((with_reducible refine' evn_cb ?k1 cb_listT); (case k1 => walk_at "ea")))
local macro_rules | `(tactic| walk_at "et") => `(tactic| first
  | ((with_reducible refine' et_cmp ?k1); (case k1 => walk_at "ev"))
  | ((with_reducible refine' et_or ?k1 ?k2); (case k1 => walk_at "et"); (case k2 => (intro _; walk_at "et")))
  | ((with_reducible refine' et_and ?k1 ?k2); (case k1 => walk_at "et"); (case k2 => (intro _; walk_at "et")))
  | ((with_reducible refine' et_not ?k1); (case k1 => walk_at "et"))
  | ((with_reducible refine' et_trM ?k1); (case k1 => rfl))
  | ((with_reducible refine' et_trMs ?k1); (case k1 => rfl))
  | ((with_reducible refine' et_trB ?k1); (case k1 => walk_at "ev"))
  | ((with_reducible refine' et_trT ?k1); (case k1 => walk_at "ev"))
  | ((with_reducible refine' et_trL ?k1); (case k1 => walk_at "ev"))
  | ((with_reducible refine' et_trS ?k1); (case k1 => walk_at "ev")))

theorem sum_len7 {n : Nat} {rows : List Row} (hr : RowsOk n rows) : ∀ {sh : List (Int × Int)} {acc t : List Int × Int}, acc.1.length = n → sharesSum rows sh acc = some t → t.1.length = n
  | [], acc, t, ha, h => by
    cases h
    exact ha
  | s :: sh, acc, t, ha, h => by
    have h : (sumStep rows acc s).bind (sharesSum rows sh) = some t := h
    unfold sumStep at h
    by_cases hc : s.1 < 0 ∨ s.1 ≥ (rows.length : Int) ∨ s.2 < 0
    · rw [if_pos hc] at h
      cases h
    · rw [if_neg hc] at h
      refine sum_len7 hr ?_ h
      have hlt : s.1.toNat < rows.length := by omega
      have := hr (rows.getD s.1.toNat ([], 0)) (by rw [List.getD_eq_getElem?_getD, List.getElem?_eq_getElem hlt]; exact List.getElem_mem _)
      show (addV s.2 acc.1 (rows.getD s.1.toNat ([], 0)).1).length = n
      unfold addV
      rw [List.length_zipWith, this, ha]
      omega
theorem line_len7 {n : Nat} {rows : List Row} (hr : RowsOk n rows) {sh : List (Int × Int)} {d : Int} {r : Row} (h : lineRow n rows sh d = some r) : r.1.length = n := by
  unfold lineRow at h
  split at h
  · cases h
  cases e : sharesSum rows sh (List.replicate n 0, 0) with
  | none => rw [e] at h; cases h
  | some t =>
    rw [e] at h
    have h : (if t.1.all (fun x => x % d == 0) then some (t.1.map (fun x => x / d), upV t.2 d) else none) = some r := h
    split at h
    · cases h
      rw [List.length_map]
      exact sum_len7 hr (by simp) e
    · cases h
structure LInv (n N : Nat) (now : List Row) : Prop where
  ok : RowsOk n now
  len : now.length ≤ N
theorem LInv.mono {n N N' : Nat} {now : List Row} (b : LInv n N now) (h : N ≤ N') : LInv n N' now := ⟨b.ok, Nat.le_trans b.len h⟩
theorem LInv.snoc {n N : Nat} {now : List Row} {r : Row} (b : LInv n N now) (hr : r.1.length = n) : LInv n (N + 1) (now ++ [r]) :=
  ⟨fun q hq => by
    rcases List.mem_append.mp hq with hq | hq
    · exact b.ok q hq
    · rw [List.mem_singleton.mp hq]; exact hr, by simp; exact b.len⟩
theorem lop7 {B : Int} {sh : List (Int × Int)} {d : Int} (h : LineOk B (.cut sh d)) (hB : B ≤ 10000) : SharesOk B6 sh ∧ Sm 10000 d := by
  obtain ⟨h1, ⟨h2, h2'⟩, h3⟩ := h
  exact ⟨⟨fun s hs => by obtain ⟨q1, q2⟩ := h1 s hs; exact ⟨by show -(2 ^ 60) ≤ s.2; omega, by show s.2 ≤ 2 ^ 60; omega⟩, h3⟩, by constructor <;> omega⟩
theorem ok_l_bars {a : Addr} {fd : FuncData} (F : Fun K "_law_bars" "_law_bars" s_l_bars a fd) (T : Tx mg) (D_l_line : Def P w K mg base 2 "_law_line" P_l_line (sp_l_line K)) : FnOk P w K mg base CX0 3 a fd P_l_bars (sp_l_bars K) := by
  refine F.ok sc_l_bars (fun vs H Q E h => sp_len (n := 3) (fun _ => rfl) vs H Q E h) (fun cdv A outer s H vs Q E hr h => ?_)
  refine ⟨_, (pss_cons (ps_set (i := 3) sc_l_bars.nd rfl (Or.inl rfl) (pe_callTy (list_k K) (by rfl) T.list bt_list (pa_cons (pv 0) pa_nil)))
      (pss_cons (ps_set (i := 4) sc_l_bars.nd rfl (Or.inl rfl) (pe_lst pa_nil))
      (pss_cons (ps_for PassesOwn.never rfl (enum_k K (by rfl) T.enumerate (pa_cons (pv 1) pa_nil)) (tup_k K (n := 2) (pgs_cons (pg_name (i := 5) sc_l_bars.nd rfl (Or.inl rfl)) (pgs_cons (pg_name (i := 6) sc_l_bars.nd rfl (Or.inl rfl)) pgs_nil))) (pss_one (ps_if (pt_cmpR op_eq (pe_ix (ix_k K) (pv 6) pe_int (fun _ _ => rfl)) pe_str (nomark _)) (pss_cons (ps_set (i := 7) sc_l_bars.nd rfl (Or.inl rfl) (pe_def D_l_line hr (by rfl) (pa_cons (pv 3) (pa_cons (pe_ix (ix_k K) (pv 6) pe_int (fun _ _ => rfl)) (pa_cons (pe_ix (ix_k K) (pv 6) pe_int (fun _ _ => rfl)) (pa_cons (pv 2) pa_nil))))))
      (pss_cons (ps_if (pt_cmpR op_isN1 (pv 7) pe_non (nomark _)) (pss_one (ps_ret pe_bl)) pss_nil)
      (pss_one (ps_set (i := 3) sc_l_bars.nd rfl (Or.inl rfl) (pe_op (add_k K) (pv 3) (pe_lst (pa_cons (pv 7) pa_nil))))))) (pss_one (ps_if (pt_cmpR op_eq (pe_ix (ix_k K) (pv 6) pe_int (fun _ _ => rfl)) pe_str (nomark _)) (pss_cons (ps_if (pt_cmpR op_ne (pe_callB (len_k K) (by rfl) T.len bt_len (pa_cons (pe_ix (ix_k K) (pv 6) pe_int (fun _ _ => rfl)) pa_nil)) (pv 2) (nomark _)) (pss_one (ps_ret pe_bl)) pss_nil)
      (pss_cons (ps_expr (app_k K (pv 4) (pe_op (add_k K) (pv 3) (pe_lst (pa_cons (pe_tup (pa_cons (pe_ix (ix_k K) (pv 6) pe_int (fun _ _ => rfl)) (pa_cons (pe_op (add_k K) (pe_ix (ix_k K) (pv 6) pe_int (fun _ _ => rfl)) pe_int) pa_nil))) pa_nil)))))
      (pss_one (ps_set (i := 3) sc_l_bars.nd rfl (Or.inl rfl) (pe_op (add_k K) (pv 3) (pe_lst (pa_cons (pe_tup (pa_cons (pe_callTy (tuple_k K) (by rfl) T.tuple bt_tuple (pa_cons (pe_lc (own := [("_law_one", 8)]) rfl sc_l_bars.nd (seq_k K (pe_ix (ix_k K) (pv 6) pe_int (fun _ _ => rfl))) (blkOk_by (own := [("_law_one", 8)]) (N := N_l_bars) (sc := defScope s_l_bars) (by decide +kernel)) (fun _ _ _ _ _ => (pg_name (i := 8) sc_l_bars.nd rfl (Or.inl rfl))) (fun _ _ _ _ _ => pts_nil) (fun _ _ _ _ _ => (pe_un un_neg (pv 8)))) pa_nil)) (pa_cons (pe_un un_neg (pe_ix (ix_k K) (pv 6) pe_int (fun _ _ => rfl))) pa_nil))) pa_nil))))))) (pss_cons (ps_if (PW.pt (pw_or (pt_cmpR op_lt (pe_ix (ix_k K) (pv 6) pe_int (fun _ _ => rfl)) pe_int (nomark _)) (pw_or (pt_cmpR op_ge (pe_ix (ix_k K) (pv 6) pe_int (fun _ _ => rfl)) (pe_callB (len_k K) (by rfl) T.len bt_len (pa_cons (pv 3) pa_nil)) (nomark _)) (pw_or1 (pt_cmpR op_le (pe_ix (ix_k K) (pe_ix (ix_k K) (pv 3) (pe_ix (ix_k K) (pv 6) pe_int (fun _ _ => rfl)) (fun _ _ => rfl)) pe_int (fun _ _ => rfl)) pe_int (nomark _)))))) (pss_one (ps_ret pe_bl)) pss_nil)
      (pss_cons (ps_if (tr_k K (pe_callB (any_k K) (by rfl) T.any bt_any (pa_cons (pe_lc (own := [("_law_one", 8)]) rfl sc_l_bars.nd (seq_k K (pe_ix (ix_k K) (pe_ix (ix_k K) (pv 3) (pe_ix (ix_k K) (pv 6) pe_int (fun _ _ => rfl)) (fun _ _ => rfl)) pe_int (fun _ _ => rfl))) (blkOk_by (own := [("_law_one", 8)]) (N := N_l_bars) (sc := defScope s_l_bars) (by decide +kernel)) (fun _ _ _ _ _ => (pg_name (i := 8) sc_l_bars.nd rfl (Or.inl rfl))) (fun _ _ _ _ _ => pts_nil) (fun _ _ _ _ _ => (pe_cmpR op_ne (pv 8) pe_int (nomark _)))) pa_nil))) (pss_one (ps_ret pe_bl)) pss_nil)
      (pss_cons (ps_if (pt_not (tr_k K (pv 4))) (pss_one (ps_ret (pe_cmpR op_eq (pv 5) (pe_op op_sub (pe_callB (len_k K) (by rfl) T.len bt_len (pa_cons (pv 1) pa_nil)) pe_int) (nomark _)))) pss_nil)
      (pss_one (ps_set (i := 3) sc_l_bars.nd rfl (Or.inl rfl) (pop_k K (pv 4))))))))))))
      (pss_one (ps_ret pe_bl))))), fn_do (N := N_l_bars) (fun x hx => ?_) h⟩
  obtain ⟨n, rs, paper⟩ := x
  obtain ⟨h1, h2, ⟨h4, h5⟩, h6⟩ := hx
  have h1 : n ≤ 100 := h1
  have h2 : RowsOk n rs := h2
  have h4 : paper.length ≤ 60 := h4
  have h6 : rs.length ≤ 1000 := h6
  have h5 : ∀ l ∈ paper, LineOk 5000 l := h5
  show Do K _ [.fz (rowsL rs), .fz (linesL paper), .fz (.int n), .no, .no, .no, .no, .no, .no] (ends fun d => d = .bl (barsV n rs [] paper))
  refine do_seq (do_asg (d := rowsL rs) (EvN.dt (ds := rs.map rowD) (by walk_at "en")) ?_)
  refine do_seq (do_asgN (by walk_at "en") ?_)
  show Do K _ [.fz (rowsL rs), .fz (linesL paper), .fz (.int n), .fz (rowsL rs), .mt [], .no, .no, .no, .no] _
  refine do_seq (do_for (ds := enumD (paper.map lineD)) (ei_enum (by walk_at "ea")) (fun i ρ => ∃ now later s5 s6 s7, barsV n rs [] paper = barsV n now later (paper.drop i) ∧ LInv n (1000 + i) now ∧ later.length ≤ i ∧ (∀ l ∈ later, LInv n (1000 + i) l) ∧
    ρ = [.fz (rowsL rs), .fz (linesL paper), .fz (.int n), .fz (rowsL now), .mt (later.map rowsL), s5, s6, s7, .no]) ⟨rs, [], .no, .no, .no, rfl, ⟨h2, h6⟩, Nat.le_refl _, by simp, rfl⟩ ?_ ?_)
  · rintro i d ρ' hd ⟨now, later, s5, s6, s7, hbar, hnow, hll, hlat, rfl⟩
    obtain ⟨e, he, rfl⟩ := enumD_get hd
    rw [List.getElem?_map] at he
    obtain ⟨l, hl, rfl⟩ := Option.map_eq_some_iff.mp he
    have hi := (List.getElem?_eq_some_iff.mp hl).1
    have hlok := h5 l (List.mem_of_getElem? hl)
    rw [drop_at hl] at hbar
    have hnl := hnow.len
    refine ⟨_, _, g_tup (gs_cons g_name (gs_cons g_name gs_nil)), ?_⟩
    have ret : ∀ {ρ : List Sl} {b : Bool} {E : DE} , barsV n rs [] paper = b → E.rt = (fun d => d = Dt.bl (barsV n rs [] paper)) → Do K (tRet (tC (.bl b))) ρ E := fun hb hE => do_ret ev_bl (by rw [hE]; show _ = _; rw [hb])
    cases l with
    | cut sh dv =>
      show Do K _ [.fz (rowsL rs), .fz (linesL paper), .fz (.int n), .fz (rowsL now), .mt (later.map rowsL), .fz (.int i), .fz (.tup [.str "cut", .tup (sh.map shD), .int dv]), s7, .no] _
      have hbar : barsV n rs [] paper = match lineRow n now sh dv with
        | none => false
        | some r => barsV n (now ++ [r]) later (paper.drop (i + 1)) := hbar
      obtain ⟨k1, k2⟩ := lop7 hlok (by decide)
      refine do_if (b := true) ((?_ : EvT K _ _ (decide (("cut" : Str) = "cut"))).to (by decide +kernel)) (fun _ => ?_) (fun q => nomatch q)
      · walk_at "et"
      refine do_seq (do_asg (d := optRow (lineRow n now sh dv)) (ev_call (now, sh, dv, n) (by walk_at "ea") ⟨hnow.ok, k1, k2, by show n ≤ 1000; omega⟩) ?_)
      have hlr : ∀ r, lineRow n now sh dv = some r → r.1.length = n := fun r hr => line_len7 hnow.ok hr
      generalize lineRow n now sh dv = o at hbar hlr
      cases o with
      | none =>
        exact do_seq (do_if (b := true) (et_cmp (ev_op (ev_var rfl) ev_non od_isN)) (fun _ => ret hbar rfl) (fun q => nomatch q))
      | some r =>
        refine do_seq (do_if (b := false) (et_cmp (ev_op (x := rowD r) (ev_var rfl) ev_non od_isN)) (fun q => nomatch q) (fun _ => do_next ?_))
        refine do_asg (d := rowsL (now ++ [r])) (EvN.dt ((evn_op (ds := now.map rowD ++ [rowD r]) (ev_var rfl) (EvN.dt (evn_lst (ea_cons (ev_var rfl) ea_nil))) (on_cat (by simp; omega))).to (by simp))) ?_
        exact ⟨now ++ [r], later, .fz (.int i), .fz (lineD (.cut sh dv)), .fz (rowD r), hbar, hnow.snoc (hlr r rfl), by omega, fun l hl => (hlat l hl).mono (by omega), rfl⟩
    | choice es k =>
      show Do K _ [.fz (rowsL rs), .fz (linesL paper), .fz (.int n), .fz (rowsL now), .mt (later.map rowsL), .fz (.int i), .fz (.tup [.str "choice", tupI es, .int k]), s7, .no] _
      have hbar : barsV n rs [] paper = if es.length ≠ n then false else barsV n (now ++ [(negV es, -k)]) (later ++ [now ++ [(es, k + 1)]]) (paper.drop (i + 1)) := hbar
      have hes : es.length ≤ 250 := by have : (es.length : Int) * 20 ≤ 5000 := hlok; omega
      refine do_if (b := false) ((?_ : EvT K _ _ (decide (("choice" : Str) = "cut"))).to (by decide +kernel)) (fun q => nomatch q) (fun _ => ?_)
      · walk_at "et"
      refine do_if (b := true) ((?_ : EvT K _ _ (decide (("choice" : Str) = "choice"))).to (by decide +kernel)) (fun _ => ?_) (fun q => nomatch q)
      · walk_at "et"
      refine do_seq (do_if (b := !decide ((es.length : Int) = n)) (by walk_at "et") (fun hb => ?_) (fun hb => do_next ?_))
      · refine ret ?_ rfl
        rw [hbar, if_pos]
        simp at hb
        omega
      have hb : es.length = n := by
        simp at hb
        omega
      rw [if_neg (by simpa using hb)] at hbar
      refine do_seq (do_app (d := rowsL (now ++ [(es, k + 1)])) rfl (EvN.dt ((EvN.to (ds := now.map rowD ++ [rowD (es, k + 1)]) (by walk_at "en") (by simp)))) (by simp; omega) ?_)
      refine do_asg (d := rowsL (now ++ [(negV es, -k)])) (EvN.dt (EvN.to (ds := now.map rowD ++ [rowD (negV es, -k)]) (evn_op (x := rowsL now) (y := .lst [rowD (negV es, -k)]) (ev_var rfl) (EvN.dt (evn_lst (ea_cons (ev_tup (ea_cons (d := tupI (negV es)) (ev_cb (ea_cons (EvN.dt (ds := (negV es).map Dt.int) ?_) ea_nil) cb_tupL) (ea_cons (d := .int (-k)) (by walk_at "ev") ea_nil))) ea_nil))) (on_cat ?_)) ?_)) ?_
      · have e : (es.map fun y => Dt.int (-y)) = (negV es).map Dt.int := by
          unfold negV
          rw [List.map_map]
          rfl
        rw [← e]
        exact evn_map (g := Dt.int) (fun y => Dt.int (-y)) es (ei_seq (by walk_at "ev")) (by omega) fun j y hy => ⟨_, _, g_name, by simp, by walk_at "ev"⟩
      · simp
        omega
      · simp
      refine ⟨now ++ [(negV es, -k)], later ++ [now ++ [(es, k + 1)]], .fz (.int i), .fz (lineD (.choice es k)), s7, hbar, hnow.snoc (by show (negV es).length = n; unfold negV; simpa using hb), by simp; omega, fun l hl => ?_, ?_⟩
      · rcases List.mem_append.mp hl with hl | hl
        · exact (hlat l hl).mono (by omega)
        · rw [List.mem_singleton.mp hl]
          exact hnow.snoc hb
      · rw [List.map_append]
        rfl
    | shut m =>
      show Do K _ [.fz (rowsL rs), .fz (linesL paper), .fz (.int n), .fz (rowsL now), .mt (later.map rowsL), .fz (.int i), .fz (.tup [.str "shut", .int m]), s7, .no] _
      have hbar : barsV n rs [] paper = if rowShuts now m then (match later.getLast? with
        | none => (paper.drop (i + 1)).isEmpty
        | some x => barsV n x later.dropLast (paper.drop (i + 1))) else false := hbar
      refine do_if (b := false) ((?_ : EvT K _ _ (decide (("shut" : Str) = "cut"))).to (by decide +kernel)) (fun q => nomatch q) (fun _ => ?_)
      · walk_at "et"
      refine do_if (b := false) ((?_ : EvT K _ _ (decide (("shut" : Str) = "choice"))).to (by decide +kernel)) (fun q => nomatch q) (fun _ => ?_)
      · walk_at "et"
      have hr : decide (m < 0) = false → decide ((now.length : Int) ≤ m) = false → atI (now.map rowD) m = some (rowD (now.getD m.toNat ([], 0))) := fun q1 q2 => by
        simp at q1 q2
        exact at_map rowD now m ([], 0) (by omega) (by omega)
      have hrl : decide (m < 0) = false → decide ((now.length : Int) ≤ m) = false → (now.getD m.toNat ([], 0)).1.length ≤ 100 := fun q1 q2 => by
        simp at q1 q2
        have := hnow.ok (now.getD m.toNat ([], 0)) (by rw [List.getD_eq_getElem?_getD, List.getElem?_eq_getElem (show m.toNat < now.length by omega)]; exact List.getElem_mem _)
        omega
      have es : rowShuts now m = if m < 0 ∨ m ≥ (now.length : Int) then false else noughts (now.getD m.toNat ([], 0)).1 && decide (0 < (now.getD m.toNat ([], 0)).2) := rfl
      generalize now.getD m.toNat ([], 0) = r at hr hrl es
      refine do_seq (do_if (b := decide (m < 0) || (decide ((now.length : Int) ≤ m) || decide (r.2 ≤ 0))) (et_or (by walk_at "et") fun q1 => et_or (by walk_at "et") fun q2 => by have := hr q1 q2; walk_at "et") (fun hb => ?_) (fun hb => do_next ?_))
      · refine ret ?_ rfl
        have : rowShuts now m = false := by
          rw [es]
          split
          · rfl
          · simp at hb
            rw [decide_eq_false (by omega), Bool.and_false]
        rw [hbar, this]
        rfl
      have hb : ¬ (m < 0) ∧ ¬ ((now.length : Int) ≤ m) ∧ ¬ (r.2 ≤ 0) := by
        simp at hb
        omega
      have hr := hr (by simp; omega) (by simp; omega)
      have hrl := hrl (by simp; omega) (by simp; omega)
      have es : rowShuts now m = noughts r.1 := by
        rw [es, if_neg (by omega), decide_eq_true (by omega), Bool.and_true]
      refine do_seq (do_if (b := r.1.any fun y => !decide (y = 0)) (et_trB ((ev_cb (ea_cons (EvN.dt ((evn_map (g := Dt.int) (fun y => Dt.bl (!decide (y = 0))) r.1 (ei_seq (x := tupI r.1) (by walk_at "ev")) (by omega) fun j y hy => ⟨_, _, g_name, by simp, by walk_at "ev"⟩).to (ds' := (r.1.map fun y => !decide (y = 0)).map Dt.bl) (by rw [List.map_map]; rfl))) ea_nil) cb_any).to (by rw [List.any_map]; rfl))) (fun hb2 => ?_) (fun hb2 => do_next ?_))
      · refine ret ?_ rfl
        have : rowShuts now m = false := by
          rw [es]
          unfold noughts
          rw [← Bool.not_eq_true, List.all_eq_true]
          intro hall
          obtain ⟨y, hy, hy2⟩ := List.any_eq_true.mp hb2
          have := hall y hy
          simp at this hy2
          exact hy2 this
        rw [hbar, this]
        rfl
      have es : rowShuts now m = true := by
        rw [es]
        unfold noughts
        rw [List.all_eq_true]
        intro y hy
        have := (List.any_eq_false.mp hb2) y hy
        simpa using this
      rw [es, if_pos rfl] at hbar
      rcases List.eq_nil_or_concat later with rfl | ⟨la, x, rfl⟩
      · refine do_seq (do_if (b := true) ((et_not (et_trM rfl)).to (by simp)) (fun _ => ?_) (fun q => nomatch q))
        refine do_ret (d := .bl (decide ((i : Int) = (paper.length : Int) - 1))) (by walk_at "ev") ?_
        show Dt.bl _ = Dt.bl (barsV n rs [] paper)
        rw [hbar]
        show Dt.bl _ = Dt.bl (paper.drop (i + 1)).isEmpty
        congr 1
        rw [Bool.eq_iff_iff]
        simp
        omega
      · have em : (la ++ [x]).map rowsL = la.map rowsL ++ [rowsL x] := by simp
        rw [List.concat_eq_append] at hbar hlat hll
        rw [List.concat_eq_append, em]
        rw [List.getLast?_concat, List.dropLast_concat] at hbar
        refine do_seq (do_if (b := false) ((et_not (et_trM rfl)).to (by simp)) (fun q => nomatch q) (fun _ => do_next ?_))
        refine do_pop (ds := la.map rowsL) (d := rowsL x) rfl ?_
        exact ⟨x, la, .fz (.int i), .fz (lineD (.shut m)), s7, hbar, (hlat x (by simp)).mono (by omega), by simp at hll; omega, fun l hl => (hlat l (List.mem_append_left _ hl)).mono (by omega), rfl⟩
  · rintro ρ' ⟨now, later, s5, s6, s7, hbar, _, _, _, rfl⟩
    refine do_ret ev_bl ?_
    rw [List.drop_of_length_le (by rw [enumD_len]; simp)] at hbar
    show Dt.bl false = Dt.bl (barsV n rs [] paper)
    rw [hbar]
    cases now <;> rfl

theorem ok_l_told {a : Addr} {fd : FuncData} (F : Fun K "_law_told" "_law_told" s_l_told a fd) (T : Tx mg)  : FnOk P w K mg base CX0 1 a fd P_l_told (sp_l_told K) := by
  refine F.ok sc_l_told (fun vs H Q E h => sp_len (n := 2) (fun _ => rfl) vs H Q E h) (fun cdv A outer s H vs Q E hr h => ?_)
  refine ⟨_, (pss_cons (ps_asg (pv 1) (tup_k K (n := 3) (pgs_cons (pg_name (i := 2) sc_l_told.nd rfl (Or.inl rfl)) (pgs_cons (pg_name (i := 3) sc_l_told.nd rfl (Or.inl rfl)) (pgs_cons (pg_name (i := 4) sc_l_told.nd rfl (Or.inl rfl)) pgs_nil)))))
      (pss_cons (ps_if (pt_cmpR op_eq (pv 0) pe_int (nomark _)) (pss_one (ps_ret (pe_tup (pa_cons pe_str (pa_cons (pe_callTy (tuple_k K) (by rfl) T.tuple bt_tuple (pa_cons (pv 4) pa_nil)) pa_nil))))) pss_nil)
      (pss_cons (ps_if (pt_cmpR op_eq (pv 0) pe_int (nomark _)) (pss_one (ps_ret (pe_tup (pa_cons pe_str (pa_cons (pv 2) (pa_cons (pv 3) pa_nil)))))) pss_nil)
      (pss_one (ps_ret (pe_tup (pa_cons pe_str (pa_cons (pv 2) (pa_cons (pe_callTy (tuple_k K) (by rfl) T.tuple bt_tuple (pa_cons (pv 4) pa_nil)) pa_nil))))))))), fn_do (N := N_l_told) (fun x hx => ?_) h⟩
  obtain ⟨kind, spot, ray, paper⟩ := x
  show Do K _ [.fz (.int kind), .fz (partsD spot ray paper), .no, .no, .no] (ends fun d => d = toldD (mkTold kind spot ray paper))
  refine do_seq (do_asgG (d := partsD spot ray paper) (ev_var rfl) (g_tup (gs_cons g_name (gs_cons g_name (gs_cons g_name gs_nil)))) ?_)
  show Do K _ [.fz (.int kind), .fz (partsD spot ray paper), .fz (tupI spot), .fz (tupI ray), .fz (linesL paper)] _
  refine do_seq (do_if (b := decide (kind = 0)) (by walk_at "et") (fun hb => ?_) (fun hb => do_next ?_))
  · refine do_ret (d := .tup [.str "none", linesT paper]) (by walk_at "ev") ?_
    show _ = toldD (if kind = 0 then _ else _)
    rw [if_pos (by simpa using hb)]
    rfl
  have h0 : ¬ kind = 0 := by simpa using hb
  refine do_seq (do_if (b := decide (kind = 1)) (by walk_at "et") (fun hb => ?_) (fun hb => do_next ?_))
  · refine do_ret (d := .tup [.str "endless", tupI spot, tupI ray]) (by walk_at "ev") ?_
    show _ = toldD (if kind = 0 then _ else if kind = 1 then _ else _)
    rw [if_neg h0, if_pos (by simpa using hb)]
    rfl
  refine do_ret (d := .tup [.str "best", tupI spot, linesT paper]) (by walk_at "ev") ?_
  show _ = toldD (if kind = 0 then _ else if kind = 1 then _ else _)
  rw [if_neg h0, if_neg (by simpa using hb)]
  rfl

theorem given7 {n : Nat} {bs : List (Int × Option Int)} {rs : List Row} (hb : bs.length = n) (hr : RowsOk n rs) : RowsOk n (givensV bs rs) := by
  subst hb
  intro r h
  unfold givensV at h
  rcases List.mem_append.mp h with h | h
  · rcases List.mem_append.mp h with h | h
    · unfold leastRows at h
      obtain ⟨i, _, rfl⟩ := List.mem_mapIdx.mp h
      simp [unitV]
    · have key : ∀ (a : Nat) (cs : List (Int × Option Int)), ∀ q ∈ mostRows bs.length a cs, q.1.length = bs.length := by
        intro a cs
        induction cs generalizing a with
        | nil => intro q hq; cases hq
        | cons c cs ih =>
          obtain ⟨l, m⟩ := c
          cases m with
          | none => exact ih (a + 1)
          | some m =>
            intro q hq
            rcases List.mem_cons.mp hq with rfl | hq
            · simp [unitV]
            · exact ih (a + 1) q hq
      exact key 0 bs r h
  · exact hr r h
theorem most7 (n : Nat) : ∀ (a : Nat) (bs : List (Int × Option Int)), (mostRows n a bs).length ≤ bs.length
  | a, [] => Nat.le_refl _
  | a, (l, none) :: bs => by
    show (mostRows n (a + 1) bs).length ≤ bs.length + 1
    have := most7 n (a + 1) bs
    omega
  | a, (l, some m) :: bs => by
    show (mostRows n (a + 1) bs).length + 1 ≤ bs.length + 1
    have := most7 n (a + 1) bs
    omega
theorem given7_len (bs : List (Int × Option Int)) (rs : List Row) : (givensV bs rs).length ≤ 2 * bs.length + rs.length := by
  have := most7 bs.length 0 bs
  unfold givensV leastRows
  simp
  omega
theorem ok_l_due {a : Addr} {fd : FuncData} (F : Fun K "_law_due" "_law_due" s_l_due a fd) (T : Tx mg) (D_l_bars : Def P w K mg base 3 "_law_bars" P_l_bars (sp_l_bars K)) (D_l_givens : Def P w K mg base 2 "_law_givens" P_l_givens (sp_l_givens K)) (D_l_left : Def P w K mg base 1 "_law_left" P_l_left (sp_l_left K)) : FnOk P w K mg base CX0 4 a fd P_l_due (sp_l_due K) := by
  refine F.ok sc_l_due (fun vs H Q E h => sp_len (n := 3) (fun _ => rfl) vs H Q E h) (fun cdv A outer s H vs Q E hr h => ?_)
  refine ⟨_, (pss_cons (ps_set (i := 3) sc_l_due.nd rfl (Or.inl rfl) (pe_def D_l_givens hr (by rfl) (pa_cons (pv 1) pa_nil)))
      (pss_cons (ps_set (i := 4) sc_l_due.nd rfl (Or.inl rfl) (pe_ix (ix_k K) (pv 1) pe_int (fun _ _ => rfl)))
      (pss_cons (ps_set (i := 5) sc_l_due.nd rfl (Or.inl rfl) (pe_callB (len_k K) (by rfl) T.len bt_len (pa_cons (pv 4) pa_nil)))
      (pss_cons (ps_asg (pv 2) (tup_k K (n := 3) (pgs_cons (pg_name (i := 6) sc_l_due.nd rfl (Or.inr rfl)) (pgs_cons (pg_name (i := 7) sc_l_due.nd rfl (Or.inr rfl)) (pgs_cons (pg_name (i := 8) sc_l_due.nd rfl (Or.inl rfl)) pgs_nil)))))
      (pss_cons (ps_if (pt_cmpR op_eq (pv 0) pe_int (nomark _)) (pss_one (ps_ret (pe_def D_l_bars hr (by rfl) (pa_cons (pv 3) (pa_cons (pv 8) (pa_cons (pv 5) pa_nil)))))) pss_nil)
      (pss_cons (ps_if (PW.pt (pw_or (pt_cmpR op_ne (pe_callB (len_k K) (by rfl) T.len bt_len (pa_cons (pv 6) pa_nil)) (pv 5) (nomark _)) (pw_or1 (tr_k K (pe_callB (any_k K) (by rfl) T.any bt_any (pa_cons (pe_lc (own := [("_law_row", 9)]) rfl sc_l_due.nd (seq_k K (pv 3)) (blkOk_by (own := [("_law_row", 9)]) (N := N_l_due) (sc := defScope s_l_due) (by decide +kernel)) (fun _ _ _ _ _ => (pg_name (i := 9) sc_l_due.nd rfl (Or.inl rfl))) (fun _ _ _ _ _ => pts_nil) (fun _ _ _ _ _ => (pe_cmpR op_lt (pe_def D_l_left hr (by rfl) (pa_cons (pe_ix (ix_k K) (pv 9) pe_int (fun _ _ => rfl)) (pa_cons (pv 6) pa_nil))) (pe_ix (ix_k K) (pv 9) pe_int (fun _ _ => rfl)) (nomark _)))) pa_nil)))))) (pss_one (ps_ret pe_bl)) pss_nil)
      (pss_cons (ps_if (pt_cmpR op_eq (pv 0) pe_int (nomark _)) (pss_one (ps_ret (pe_def D_l_bars hr (by rfl) (pa_cons (pe_op (add_k K) (pv 3) (pe_lst (pa_cons (pe_tup (pa_cons (pv 4) (pa_cons (pe_op (add_k K) (pe_def D_l_left hr (by rfl) (pa_cons (pv 4) (pa_cons (pv 6) pa_nil))) pe_int) pa_nil))) pa_nil))) (pa_cons (pv 8) (pa_cons (pv 5) pa_nil)))))) pss_nil)
      (pss_cons (ps_if (PW.pt (pw_or (pt_cmpR op_ne (pe_callB (len_k K) (by rfl) T.len bt_len (pa_cons (pv 7) pa_nil)) (pv 5) (nomark _)) (pw_or1 (pt_cmpR op_le (pe_def D_l_left hr (by rfl) (pa_cons (pv 4) (pa_cons (pv 7) pa_nil))) pe_int (nomark _))))) (pss_one (ps_ret pe_bl)) pss_nil)
      (pss_one (ps_ret (pe_callB (all_k K) (by rfl) T.all bt_all (pa_cons (pe_lc (own := [("_law_row", 9)]) rfl sc_l_due.nd (seq_k K (pv 3)) (blkOk_by (own := [("_law_row", 9)]) (N := N_l_due) (sc := defScope s_l_due) (by decide +kernel)) (fun _ _ _ _ _ => (pg_name (i := 9) sc_l_due.nd rfl (Or.inl rfl))) (fun _ _ _ _ _ => pts_nil) (fun _ _ _ _ _ => (pe_cmpR op_ge (pe_def D_l_left hr (by rfl) (pa_cons (pe_ix (ix_k K) (pv 9) pe_int (fun _ _ => rfl)) (pa_cons (pv 7) pa_nil))) pe_int (nomark _)))) pa_nil)))))))))))), fn_do (N := N_l_due) (fun x hx => ?_) h⟩
  obtain ⟨kind, n, p, spot, ray, paper⟩ := x
  obtain ⟨hk, ⟨h1, h2, h3, h4, h5⟩, h6, h7, h8⟩ := hx
  have hk : kind = 0 ∨ kind = 1 ∨ kind = 2 := hk
  have h1 : n ≤ 8 := h1
  have h2 : p.bounds.length = n := h2
  have h3 : p.goal.length = n := h3
  have h4 : p.rows.length ≤ 60 := h4
  have h5 : RowsOk n p.rows := h5
  have gok := given7 h2 h5
  have gl := given7_len p.bounds p.rows
  have sm6 : ∀ {s : List Int}, SpotOk 5000 s → ∀ y ∈ s, Sm B6 y := fun h y hy => by
    obtain ⟨q1, q2⟩ := h.2 y hy
    exact ⟨by show -(2 ^ 60) ≤ y; omega, by show y ≤ 2 ^ 60; omega⟩
  have s6 := sm6 h6
  have s7 := sm6 h7
  show Do K _ [.fz (.int kind), .fz (planD p), .fz (partsD spot ray paper), .no, .no, .no, .no, .no, .no, .no] (ends fun d => d = .bl (holdsV p (mkTold kind spot ray paper)))
  refine do_seq (do_asg (d := rowsL (givensV p.bounds p.rows)) (ev_call (false, p.bounds, p.rows, tupI p.goal) (by walk_at "ea") ⟨by show p.bounds.length ≤ 50; omega, by show p.rows.length ≤ 1000; omega⟩) ?_)
  refine do_seq (do_asg (d := tupI p.goal) (by walk_at "ev") ?_)
  refine do_seq (do_asg (d := .int p.goal.length) (by walk_at "ev") ?_)
  refine do_seq (do_asgG (d := partsD spot ray paper) (ev_var rfl) (g_tup (gs_cons g_name (gs_cons g_name (gs_cons g_name gs_nil)))) ?_)
  generalize hg : givensV p.bounds p.rows = rs at gok gl
  have gok' : RowsOk p.goal.length rs := by rw [h3]; exact gok
  show Do K _ [.fz (.int kind), .fz (planD p), .fz (partsD spot ray paper), .fz (rowsL rs), .fz (tupI p.goal), .fz (.int p.goal.length), .fz (tupI spot), .fz (tupI ray), .fz (linesL paper), .no] _
  refine do_seq (do_if (b := decide (kind = 0)) (by walk_at "et") (fun hb => ?_) (fun hb => do_next ?_))
  · refine do_ret (d := .bl (barsV p.goal.length rs [] paper)) (ev_call (p.goal.length, rs, paper) (by walk_at "ea") ⟨by show p.goal.length ≤ 100; omega, gok', h8, by show rs.length ≤ 1000; omega⟩) ?_
    show _ = Dt.bl (holdsV p (if kind = 0 then _ else _))
    rw [if_pos (by simpa using hb), ← hg]
    rfl
  have k0 : ¬ kind = 0 := by simpa using hb
  have emk : mkTold kind spot ray paper = if kind = 1 then .endless spot ray else .best spot paper := by
    unfold mkTold
    rw [if_neg k0]
  rw [emk]
  have ed : ∀ s : List Int, decide ((s.length : Int) = (p.goal.length : Int)) = decide (s.length = p.goal.length) := fun s => decide_eq_decide.mpr (by omega)
  refine do_seq (do_if (b := !decide ((spot.length : Int) = p.goal.length) || rs.any fun r => decide (dot r.1 spot < r.2)) (et_or (by walk_at "et") fun q => et_trB ((ev_cb (ea_cons (EvN.dt ((evn_map (g := rowD) (fun r => Dt.bl (decide (dot r.1 spot < r.2))) rs (ei_seq (by walk_at "ev")) (by omega) fun i r hr => ⟨_, _, g_name, by simp, ?_⟩).to (ds' := (rs.map fun r => decide (dot r.1 spot < r.2)).map Dt.bl) (by rw [List.map_map]; rfl))) ea_nil) cb_any).to (by rw [List.any_map]; rfl))) (fun hb => ?_) (fun hb => do_next ?_))
  · have hr' := gok' r (List.mem_of_getElem? hr)
    simp at q
    exact ev_op (ev_call (r.1, spot) (by walk_at "ea") ⟨by show r.1.length = spot.length; omega, by show r.1.length ≤ 1000; omega, s6⟩) (by walk_at "ev") od_lt
  · refine do_ret ev_bl ?_
    have key : (decide (spot.length = p.goal.length) && rs.all fun x => meetsV x spot) = false := by
      rw [ed] at hb
      cases hd : decide (spot.length = p.goal.length) with
      | false => rfl
      | true =>
        rw [hd] at hb
        have hb : (rs.any fun r => decide (dot r.1 spot < r.2)) = true := hb
        obtain ⟨r, hr, hr2⟩ := List.any_eq_true.mp hb
        rw [Bool.true_and, ← Bool.not_eq_true, List.all_eq_true]
        intro hall
        have := hall r hr
        unfold meetsV at this
        simp at this hr2
        omega
    show Dt.bl false = Dt.bl (holdsV p (if kind = 1 then .endless spot ray else .best spot paper))
    split
    · show _ = Dt.bl (decide (spot.length = p.goal.length) && (givensV p.bounds p.rows).all (fun x => meetsV x spot) && rayV (givensV p.bounds p.rows) p.goal ray)
      rw [hg, key, Bool.false_and]
    · show _ = Dt.bl (decide (spot.length = p.goal.length) && (givensV p.bounds p.rows).all (fun x => meetsV x spot) && barsV p.goal.length (givensV p.bounds p.rows ++ [(p.goal, dot p.goal spot + 1)]) [] paper)
      rw [hg, key, Bool.false_and]
  have hsl : spot.length = p.goal.length := by
    rw [Bool.or_eq_false_iff] at hb
    have := hb.1
    simp at this
    omega
  have hall : (rs.all fun x => meetsV x spot) = true := by
    rw [Bool.or_eq_false_iff] at hb
    rw [List.all_eq_true]
    intro r hr
    have := (List.any_eq_false.mp hb.2) r hr
    unfold meetsV
    simp at this ⊢
    exact this
  refine do_seq (do_if (b := decide (kind = 2)) (by walk_at "et") (fun hb => ?_) (fun hb => do_next ?_))
  · have k2 : kind = 2 := by simpa using hb
    have ew : EvD K (tCall (sp_l_left K) [] E0 (tCons (tVar 4) (tCons (tVar 6) tNil))) [.fz (.int kind), .fz (planD p), .fz (partsD spot ray paper), .fz (rowsL rs), .fz (tupI p.goal), .fz (.int p.goal.length), .fz (tupI spot), .fz (tupI ray), .fz (linesL paper), .no] (.int (dot p.goal spot)) :=
      ev_call (p.goal, spot) (by walk_at "ea") ⟨hsl.symm, by show p.goal.length ≤ 1000; omega, s6⟩
    refine do_ret (d := .bl (barsV p.goal.length (rs ++ [(p.goal, dot p.goal spot + 1)]) [] paper)) (ev_call (p.goal.length, rs ++ [(p.goal, dot p.goal spot + 1)], paper) (ea_cons (EvN.dt ((evn_op (x := rowsL rs) (y := .lst [rowD (p.goal, dot p.goal spot + 1)]) (ev_var rfl) (EvN.dt (evn_lst (ea_cons (ev_tup (ea_cons (ev_var rfl) (ea_cons (ev_op ew ev_int od_add) ea_nil))) ea_nil))) (on_cat (by simp; omega))).to (by simp))) (by walk_at "ea")) ⟨by show p.goal.length ≤ 100; omega, fun q hq => ?_, h8, by show (rs ++ _).length ≤ 1000; simp; omega⟩) ?_
    · rcases List.mem_append.mp hq with hq | hq
      · exact gok' q hq
      · rw [List.mem_singleton.mp hq]
    · show _ = Dt.bl (holdsV p (if kind = 1 then .endless spot ray else .best spot paper))
      rw [if_neg (by omega)]
      show _ = Dt.bl (decide (spot.length = p.goal.length) && (givensV p.bounds p.rows).all (fun x => meetsV x spot) && barsV p.goal.length (givensV p.bounds p.rows ++ [(p.goal, dot p.goal spot + 1)]) [] paper)
      rw [hg, hall, decide_eq_true hsl]
      rfl
  have k1 : kind = 1 := by
    simp at hb
    omega
  rw [if_pos k1]
  have er : holdsV p (.endless spot ray) = rayV rs p.goal ray := by
    show (decide (spot.length = p.goal.length) && (givensV p.bounds p.rows).all (fun x => meetsV x spot) && rayV (givensV p.bounds p.rows) p.goal ray) = _
    rw [hg, hall, decide_eq_true hsl]
    rfl
  rw [er]
  refine do_seq (do_if (b := !decide ((ray.length : Int) = p.goal.length) || decide (dot p.goal ray ≤ 0)) (et_or (by walk_at "et") fun q => et_cmp (ev_op (ev_call (p.goal, ray) (by walk_at "ea") ⟨by simp at q; show p.goal.length = ray.length; omega, by show p.goal.length ≤ 1000; omega, s7⟩) ev_int od_le)) (fun hb => ?_) (fun hb => do_next ?_))
  · refine do_ret ev_bl ?_
    show Dt.bl false = Dt.bl (rayV rs p.goal ray)
    rw [ed] at hb
    unfold rayV
    cases hd : decide (ray.length = p.goal.length) with
    | false => rfl
    | true =>
      rw [hd] at hb
      simp at hb
      rw [decide_eq_false (by omega)]
      simp
  have hrl : ray.length = p.goal.length := by
    rw [Bool.or_eq_false_iff] at hb
    have := hb.1
    simp at this
    omega
  have hrg : 0 < dot p.goal ray := by
    rw [Bool.or_eq_false_iff] at hb
    have := hb.2
    simp at this
    omega
  refine do_ret (d := .bl (rayV rs p.goal ray)) ((ev_cb (ea_cons (EvN.dt ((evn_map (g := rowD) (fun r => Dt.bl (decide (0 ≤ dot r.1 ray))) rs (ei_seq (by walk_at "ev")) (by omega) fun i r hr => ⟨_, _, g_name, by simp, ?_⟩).to (ds' := (rs.map fun r => decide (0 ≤ dot r.1 ray)).map Dt.bl) (by rw [List.map_map]; rfl))) ea_nil) cb_all).to ?_) rfl
  · have hr' := gok' r (List.mem_of_getElem? hr)
    exact ev_op (ev_call (r.1, ray) (by walk_at "ea") ⟨by show r.1.length = ray.length; omega, by show r.1.length ≤ 1000; omega, s7⟩) ev_int od_ge
  · unfold rayV
    rw [decide_eq_true hrl, decide_eq_true hrg, List.all_map]
    simp
end
end Cy
namespace Cy
open PySem PySem.Spec L2 Dr Dl
section
variable {P : Program} {w : World} {K : PySem.W.Frag} {mg : Str → Option Value} {base : Heap}

local macro_rules | `(tactic| walk_at "od") => `(tactic| first
  | with_reducible exact od_add
  | with_reducible exact od_sub
  | with_reducible exact od_lt
  | with_reducible exact od_le
  | with_reducible exact od_gt
  | with_reducible exact od_ge
  | with_reducible exact od_eqI
  | with_reducible exact od_neI
  | with_reducible exact od_eqS
  | with_reducible exact od_eqB
  | with_reducible exact od_isN
  | with_reducible exact od_notN
  | ((with_reducible refine' od_mul ?k1); (case k1 => (first | assumption | exact Or.inl (by omega) | exact Or.inr (by omega))))
  | with_reducible exact od_pow cpow10
  | ((with_reducible refine' od_mod ?k1); (case k1 => (first | assumption | omega)))
  | ((with_reducible refine' od_div ?k1 ?k2); (case k1 => (first | assumption | omega)); (case k2 => (first | assumption | omega)))
  | ((with_reducible refine' od_ixT ?k1); (case k1 => (first | assumption | rfl)))
  | ((with_reducible refine' od_ixL ?k1); (case k1 => (first | assumption | rfl)))
  | ((with_reducible refine' od_ixS ?k1); (case k1 => (first | assumption | rfl)))
  | ((with_reducible refine' od_catT ?k1); (case k1 => (first | assumption | (simp; omega)))))
local macro_rules | `(tactic| walk_at "cb") => `(tactic| first
  | with_reducible exact cb_lenTm
  | with_reducible exact cb_lenLm
  | with_reducible exact cb_lenT
  | with_reducible exact cb_lenL
  | with_reducible exact cb_lenS
  | with_reducible exact cb_tupL
  | with_reducible exact cb_tupT
  | with_reducible exact cb_sum
  | with_reducible exact cb_all
  | with_reducible exact cb_any
  | with_reducible exact cb_abs
  | with_reducible exact cb_max
  | with_reducible exact cb_min
  | with_reducible exact cb_intB)
local macro_rules | `(tactic| walk_at "ev") => `(tactic| first
  | ((with_reducible refine' ev_var ?k1); (case k1 => rfl))
  | with_reducible exact ev_int
  | with_reducible exact ev_non
  | with_reducible exact ev_str
  | with_reducible exact ev_bl
  | ((with_reducible refine' ev_op ?k1 ?k2 ?k3); (case k1 => walk_at "ev"); (case k2 => walk_at "ev"); (case k3 => walk_at "od"))
  | ((with_reducible refine' ev_un ?k1 ud_neg); (case k1 => walk_at "ev"))
  | ((with_reducible refine' ev_tup ?k1 ?k2); (case k1 => walk_at "ea"); (case k2 => (first | (simp; done) | (simp; omega))))
  | ((with_reducible refine' ev_cb ?k1 ?k2); (case k1 => walk_at "ea"); (case k2 => walk_at "cb"))
  | ((with_reducible refine' ev_slT ?k1 ?k2 ?k3); (case k1 => walk_at "ev"); (case k2 => walk_at "eo"); (case k3 => walk_at "eo"))
  | ((with_reducible refine' EvN.dt ?k1); (case k1 => walk_at "en")))
local macro_rules | `(tactic| walk_at "eo") => `(tactic| first
  | with_reducible exact eo_none
  | ((with_reducible refine' eo_some ?k1); (case k1 => walk_at "ev")))
local macro_rules | `(tactic| walk_at "ea") => `(tactic| first
  | with_reducible exact ea_nil
  | ((with_reducible refine' ea_cons ?k1 ?k2); (case k1 => walk_at "ev"); (case k2 => walk_at "ea")))
local macro_rules | `(tactic| walk_at "en") => `(tactic| first
  | ((with_reducible refine' evn_lst ?k1 ?k2); (case k1 => walk_at "ea"); (case k2 => (first | (simp; done) | (simp; omega))))
  | ((with_reducible refine' evn_op ?k1 ?k2 (on_cat ?k3)); (case k1 => walk_at "ev"); (case k2 => walk_at "ev"); (case k3 => (first | assumption | (simp; omega))))
  | ((with_reducible refine' evn_op ?k1 ?k2 (on_rep ?k3 ?k4)); (case k1 => walk_at "ev"); (case k2 => walk_at "ev"); (case k3 => (first | assumption | (simp; omega))); (case k4 => (first | assumption | omega)))
  | ((with_reducible refine' evn_sl ?k1 ?k2 ?k3); (case k1 => walk_at "ev"); (case k2 => walk_at "eo"); (case k3 => walk_at "eo"))
  | ((with_reducible refine' evn_cb ?k1 cb_listL); (case k1 => walk_at "ea"))
  | ((with_reducible refine' evn_cb ?k1 cb_listT); (case k1 => walk_at "ea")))
local macro_rules | `(tactic| walk_at "et") => `(tactic| first
  | ((with_reducible refine' et_cmp ?k1); (case k1 => walk_at "ev"))
  | ((with_reducible refine' et_or ?k1 ?k2); (case k1 => walk_at "et"); (case k2 => (intro _; walk_at "et")))
  | ((with_reducible refine' et_and ?k1 ?k2); (case k1 => walk_at "et"); (case k2 => (intro _; walk_at "et")))
  | ((with_reducible refine' et_not ?k1); (case k1 => walk_at "et"))
  | ((with_reducible refine' et_trM ?k1); (case k1 => rfl))
  | ((with_reducible refine' et_trMs ?k1); (case k1 => rfl))
  | ((with_reducible refine' et_trB ?k1); (case k1 => walk_at "ev"))
  | ((with_reducible refine' et_trT ?k1); (case k1 => walk_at "ev"))
  | ((with_reducible refine' et_trL ?k1); (case k1 => walk_at "ev"))
  | ((with_reducible refine' et_trS ?k1); (case k1 => walk_at "ev")))

theorem cut_len {α : Type} (xs : List α) (lo hi : Option Int) : (cut xs lo hi).length ≤ xs.length := by
  unfold cut
  rw [List.length_take, List.length_drop]
  omega
theorem cut_map {α β : Type} (f : α → β) (xs : List α) (lo hi : Option Int) : cut (xs.map f) lo hi = (cut xs lo hi).map f := by
  unfold cut
  rw [List.length_map, List.map_take, List.map_drop]
theorem at_ns (ns : List Int) (i : Int) (h0 : 0 ≤ i) (h1 : i < ns.length) : ∃ v, atI (ns.map Dt.int) i = some (Dt.int v) ∧ v ∈ ns ∧ ns[i.toNat]? = some v := by
  have hk : i.toNat < ns.length := by omega
  exact ⟨ns[i.toNat], at_nat (j := i.toNat) (by omega) (by rw [List.getElem?_map, List.getElem?_eq_getElem hk]; rfl), List.getElem_mem hk, List.getElem?_eq_getElem hk⟩
theorem drawn8 {sizes ns : List Int} {M : Int} (h : Drawn sizes ns) (hs : ∀ s ∈ sizes, s ≤ M) : ∀ x ∈ ns, 0 ≤ x ∧ x < M := fun x hx => by
  obtain ⟨i, hi⟩ := List.mem_iff_getElem?.mp hx
  have hlt := (List.getElem?_eq_some_iff.mp hi).1
  have hlt2 : i < sizes.length := by rw [← h.1]; exact hlt
  have := h.2 i x _ hi (List.getElem?_eq_getElem hlt2)
  have := hs _ (List.getElem_mem hlt2)
  omega
theorem ok_l_tree {a : Addr} {fd : FuncData} (F : Fun K "_law_tree" "_law_tree" s_l_tree a fd) (T : Tx mg) (D_l_draws : Def P w K mg base 1 "_law_draws" P_l_draws (sp_l_draws K)) : FnOk P w K mg base CX0 2 a fd P_l_tree (sp_l_tree K) := by
  refine F.ok sc_l_tree (fun vs H Q E h => sp_len (n := 4) (fun _ => rfl) vs H Q E h) (fun cdv A outer s H vs Q E hr h => ?_)
  refine ⟨_, (pss_cons (ps_set (i := 4) sc_l_tree.nd rfl (Or.inl rfl) (pe_def D_l_draws hr (by rfl) (pa_cons (pv 0) (pa_cons pe_int (pa_cons (pe_op (add_k K) (pe_op (add_k K) (pe_op op_mulA (pe_lst (pa_cons pe_int pa_nil)) pe_int) (pe_op op_mulA (pe_lst (pa_cons pe_int pa_nil)) (pe_op op_mulA pe_int (pv 2)))) (pe_op op_mulA (pe_lst (pa_cons pe_int pa_nil)) pe_int)) pa_nil)))))
      (pss_cons (ps_set (i := 5) sc_l_tree.nd rfl (Or.inl rfl) (pe_lst pa_nil))
      (pss_cons (ps_set (i := 6) sc_l_tree.nd rfl (Or.inl rfl) (pe_lst (pa_cons (pv 1) pa_nil)))
      (pss_cons (ps_set (i := 7) sc_l_tree.nd rfl (Or.inl rfl) pe_int)
      (pss_cons (ps_for PassesOwn.never rfl (pi_range1 (by rfl) T.range (pa_cons pe_int pa_nil)) (pg_name (i := 8) sc_l_tree.nd rfl (Or.inl rfl)) (pss_one (ps_if (tr_k K (pv 6)) (pss_cons (ps_set (i := 9) sc_l_tree.nd rfl (Or.inl rfl) (pop_k K (pv 6)))
      (pss_one (ps_if (PW.pt (pw_and (pt_cmpR op_gt (pe_ix (ix_k K) (pv 4) (pv 8) (fun _ _ => rfl)) pe_int (nomark _)) (pw_and1 (pt_cmpR op_lt (pv 7) pe_int (nomark _))))) (pss_cons (ps_set (i := 10) sc_l_tree.nd rfl (Or.inl rfl) (pe_callTy (tuple_k K) (by rfl) T.tuple bt_tuple (pa_cons (pe_lc (own := [("_law_one", 11)]) rfl sc_l_tree.nd (seq_k K (pe_slice (sl_k K) (pv 4) (po_some (pe_op (add_k K) pe_int (pe_op op_mulA (pv 7) (pv 2)))) (po_some (pe_op (add_k K) pe_int (pe_op op_mulA (pe_op (add_k K) (pv 7) pe_int) (pv 2)))))) (blkOk_by (own := [("_law_one", 11)]) (N := N_l_tree) (sc := defScope s_l_tree) (by decide +kernel)) (fun _ _ _ _ _ => (pg_name (i := 11) sc_l_tree.nd rfl (Or.inl rfl))) (fun _ _ _ _ _ => pts_nil) (fun _ _ _ _ _ => (pe_op op_sub (pv 11) pe_int))) pa_nil)))
      (pss_cons (ps_expr (app_k K (pv 5) (pe_tup (pa_cons pe_str (pa_cons (pv 10) (pa_cons (pe_op op_sub (pe_ix (ix_k K) (pv 4) (pe_op (add_k K) (pe_op (add_k K) pe_int (pe_op op_mulA pe_int (pv 2))) (pv 7)) (fun _ _ => rfl)) pe_int) pa_nil))))))
      (pss_cons (ps_aug (i := 7) sc_l_tree.nd rfl (Or.inl rfl) pe_int ip_add)
      (pss_one (ps_set (i := 6) sc_l_tree.nd rfl (Or.inl rfl) (pe_op (add_k K) (pv 6) (pe_lst (pa_cons (pe_op (add_k K) (pv 9) pe_int) (pa_cons (pe_op (add_k K) (pv 9) pe_int) pa_nil))))))))) (pss_one (ps_set (i := 5) sc_l_tree.nd rfl (Or.inl rfl) (pe_op (add_k K) (pv 5) (pe_lst (pa_cons (pe_tup (pa_cons pe_str (pa_cons (pe_callTy (tuple_k K) (by rfl) T.tuple bt_tuple (pa_cons (pv 3) pa_nil)) (pa_cons pe_int pa_nil)))) (pa_cons (pe_tup (pa_cons pe_str (pa_cons (pv 9) pa_nil))) pa_nil))))))))) pss_nil)))
      (pss_one (ps_ret (pv 5)))))))), fn_do (N := N_l_tree) (fun x hx => ?_) h⟩
  obtain ⟨c, ht, n, sh⟩ := x
  obtain ⟨hn, hsh, hsl⟩ := hx
  have hn : n ≤ 8 := hn
  have hsl : sh.length ≤ 100 := hsl
  have hsh : ∀ s ∈ sh, Sm 100 s.2 := hsh
  show Do K _ [.fz (.int c), .fz (.int ht), .fz (.int n), .fz (.lst (sh.map shD)), .no, .no, .no, .no, .no, .no, .no, .no] (ends fun d => ∃ p, d = linesL p ∧ p.length ≤ 30 ∧ PaperOk 1000 p)
  have n3 : (3 * (n : Int)).toNat = 3 * n := by omega
  have z3 : [Dt.int 7].length * (3 * (n : Int)).toNat ≤ 100000 := by rw [n3]; simp; omega
  have q3 : 3 * (n : Int) ≤ 100000 ∧ [Dt.int 7].length * (3 * (n : Int)).toNat ≤ 100000 := ⟨by omega, z3⟩
  have es : EvD K (tOp (rAddA K) (tOp (rAddA K) (tOp rMulA (tLst (tCons (tC (.int 5)) tNil)) (tC (.int 7))) (tOp rMulA (tLst (tCons (tC (.int 7)) tNil)) (tOp rMulA (tC (.int 3)) (tVar 2)))) (tOp rMulA (tLst (tCons (tC (.int 11)) tNil)) (tC (.int 3))))
      [.fz (.int c), .fz (.int ht), .fz (.int n), .fz (.lst (sh.map shD)), .no, .no, .no, .no, .no, .no, .no, .no] (lstI (List.replicate 7 5 ++ List.replicate (3 * n) 7 ++ List.replicate 3 11)) :=
    (EvN.to (ds := (List.replicate (7 : Int).toNat [Dt.int 5]).flatten ++ (List.replicate (3 * (n : Int)).toNat [Dt.int 7]).flatten ++ (List.replicate (3 : Int).toNat [Dt.int 11]).flatten)
      (evn_op (EvN.dt (evn_op (EvN.dt (evn_op (by walk_at "ev") ev_int (on_rep (by decide) (by decide)))) (EvN.dt (evn_op (by walk_at "ev") (by walk_at "ev") (on_rep q3 (by omega)))) (on_cat (by rw [flat1, flat1, n3]; simp; omega)))) (EvN.dt (evn_op (by walk_at "ev") ev_int (on_rep (by decide) (by decide)))) (on_cat (by rw [flat1, flat1, flat1, n3]; simp; omega)))
      (by rw [flat1, flat1, flat1, n3]; simp)).dt
  refine do_seq (do_asgP (evp_call (c, 27, List.replicate 7 5 ++ List.replicate (3 * n) 7 ++ List.replicate 3 11) (ea_cons (ev_var rfl) (ea_cons ev_int (ea_cons es ea_nil))) ⟨smk 27 (by decide), by simp; omega, fun s hs => ?_⟩) ?_)
  · have hs : s ∈ List.replicate 7 (5 : Int) ++ List.replicate (3 * n) 7 ++ List.replicate 3 11 := hs
    rcases List.mem_append.mp hs with hs | hs
    · rcases List.mem_append.mp hs with hs | hs
      · rw [List.eq_of_mem_replicate hs]; decide
      · rw [List.eq_of_mem_replicate hs]; decide
    · rw [List.eq_of_mem_replicate hs]; decide
  rintro d ⟨ns, rfl, hnd⟩
  have hnl : ns.length = 10 + 3 * n := by
    have := hnd.1
    simp at this
    omega
  clear hnd es
  refine do_seq (do_asgN (by walk_at "en") ?_)
  refine do_seq (do_asgN (by walk_at "en") ?_)
  refine do_seq (do_asg (by walk_at "ev") ?_)
  refine do_seq (do_for (ds := rangeD 0 (7 : Int).toNat) (ei_range1 (by walk_at "ea") (by omega)) (fun i ρ => ∃ ls hs ch s8 s9 s10, ls.length ≤ 2 * i ∧ (∀ l ∈ ls, LineOk 1000 l) ∧ hs.length ≤ 2 * i + 1 ∧ ch ≤ 3 ∧
    ρ = [.fz (.int c), .fz (.int ht), .fz (.int n), .fz (.lst (sh.map shD)), .fz (lstI ns), .mt (ls.map lineD), .mt (hs.map Dt.int), .fz (.int ((ch : Nat) : Int)), s8, s9, s10, .no]) ⟨[], [ht], 0, .no, .no, .no, Nat.le_refl _, fun l hl => by simp at hl, Nat.le_refl _, by decide, rfl⟩ ?_ ?_)
  · rintro i d ρ' hd ⟨ls, hs, ch, s8, s9, s10, hll, hlo, hhl, hch, rfl⟩
    obtain ⟨hi, rfl⟩ := rangeD_get hd
    have hi : i < 7 := hi
    rw [Int.zero_add]
    refine ⟨_, _, g_name, ?_⟩
    rcases List.eq_nil_or_concat hs with rfl | ⟨ha, y, rfl⟩
    · refine do_if (b := false) ((et_trM rfl).to (by simp)) (fun q => nomatch q) (fun _ => do_next ?_)
      exact ⟨ls, [], ch, .fz (.int i), s9, s10, by omega, hlo, by simp, hch, rfl⟩
    rw [List.concat_eq_append] at hhl ⊢
    have em : (ha ++ [y]).map Dt.int = ha.map Dt.int ++ [Dt.int y] := by simp
    rw [em]
    refine do_if (b := true) ((et_trM rfl).to (by simp)) (fun _ => ?_) (fun q => nomatch q)
    refine do_seq (do_pop (ds := ha.map Dt.int) (d := .int y) rfl ?_)
    show Do K _ [.fz (.int c), .fz (.int ht), .fz (.int n), .fz (.lst (sh.map shD)), .fz (lstI ns), .mt (ls.map lineD), .mt (ha.map Dt.int), .fz (.int (ch : Int)), .fz (.int i), .fz (.int y), s10, .no] _
    obtain ⟨v, hv, _, _⟩ := at_ns ns (i : Int) (by omega) (by omega)
    have himm : immL (ls.map lineD) = true := imm_map imm_line ls
    have himm2 : immL (ha.map Dt.int) = true := imm_tupI ha
    simp at hhl
    refine do_if (b := decide (2 < v) && decide ((ch : Int) < 3)) (by walk_at "et") (fun hb => ?_) (fun hb => ?_)
    · have hc3 : ch < 3 := by
        simp at hb
        omega
      have m1 : CMul (ch : Int) (n : Int) := .inl (by omega)
      have m2 : CMul ((ch : Int) + 1) (n : Int) := .inl (by omega)
      generalize hlo' : 7 + (ch : Int) * (n : Int) = lo
      generalize hhi' : 7 + ((ch : Int) + 1) * (n : Int) = hi'
      have ecut : EvD K (tSl (rSlA2 K) (tVar 4) (tPart (tOp (rAddA K) (tC (.int 7)) (tOp rMulA (tVar 7) (tVar 2)))) (tPart (tOp (rAddA K) (tC (.int 7)) (tOp rMulA (tOp (rAddA K) (tVar 7) (tC (.int 1))) (tVar 2)))))
          [.fz (.int c), .fz (.int ht), .fz (.int n), .fz (.lst (sh.map shD)), .fz (lstI ns), .mt (ls.map lineD), .mt (ha.map Dt.int), .fz (.int (ch : Int)), .fz (.int i), .fz (.int y), s10, .no] (lstI (cut ns (some lo) (some hi'))) := by
        rw [← hlo', ← hhi']
        exact (EvN.to (evn_sl (ds := ns.map Dt.int) (ev_var rfl) (eo_some (by walk_at "ev")) (eo_some (by walk_at "ev"))) (cut_map _ _ _ _)).dt
      have hcl := cut_len ns (some lo) (some hi')
      generalize cut ns (some lo) (some hi') = cs at ecut hcl
      refine do_seq (do_asg (d := tupI (cs.map fun x => x - 3)) (ev_cb (ea_cons (EvN.dt ((evn_map (g := Dt.int) (fun x => Dt.int (x - 3)) cs (ei_seq ecut) (by omega) fun j x hx => ⟨_, _, g_name, by simp, by walk_at "ev"⟩).to (ds' := (cs.map fun x => x - 3).map Dt.int) (by rw [List.map_map]; rfl))) ea_nil) cb_tupL) ?_)
      obtain ⟨u, hu, _, _⟩ := at_ns ns (7 + 3 * (n : Int) + (ch : Int)) (by omega) (by omega)
      refine do_seq (do_app (d := lineD (.choice (cs.map fun x => x - 3) (u - 5))) rfl (EvD.to (d := .tup [.str "choice", tupI (cs.map fun x => x - 3), .int (u - 5)]) (by walk_at "ev") rfl) (by simp; omega) ?_)
      refine do_seq (do_aug (a := (ch : Int)) (b := 1) rfl (by walk_at "ev") ?_)
      refine do_asgN (ds := ha.map Dt.int ++ [Dt.int (y + 1), Dt.int (y + 1)]) (evn_peek (i := 6) rfl (evn_op (y := .lst [Dt.int (y + 1), Dt.int (y + 1)]) (ev_var rfl) (by walk_at "ev") (on_cat (by simp; omega))) ?_) ?_
      · have := imm_tupI (ha ++ [y + 1, y + 1])
        simpa using this
      · refine ⟨ls ++ [.choice (cs.map fun x => x - 3) (u - 5)], ha ++ [y + 1, y + 1], ch + 1, .fz (.int i), .fz (.int y), .fz (tupI (cs.map fun x => x - 3)), by simp; omega, fun l hl => ?_, by simp; omega, by omega, ?_⟩
        · rcases List.mem_append.mp hl with hl | hl
          · exact hlo l hl
          · rw [List.mem_singleton.mp hl]
            show ((cs.map fun x => x - 3).length : Int) * 20 ≤ 1000
            rw [List.length_map]
            omega
        · simp
    · refine do_asgN (ds := ls.map lineD ++ [lineD (.cut sh 1), lineD (.shut y)]) (evn_peek (i := 5) rfl (evn_op (y := .lst [lineD (.cut sh 1), lineD (.shut y)]) (ev_var rfl) (EvN.dt (evn_lst (ea_cons (EvD.to (d := .tup [.str "cut", .tup (sh.map shD), .int 1]) (by walk_at "ev") rfl) (ea_cons (EvD.to (d := .tup [.str "shut", .int y]) (by walk_at "ev") rfl) ea_nil)))) (on_cat (by simp; omega))) ?_) ?_
      · have := imm_map imm_line (ls ++ [.cut sh 1, .shut y])
        simpa using this
      · refine ⟨ls ++ [.cut sh 1, .shut y], ha, ch, .fz (.int i), .fz (.int y), s10, by simp; omega, fun l hl => ?_, by omega, hch, ?_⟩
        · rcases List.mem_append.mp hl with hl | hl
          · exact hlo l hl
          · rcases List.mem_cons.mp hl with rfl | hl
            · exact ⟨fun s hs => by obtain ⟨q1, q2⟩ := hsh s hs; constructor <;> omega, by constructor <;> decide, hsl⟩
            · rw [List.mem_singleton.mp hl]
              trivial
        · simp
  · rintro ρ' ⟨ls, hs, ch, s8, s9, s10, hll, hlo, hhl, hch, rfl⟩
    have hll : ls.length ≤ 14 := hll
    refine do_freeze (i := 5) rfl ?_
    exact do_ret (d := linesL ls) (ev_var rfl) ⟨ls, rfl, by omega, by omega, hlo⟩

theorem ok_l_spot_in {a : Addr} {fd : FuncData} (F : Fun K "_law_spot_in" "_law_spot_in" s_l_spot_in a fd) (T : Tx mg) (D_l_draws : Def P w K mg base 1 "_law_draws" P_l_draws (sp_l_draws K)) : FnOk P w K mg base CX0 2 a fd P_l_spot_in (sp_l_spot_in K) := by
  refine F.ok sc_l_spot_in (fun vs H Q E h => sp_len (n := 2) (fun _ => rfl) vs H Q E h) (fun cdv A outer s H vs Q E hr h => ?_)
  refine ⟨_, (pss_cons (ps_set (i := 2) sc_l_spot_in.nd rfl (Or.inl rfl) (pe_def D_l_draws hr (by rfl) (pa_cons (pv 0) (pa_cons pe_int (pa_cons (pe_op op_mulA (pe_lst (pa_cons pe_int pa_nil)) (pe_callB (len_k K) (by rfl) T.len bt_len (pa_cons (pv 1) pa_nil))) pa_nil)))))
      (pss_cons (ps_set (i := 3) sc_l_spot_in.nd rfl (Or.inl rfl) (pe_lst pa_nil))
      (pss_cons (ps_for PassesOwn.never rfl (zip_k K (by rfl) T.zip (pa_cons (pv 2) (pa_cons (pv 1) pa_nil))) (tup_k K (n := 2) (pgs_cons (pg_name (i := 4) sc_l_spot_in.nd rfl (Or.inl rfl)) (pgs_cons (tup_k K (n := 2) (pgs_cons (pg_name (i := 5) sc_l_spot_in.nd rfl (Or.inl rfl)) (pgs_cons (pg_name (i := 6) sc_l_spot_in.nd rfl (Or.inl rfl)) pgs_nil))) pgs_nil))) (pss_one (ps_if (pt_cmpR op_isN1 (pv 6) pe_non (nomark _)) (pss_one (ps_expr (app_k K (pv 3) (pe_op (add_k K) (pv 5) (pe_callB max_k (by rfl) T.max bt_max (pa_cons pe_int (pa_cons (pe_op op_sub (pv 4) pe_int) pa_nil))))))) (pss_one (ps_expr (app_k K (pv 3) (pe_callB min_k (by rfl) T.min bt_min (pa_cons (pv 6) (pa_cons (pe_op (add_k K) (pv 5) (pv 4)) pa_nil)))))))))
      (pss_one (ps_ret (pe_callTy (tuple_k K) (by rfl) T.tuple bt_tuple (pa_cons (pv 3) pa_nil))))))), fn_do (N := N_l_spot_in) (fun x hx => ?_) h⟩
  obtain ⟨c, bs⟩ := x
  obtain ⟨h1, h2⟩ := hx
  have h1 : bs.length ≤ 8 := h1
  have h2 : BoundsOk bs := h2
  show Do K _ [.fz (.int c), .fz (.tup (bs.map boundD)), .no, .no, .no, .no, .no] (ends fun d => ∃ s, d = tupI s ∧ s.length = bs.length ∧ ∀ y ∈ s, Sm 100 y)
  have z : [Dt.int 6].length * (bs.length : Int).toNat ≤ 100000 := by rw [toNat_nat]; simp; omega
  have es : EvD K (tOp rMulA (tLst (tCons (tC (.int 6)) tNil)) (tCB (Evl.rLenS K) (tCons (tVar 1) tNil))) [.fz (.int c), .fz (.tup (bs.map boundD)), .no, .no, .no, .no, .no] (lstI (List.replicate bs.length 6)) :=
    (EvN.to (ds := (List.replicate (bs.length : Int).toNat [Dt.int 6]).flatten) (evn_op (by walk_at "ev") (by walk_at "ev") (on_rep ⟨by omega, z⟩ (by omega))) (by rw [toNat_nat, flat1]; simp)).dt
  refine do_seq (do_asgP (evp_call (c, 32, List.replicate bs.length 6) (ea_cons (ev_var rfl) (ea_cons ev_int (ea_cons es ea_nil))) ⟨smk 32 (by decide), by simp; omega, fun s hs => by rw [List.eq_of_mem_replicate hs]; decide⟩) ?_)
  rintro d ⟨ns, rfl, hnd⟩
  have hnl : ns.length = bs.length := by simpa using hnd.1
  have hall := drawn8 (M := 6) hnd (fun s hs => by rw [List.eq_of_mem_replicate hs]; decide)
  refine do_seq (do_asgN (by walk_at "en") ?_)
  show Do K _ [.fz (.int c), .fz (.tup (bs.map boundD)), .fz (lstI ns), .mt [], .no, .no, .no] _
  refine do_seq (do_for (ds := zipD (ns.map Dt.int) (bs.map boundD)) (ei_zipA (by walk_at "ea")) (fun i ρ => ∃ s s4 s5 s6, s.length = i ∧ (∀ y ∈ s, Sm 100 y) ∧ ρ = [.fz (.int c), .fz (.tup (bs.map boundD)), .fz (lstI ns), .mt (s.map Dt.int), s4, s5, s6]) ⟨[], _, _, _, rfl, fun y hy => by simp at hy, rfl⟩ ?_ ?_)
  · rintro i d ρ' hd ⟨s, s4, s5, s6, hsl, hso, rfl⟩
    obtain ⟨d1, d2, e1, e2, rfl⟩ := zipD_get hd
    rw [List.getElem?_map] at e1 e2
    obtain ⟨v, hv, rfl⟩ := Option.map_eq_some_iff.mp e1
    obtain ⟨b, hb, rfl⟩ := Option.map_eq_some_iff.mp e2
    have hv6 := hall v (List.mem_of_getElem? hv)
    obtain ⟨⟨b1, b2⟩, b3⟩ := h2 b (List.mem_of_getElem? hb)
    have hi := (List.getElem?_eq_some_iff.mp hb).1
    obtain ⟨l, m⟩ := b
    have b1 : -20 ≤ l := b1
    have b2 : l ≤ 20 := b2
    refine ⟨_, _, g_tup (gs_cons g_name (gs_cons (g_tup (gs_cons g_name (gs_cons g_name gs_nil))) gs_nil)), ?_⟩
    show Do K _ [.fz (.int c), .fz (.tup (bs.map boundD)), .fz (lstI ns), .mt (s.map Dt.int), .fz (.int v), .fz (.int l), .fz (optD m)] _
    have fin : ∀ y, Sm 100 y → ∃ (s' : List Int) (t4 t5 t6 : Sl), s'.length = i + 1 ∧ (∀ y ∈ s', Sm 100 y) ∧ [Sl.fz (.int c), .fz (.tup (bs.map boundD)), .fz (lstI ns), .mt (s.map Dt.int ++ [.int y]), .fz (.int v), .fz (.int l), .fz (optD m)] = [Sl.fz (.int c), .fz (.tup (bs.map boundD)), .fz (lstI ns), .mt (s'.map Dt.int), t4, t5, t6] := fun y hy =>
      ⟨s ++ [y], .fz (.int v), .fz (.int l), .fz (optD m), by simp [hsl], fun z hz => by
        rcases List.mem_append.mp hz with hz | hz
        · exact hso z hz
        · rw [List.mem_singleton.mp hz]; exact hy, by simp⟩
    cases m with
    | none =>
      refine do_if (b := true) (et_cmp (ev_op (x := .non) (ev_var rfl) ev_non od_isN)) (fun _ => ?_) (fun q => nomatch q)
      refine do_app (d := .int (l + (if v - 2 > 0 then v - 2 else 0))) rfl (by walk_at "ev") (by simp; omega) ?_
      refine fin _ ?_
      split <;> constructor <;> omega
    | some m =>
      obtain ⟨m1, m2⟩ := b3 m rfl
      refine do_if (b := false) (et_cmp (ev_op (x := .int m) (ev_var rfl) ev_non od_isN)) (fun q => nomatch q) (fun _ => ?_)
      refine do_app (d := .int (if l + v < m then l + v else m)) rfl (ev_cb (ea_cons (d := .int m) (ev_var rfl) (by walk_at "ea")) cb_min) (by simp; omega) ?_
      refine fin _ ?_
      split <;> constructor <;> omega
  · rintro ρ' ⟨s, s4, s5, s6, hsl, hso, rfl⟩
    refine do_ret (d := tupI s) (ev_peek (i := 3) rfl (ev_cb (ea_cons (ev_var rfl) ea_nil) cb_tupL) (by simp only [Dt.imm, imm_tupI])) ⟨s, rfl, ?_, hso⟩
    rw [hsl, zipD_len]
    simp
    omega
end
end Cy
namespace Cy
open PySem PySem.Spec L2 Dr Dl
section
variable {P : Program} {w : World} {K : PySem.W.Frag} {mg : Str → Option Value} {base : Heap}

local macro_rules | `(tactic| walk_at "od") => `(tactic| first
  | with_reducible exact od_add
  | with_reducible exact od_sub
  | with_reducible exact od_lt
  | with_reducible exact od_le
  | with_reducible exact od_gt
  | with_reducible exact od_ge
  | with_reducible exact od_eqI
  | with_reducible exact od_neI
  | with_reducible exact od_eqS
  | with_reducible exact od_eqB
  | with_reducible exact od_isN
  | with_reducible exact od_notN
  | ((with_reducible refine' od_mul ?k1); (case k1 => (first | assumption | exact Or.inl (by omega) | exact Or.inr (by omega))))
  | with_reducible exact od_pow cpow10
  | ((with_reducible refine' od_mod ?k1); (case k1 => (first | assumption | omega)))
  | ((with_reducible refine' od_div ?k1 ?k2); (case k1 => (first | assumption | omega)); (case k2 => (first | assumption | omega)))
  | ((with_reducible refine' od_ixT ?k1); (case k1 => (first | assumption | rfl)))
  | ((with_reducible refine' od_ixL ?k1); (case k1 => (first | assumption | rfl)))
  | ((with_reducible refine' od_ixS ?k1); (case k1 => (first | assumption | rfl)))
  | ((with_reducible refine' od_catT ?k1); (case k1 => (first | assumption | (simp; omega)))))
local macro_rules | `(tactic| walk_at "cb") => `(tactic| first
  | with_reducible exact cb_lenTm
  | with_reducible exact cb_lenLm
  | with_reducible exact cb_lenT
  | with_reducible exact cb_lenL
  | with_reducible exact cb_lenS
  | with_reducible exact cb_tupL
  | with_reducible exact cb_tupT
  | with_reducible exact cb_sum
  | with_reducible exact cb_all
  | with_reducible exact cb_any
  | with_reducible exact cb_abs
  | with_reducible exact cb_max
  | with_reducible exact cb_min
  | with_reducible exact cb_intB)
local macro_rules | `(tactic| walk_at "ev") => `(tactic| first
  | ((with_reducible refine' ev_var ?k1); (case k1 => rfl))
  | with_reducible exact ev_int
  | with_reducible exact ev_non
  | with_reducible exact ev_str
  | with_reducible exact ev_bl
  | ((with_reducible refine' ev_op ?k1 ?k2 ?k3); (case k1 => walk_at "ev"); (case k2 => walk_at "ev"); (case k3 => walk_at "od"))
  | ((with_reducible refine' ev_un ?k1 ud_neg); (case k1 => walk_at "ev"))
  | ((with_reducible refine' ev_tup ?k1 ?k2); (case k1 => walk_at "ea"); (case k2 => (first | (simp; done) | (simp; omega))))
  | ((with_reducible refine' ev_cb ?k1 ?k2); (case k1 => walk_at "ea"); (case k2 => walk_at "cb"))
  | ((with_reducible refine' ev_slT ?k1 ?k2 ?k3); (case k1 => walk_at "ev"); (case k2 => walk_at "eo"); (case k3 => walk_at "eo"))
  | ((with_reducible refine' EvN.dt ?k1); (case k1 => walk_at "en")))
local macro_rules | `(tactic| walk_at "eo") => `(tactic| first
  | with_reducible exact eo_none
  | ((with_reducible refine' eo_some ?k1); (case k1 => walk_at "ev")))
local macro_rules | `(tactic| walk_at "ea") => `(tactic| first
  | with_reducible exact ea_nil
  | ((with_reducible refine' ea_cons ?k1 ?k2); (case k1 => walk_at "ev"); (case k2 => walk_at "ea")))
local macro_rules | `(tactic| walk_at "en") => `(tactic| first
  | ((with_reducible refine' evn_lst ?k1 ?k2); (case k1 => walk_at "ea"); (case k2 => (first | (simp; done) | (simp; omega))))
  | ((with_reducible refine' evn_op ?k1 ?k2 (on_cat ?k3)); (case k1 => walk_at "ev"); (case k2 => walk_at "ev"); (case k3 => (first | assumption | (simp; omega))))
  | ((with_reducible refine' evn_op ?k1 ?k2 (on_rep ?k3 ?k4)); (case k1 => walk_at "ev"); (case k2 => walk_at "ev"); (case k3 => (first | assumption | (simp; omega))); (case k4 => (first | assumption | omega)))
  | ((with_reducible refine' evn_sl ?k1 ?k2 ?k3); (case k1 => walk_at "ev"); (case k2 => walk_at "eo"); (case k3 => walk_at "eo"))
  | ((with_reducible refine' evn_cb ?k1 cb_listL); (case k1 => walk_at "ea"))
  | ((with_reducible refine' evn_cb ?k1 cb_listT); (case k1 => walk_at "ea")))
local macro_rules | `(tactic| walk_at "et") => `(tactic| first
  | ((with_reducible refine' et_cmp ?k1); (case k1 => walk_at "ev"))
  | ((with_reducible refine' et_or ?k1 ?k2); (case k1 => walk_at "et"); (case k2 => (intro _; walk_at "et")))
  | ((with_reducible refine' et_and ?k1 ?k2); (case k1 => walk_at "et"); (case k2 => (intro _; walk_at "et")))
  | ((with_reducible refine' et_not ?k1); (case k1 => walk_at "et"))
  | ((with_reducible refine' et_trM ?k1); (case k1 => rfl))
  | ((with_reducible refine' et_trMs ?k1); (case k1 => rfl))
  | ((with_reducible refine' et_trB ?k1); (case k1 => walk_at "ev"))
  | ((with_reducible refine' et_trT ?k1); (case k1 => walk_at "ev"))
  | ((with_reducible refine' et_trL ?k1); (case k1 => walk_at "ev"))
  | ((with_reducible refine' et_trS ?k1); (case k1 => walk_at "ev")))

theorem six (l : List Int) (h : l.length = 6) : ∃ a b c d e f, l = [a, b, c, d, e, f] := by
  match l, h with
  | [a, b, c, d, e, f], _ => exact ⟨a, b, c, d, e, f, rfl⟩
theorem cut_pre9 {α : Type} (xs : List α) (b : Nat) (h2 : b ≤ xs.length) : cut xs none (some (b : Int)) = xs.take b := by
  unfold cut
  rw [HT.sIx_none, HT.sIx_nat, Nat.min_eq_left h2]
  simp
theorem drawn9 {sizes ns : List Int} {M : Int} (h : Drawn sizes ns) (hs : ∀ s ∈ sizes, s ≤ M) : ∀ x ∈ ns, 0 ≤ x ∧ x < M := fun x hx => by
  obtain ⟨i, hi⟩ := List.mem_iff_getElem?.mp hx
  have hlt := (List.getElem?_eq_some_iff.mp hi).1
  have hlt2 : i < sizes.length := by rw [← h.1]; exact hlt
  have := h.2 i x _ hi (List.getElem?_eq_getElem hlt2)
  have := hs _ (List.getElem_mem hlt2)
  omega
theorem sum_ok9 {n : Nat} {rows : List Row} (hr : RowsOk n rows) : ∀ {sh : List (Int × Int)} {acc : List Int × Int}, (∀ s ∈ sh, 0 ≤ s.1 ∧ s.1 < rows.length ∧ 0 ≤ s.2) → acc.1.length = n → ∃ t : List Int × Int, sharesSum rows sh acc = some t ∧ t.1.length = n
  | [], acc, _, ha => ⟨acc, rfl, ha⟩
  | s :: sh, acc, hs, ha => by
    obtain ⟨q1, q2, q3⟩ := hs s (List.mem_cons_self ..)
    have e : sumStep rows acc s = some (addV s.2 acc.1 (rows.getD s.1.toNat ([], 0)).1, acc.2 + s.2 * (rows.getD s.1.toNat ([], 0)).2) := by
      unfold sumStep
      rw [if_neg (by omega)]
    have hlt : s.1.toNat < rows.length := by omega
    have hw := hr (rows.getD s.1.toNat ([], 0)) (by rw [List.getD_eq_getElem?_getD, List.getElem?_eq_getElem hlt]; exact List.getElem_mem _)
    obtain ⟨t, h1, h2⟩ := sum_ok9 hr (sh := sh) (acc := (addV s.2 acc.1 (rows.getD s.1.toNat ([], 0)).1, acc.2 + s.2 * (rows.getD s.1.toNat ([], 0)).2)) (fun q hq => hs q (List.mem_cons_of_mem _ hq)) (by
      show (addV s.2 acc.1 (rows.getD s.1.toNat ([], 0)).1).length = n
      unfold addV
      rw [List.length_zipWith, hw, ha]
      omega)
    refine ⟨t, ?_, h2⟩
    show (sumStep rows acc s).bind (sharesSum rows sh) = some t
    rw [e]
    exact h1
theorem given9 {n : Nat} {bs : List (Int × Option Int)} {rs : List Row} (hb : bs.length = n) (hr : RowsOk n rs) : RowsOk n (givensV bs rs) := by
  subst hb
  intro r h
  unfold givensV at h
  rcases List.mem_append.mp h with h | h
  · rcases List.mem_append.mp h with h | h
    · unfold leastRows at h
      obtain ⟨i, _, rfl⟩ := List.mem_mapIdx.mp h
      simp [unitV]
    · have key : ∀ (a : Nat) (cs : List (Int × Option Int)), ∀ q ∈ mostRows bs.length a cs, q.1.length = bs.length := by
        intro a cs
        induction cs generalizing a with
        | nil => intro q hq; cases hq
        | cons c cs ih =>
          obtain ⟨l, m⟩ := c
          cases m with
          | none => exact ih (a + 1)
          | some m =>
            intro q hq
            rcases List.mem_cons.mp hq with rfl | hq
            · simp [unitV]
            · exact ih (a + 1) q hq
      exact key 0 bs r h
  · exact hr r h
theorem most9 (n : Nat) : ∀ (a : Nat) (bs : List (Int × Option Int)), (mostRows n a bs).length ≤ bs.length
  | a, [] => Nat.le_refl _
  | a, (l, none) :: bs => by
    show (mostRows n (a + 1) bs).length ≤ bs.length + 1
    have := most9 n (a + 1) bs
    omega
  | a, (l, some m) :: bs => by
    show (mostRows n (a + 1) bs).length + 1 ≤ bs.length + 1
    have := most9 n (a + 1) bs
    omega
theorem given9_len (bs : List (Int × Option Int)) (rs : List Row) : (givensV bs rs).length ≤ 2 * bs.length + rs.length := by
  have := most9 bs.length 0 bs
  unfold givensV leastRows
  simp
  omega
/-- [e for x in ints], the ints known by a word -/
theorem evnp_ints {ρ : List Sl} {wi : TI} {gt : TG} {te : TE} {vs : List Nat} {A : List Int → Prop} (f : Int → Int) (hi : EvIP K wi ρ fun ds => ∃ ns, ds = ns.map Dt.int ∧ A ns) (hl : ∀ ns, A ns → ns.length ≤ 100000)
    (he : ∀ x, ∃ js ρ', EvG K gt (.int x) js (wipeS ρ vs) ρ' ∧ (∀ j ∈ js, j ∈ vs) ∧ EvD K te ρ' (.int (f x))) : EvNP K (tLc wi gt tYes te vs) ρ (fun es => ∃ ns, A ns ∧ es = (ns.map f).map Dt.int) := by
  refine evnp_lc hi fun ds ⟨ns, e, hA⟩ => ?_
  subst e
  refine ⟨by simpa using hl ns hA, fun i acc => acc = ((ns.take i).map f).map Dt.int, by simp, fun i d acc hd hacc => ?_, fun acc hacc => ?_⟩
  · rw [List.getElem?_map] at hd
    obtain ⟨x, hx, rfl⟩ := Option.map_eq_some_iff.mp hd
    obtain ⟨js, ρ', h1, h2, h3⟩ := he x
    refine ⟨js, ρ', h1, h2, .inl ⟨et_yes, h3.p ?_⟩⟩
    show acc ++ [Dt.int (f x)] = ((ns.take (i + 1)).map f).map Dt.int
    rw [show acc = ((ns.take i).map f).map Dt.int from hacc, List.take_add_one, hx]
    simp
  · exact ⟨ns, hA, by rw [show acc = ((ns.take (ns.map Dt.int).length).map f).map Dt.int from hacc, List.length_map, List.take_length]⟩
theorem evp_tupN {ρ : List Sl} {te : TE} {A : List Dt → Prop} (h : EvNP K te ρ A) : EvP K (tCB (rTupS K) (tCons te tNil)) ρ (fun d => ∃ ds, d = .tup ds ∧ A ds) :=
  evp_cb (eap_cons h.dt (ea_nil.p (P := fun xs => xs = []) rfl)) fun ds ⟨d, ds', e1, ⟨es, e2, hA⟩, e3⟩ => by
    subst e1 e2 e3
    exact ⟨.tup es, cb_tupL, es, rfl, hA⟩
theorem rep7 {ρ : List Sl} (v : Int) {te : TE} {n : Nat} (hn : n ≤ 1000) (h : EvD K te ρ (.int n)) : EvD K (tOp rMulA (tLst (tCons (tC (.int v)) tNil)) te) ρ (lstI (List.replicate n v)) :=
  (EvN.to (ds := (List.replicate (n : Int).toNat [Dt.int v]).flatten) (evn_op (EvN.dt (evn_lst (ea_cons ev_int ea_nil))) h (on_rep ⟨by omega, by rw [toNat_nat]; simp; omega⟩ (by omega))) (by rw [toNat_nat, flat1]; simp)).dt
theorem ok_l_none_built {a : Addr} {fd : FuncData} (F : Fun K "_law_none_built" "_law_none_built" s_l_none_built a fd) (T : Tx mg) (D_l_bounds : Def P w K mg base 2 "_law_bounds" P_l_bounds (sp_l_bounds K)) (D_l_draws : Def P w K mg base 1 "_law_draws" P_l_draws (sp_l_draws K)) (D_l_givens : Def P w K mg base 2 "_law_givens" P_l_givens (sp_l_givens K)) (D_l_rows : Def P w K mg base 2 "_law_rows" P_l_rows (sp_l_rows K)) (D_l_total : Def P w K mg base 1 "_law_total" P_l_total (sp_l_total K)) (D_l_tree : Def P w K mg base 2 "_law_tree" P_l_tree (sp_l_tree K)) : FnOk P w K mg base CX0 3 a fd P_l_none_built (sp_l_none_built K) := by
  refine F.ok sc_l_none_built (fun vs H Q E h => sp_len (n := 4) (fun _ => rfl) vs H Q E h) (fun cdv A outer s H vs Q E hr h => ?_)
  refine ⟨_, (pss_cons (ps_set (i := 4) sc_l_none_built.nd rfl (Or.inl rfl) (pe_def D_l_bounds hr (by rfl) (pa_cons (pe_ix (ix_k K) (pv 0) pe_int (fun _ _ => rfl)) (pa_cons (pv 1) pa_nil))))
      (pss_cons (ps_set (i := 5) sc_l_none_built.nd rfl (Or.inl rfl) (pe_def D_l_rows hr (by rfl) (pa_cons (pe_ix (ix_k K) (pv 0) pe_int (fun _ _ => rfl)) (pa_cons pe_int (pa_cons (pv 1) (pa_cons (pv 2) (pa_cons (pv 3) pa_nil)))))))
      (pss_cons (ps_set (i := 6) sc_l_none_built.nd rfl (Or.inl rfl) (pe_def D_l_givens hr (by rfl) (pa_cons (pe_tup (pa_cons (pv 4) (pa_cons (pv 5) (pa_cons (pe_tup pa_nil) pa_nil)))) pa_nil)))
      (pss_cons (ps_set (i := 7) sc_l_none_built.nd rfl (Or.inr rfl) (pe_def D_l_draws hr (by rfl) (pa_cons (pe_ix (ix_k K) (pv 0) pe_int (fun _ _ => rfl)) (pa_cons pe_int (pa_cons (pe_op (add_k K) (pe_op op_mulA (pe_lst (pa_cons (pe_callB max_k (by rfl) T.max bt_max (pa_cons pe_int (pa_cons (pe_callB (len_k K) (by rfl) T.len bt_len (pa_cons (pv 6) pa_nil)) pa_nil))) (pa_cons pe_int pa_nil))) pe_int) (pe_lst (pa_cons pe_int (pa_cons pe_int pa_nil)))) pa_nil)))))
      (pss_cons (ps_set (i := 8) sc_l_none_built.nd rfl (Or.inl rfl) (pe_lst pa_nil))
      (pss_cons (ps_if (tr_k K (pv 6)) (pss_one (ps_setLc (i := 8) (own := [("_law_k", 12)]) rfl sc_l_none_built.nd rfl rfl (sw_true rfl rfl rfl (by decide +kernel)) (pi_range1 (by rfl) T.range (pa_cons (pe_ix (ix_k K) (pv 7) pe_int (fun _ _ => rfl)) pa_nil)) (blkOk_by (own := [("_law_k", 12)]) (N := N_l_none_built) (sc := defScope s_l_none_built) (by decide +kernel)) (fun _ _ _ _ _ => (pg_name (i := 12) sc_l_none_built.nd rfl (Or.inl rfl))) (fun _ _ _ _ _ => pts_nil) (fun _ _ _ _ _ => (pe_tup (pa_cons (pe_ix (ix_k K) (pv 7) (pe_op op_mulA pe_int (pv 12)) (fun _ _ => rfl)) (pa_cons (pe_ix (ix_k K) (pv 7) (pe_op (add_k K) (pe_op op_mulA pe_int (pv 12)) pe_int) (fun _ _ => rfl)) pa_nil)))))) pss_nil)
      (pss_cons (ps_set (i := 9) sc_l_none_built.nd rfl (Or.inl rfl) (pe_def D_l_total hr (by rfl) (pa_cons (pv 6) (pa_cons (pv 8) (pa_cons (pv 1) pa_nil)))))
      (pss_cons (ps_set (i := 5) sc_l_none_built.nd rfl (Or.inl rfl) (pe_op (add_k K) (pv 5) (pe_lst (pa_cons (pe_tup (pa_cons (pe_callTy (tuple_k K) (by rfl) T.tuple bt_tuple (pa_cons (pe_lc (own := [("_law_one", 13)]) rfl sc_l_none_built.nd (seq_k K (pe_slice (sl_k K) (pv 9) po_none (po_some (pv 1)))) (blkOk_by (own := [("_law_one", 13)]) (N := N_l_none_built) (sc := defScope s_l_none_built) (by decide +kernel)) (fun _ _ _ _ _ => (pg_name (i := 13) sc_l_none_built.nd rfl (Or.inl rfl))) (fun _ _ _ _ _ => pts_nil) (fun _ _ _ _ _ => (pe_un un_neg (pv 13)))) pa_nil)) (pa_cons (pe_op op_sub (pe_op (add_k K) pe_int (pe_ix (ix_k K) (pv 7) pe_int (fun _ _ => rfl))) (pe_ix (ix_k K) (pv 9) (pv 1) (fun _ _ => rfl))) pa_nil))) pa_nil))))
      (pss_cons (ps_set (i := 10) sc_l_none_built.nd rfl (Or.inl rfl) (pe_def D_l_tree hr (by rfl) (pa_cons (pe_ix (ix_k K) (pv 0) pe_int (fun _ _ => rfl)) (pa_cons (pe_op (add_k K) (pe_callB (len_k K) (by rfl) T.len bt_len (pa_cons (pv 6) pa_nil)) pe_int) (pa_cons (pv 1) (pa_cons (pe_op (add_k K) (pv 8) (pe_lst (pa_cons (pe_tup (pa_cons (pe_callB (len_k K) (by rfl) T.len bt_len (pa_cons (pv 6) pa_nil)) (pa_cons pe_int pa_nil))) pa_nil))) pa_nil))))))
      (pss_cons (ps_set (i := 11) sc_l_none_built.nd rfl (Or.inl rfl) (pe_callTy (tuple_k K) (by rfl) T.tuple bt_tuple (pa_cons (pe_lc (own := [("_law_one", 13)]) rfl sc_l_none_built.nd (seq_k K (pe_def D_l_draws hr (by rfl) (pa_cons (pe_ix (ix_k K) (pv 0) pe_int (fun _ _ => rfl)) (pa_cons pe_int (pa_cons (pe_op op_mulA (pe_lst (pa_cons pe_int pa_nil)) (pv 1)) pa_nil))))) (blkOk_by (own := [("_law_one", 13)]) (N := N_l_none_built) (sc := defScope s_l_none_built) (by decide +kernel)) (fun _ _ _ _ _ => (pg_name (i := 13) sc_l_none_built.nd rfl (Or.inl rfl))) (fun _ _ _ _ _ => pts_nil) (fun _ _ _ _ _ => (pe_op op_sub (pv 13) pe_int))) pa_nil)))
      (pss_one (ps_ret (pe_tup (pa_cons (pe_tup (pa_cons (pv 4) (pa_cons (pe_callTy (tuple_k K) (by rfl) T.tuple bt_tuple (pa_cons (pv 5) pa_nil)) (pa_cons (pv 11) pa_nil)))) (pa_cons (pe_tup (pa_cons (pe_callTy (tuple_k K) (by rfl) T.tuple bt_tuple (pa_cons (pe_op op_mulA (pe_lst (pa_cons pe_int pa_nil)) (pv 1)) pa_nil)) (pa_cons (pe_callTy (tuple_k K) (by rfl) T.tuple bt_tuple (pa_cons (pe_op op_mulA (pe_lst (pa_cons pe_int pa_nil)) (pv 1)) pa_nil)) (pa_cons (pv 10) pa_nil)))) pa_nil))))))))))))))), fn_do (N := N_l_none_built) (fun x hx => ?_) h⟩
  obtain ⟨cells, n, many, big⟩ := x
  obtain ⟨h1, h2, h3, h4, h5⟩ := hx
  obtain ⟨c0, c1, c2, c3, c4, c5, rfl⟩ := six cells h1
  have h2 : n ≤ 8 := h2
  have h3 : many ≤ 4 := h3
  have h4 : 1 ≤ big := h4
  have h5 : big ≤ 1000000000 := h5
  show Do K _ [.fz (.lst [.int c0, .int c1, .int c2, .int c3, .int c4, .int c5]), .fz (.int n), .fz (.int many), .fz (.int big), .no, .no, .no, .no, .no, .no, .no, .no, .no, .no] (ends fun d => BuiltOk n d)
  refine do_seq (do_asgP (evp_call (c0, n) (by walk_at "ea") h2) ?_)
  rintro d ⟨bs, rfl, hbl, hbo⟩
  have hbl : bs.length = n := hbl
  refine do_seq (do_asgP (evp_call (c1, 29, n, many, big) (by walk_at "ea") ⟨smk 29 (by decide), h2, by show many ≤ 5; omega, h4, h5⟩) ?_)
  rintro d ⟨rs, rfl, hrl, hro⟩
  have hrl : rs.length = many := hrl
  have hro : RowsOk n rs := hro
  refine do_seq (do_asg (d := rowsL (givensV bs rs)) (ev_call (true, bs, rs, .tup []) (by walk_at "ea") ⟨by show bs.length ≤ 50; omega, by show rs.length ≤ 1000; omega⟩) ?_)
  have gok := given9 hbl hro
  have gl := given9_len bs rs
  generalize givensV bs rs = st at gok gl
  have gl : st.length ≤ 20 := by omega
  show Do K _ [.fz (.lst [.int c0, .int c1, .int c2, .int c3, .int c4, .int c5]), .fz (.int n), .fz (.int many), .fz (.int big), .fz (.tup (bs.map boundD)), .fz (rowsL rs), .fz (rowsL st), .no, .no, .no, .no, .no, .no, .no] _
  generalize hL : (if (st.length : Int) > 1 then (st.length : Int) else 1) = L
  have hL1 : 1 ≤ L ∧ L ≤ 20 ∧ (0 < st.length → L = st.length) := by
    rw [← hL]
    split <;> omega
  have emax : ∀ {ρ : List Sl}, ρ[6]? = some (.fz (rowsL st)) → EvD K (tCB Dr.rMax2 (tCons (tC (.int 1)) (tCons (tCB (Evl.rLenS K) (tCons (tVar 6) tNil)) tNil))) ρ (.int L) := fun e => by
    rw [← hL]
    exact ev_cb (ea_cons ev_int (ea_cons (ev_cb (ea_cons (ev_var e) ea_nil) cb_lenLm) ea_nil)) cb_max
  refine do_seq (do_asgP (evp_call (c2, 30, [L, 5, L, 5, L, 5, 4, 3]) (ea_cons (by walk_at "ev") (ea_cons ev_int (ea_cons (EvN.dt ((evn_op (EvN.dt (evn_op (EvN.dt (evn_lst (ea_cons (emax rfl) (ea_cons ev_int ea_nil)))) ev_int (on_rep (by simp) (by decide)))) (EvN.dt (ds := [Dt.int 4, Dt.int 3]) (by walk_at "en")) (on_cat (by simp))).to rfl)) ea_nil))) ⟨smk 30 (by decide), by simp, fun s hs => ?_⟩) ?_)
  · simp at hs
    rcases hs with rfl | rfl | rfl | rfl | rfl | rfl | rfl | rfl <;> omega
  rintro d ⟨ns, rfl, hnl, hnd⟩
  obtain ⟨x0, x1, x2, x3, x4, x5, x6, x7, rfl⟩ : ∃ a b c d e f g h, ns = [a, b, c, d, e, f, g, h] := by
    match ns, hnl with
    | [a, b, c, d, e, f, g, h], _ => exact ⟨a, b, c, d, e, f, g, h, rfl⟩
  have y0 := hnd 0 x0 L rfl rfl
  have y1 := hnd 1 x1 5 rfl rfl
  have y2 := hnd 2 x2 L rfl rfl
  have y3 := hnd 3 x3 5 rfl rfl
  have y4 := hnd 4 x4 L rfl rfl
  have y5 := hnd 5 x5 5 rfl rfl
  have y6 := hnd 6 x6 4 rfl rfl
  have y7 := hnd 7 x7 3 rfl rfl
  clear hnd hnl
  refine do_seq (do_asg (d := .lst []) (EvN.dt (evn_lst ea_nil)) ?_)
  show Do K _ [.fz (.lst [.int c0, .int c1, .int c2, .int c3, .int c4, .int c5]), .fz (.int n), .fz (.int many), .fz (.int big), .fz (.tup (bs.map boundD)), .fz (rowsL rs), .fz (rowsL st), .fz (.lst [.int x0, .int x1, .int x2, .int x3, .int x4, .int x5, .int x6, .int x7]), .fz (.lst ([].map shD)), .no, .no, .no, .no, .no] _
  refine do_cut (fun ρ => ∃ sh : List (Int × Int), (∀ s ∈ sh, 0 ≤ s.1 ∧ s.1 < (st.length : Int) ∧ 0 ≤ s.2 ∧ s.2 < 5) ∧ sh.length ≤ 3 ∧ ρ = [.fz (.lst [.int c0, .int c1, .int c2, .int c3, .int c4, .int c5]), .fz (.int n), .fz (.int many), .fz (.int big), .fz (.tup (bs.map boundD)), .fz (rowsL rs), .fz (rowsL st), .fz (.lst [.int x0, .int x1, .int x2, .int x3, .int x4, .int x5, .int x6, .int x7]), .fz (.lst (sh.map shD)), .no, .no, .no, .no, .no]) ?_ ?_
  · refine do_if (b := !(st.map rowD).isEmpty) (by walk_at "et") (fun hb => ?_) (fun hb => do_next ⟨[], fun s hs => by simp at hs, by simp, rfl⟩)
    have hst : 0 < st.length := by
      cases st with
      | nil => simp at hb
      | cons r st => simp
    have hLl := hL1.2.2 hst
    have hx : ∀ i : Nat, i < 3 → ∃ u v, atI [Dt.int x0, Dt.int x1, Dt.int x2, Dt.int x3, Dt.int x4, Dt.int x5, Dt.int x6, Dt.int x7] (2 * (i : Int)) = some (.int u) ∧ atI [Dt.int x0, Dt.int x1, Dt.int x2, Dt.int x3, Dt.int x4, Dt.int x5, Dt.int x6, Dt.int x7] (2 * (i : Int) + 1) = some (.int v) ∧ 0 ≤ u ∧ u < (st.length : Int) ∧ 0 ≤ v ∧ v < 5 := fun i hi =>
      match i, hi with
      | 0, _ => ⟨x0, x1, rfl, rfl, by omega⟩
      | 1, _ => ⟨x2, x3, rfl, rfl, by omega⟩
      | 2, _ => ⟨x4, x5, rfl, rfl, by omega⟩
      | i + 3, h => absurd h (by omega)
    refine do_asgP (EvNP.dt (evnp_lc (Src := fun es => es = rangeD 0 x6.toNat) (R := fun es => ∃ sh : List (Int × Int), (∀ s ∈ sh, 0 ≤ s.1 ∧ s.1 < (st.length : Int) ∧ 0 ≤ s.2 ∧ s.2 < 5) ∧ sh.length ≤ 3 ∧ es = sh.map shD) ((ei_range1 (by walk_at "ea") (by omega)).p rfl) fun es e => ?_)) ?_
    · subst e
      refine ⟨by rw [rangeD_len]; omega, fun i acc => ∃ sh : List (Int × Int), (∀ s ∈ sh, 0 ≤ s.1 ∧ s.1 < (st.length : Int) ∧ 0 ≤ s.2 ∧ s.2 < 5) ∧ sh.length = i ∧ acc = sh.map shD, ⟨[], fun s hs => by simp at hs, rfl, rfl⟩, fun i d acc hd hacc => ?_, fun acc hacc => ?_⟩
      · obtain ⟨hi, rfl⟩ := rangeD_get hd
        obtain ⟨sh, q1, q2, rfl⟩ := hacc
        obtain ⟨u, v, e1, e2, b1, b2, b3, b4⟩ := hx i (by omega)
        rw [Int.zero_add]
        refine ⟨_, _, g_name, by simp, .inl ⟨et_yes, EvD.p (d := shD (u, v)) (by walk_at "ev") ⟨sh ++ [(u, v)], fun s hs => ?_, by simp [q2], by simp⟩⟩⟩
        rcases List.mem_append.mp hs with hs | hs
        · exact q1 s hs
        · rw [List.mem_singleton.mp hs]
          exact ⟨b1, b2, b3, b4⟩
      · obtain ⟨sh, q1, q2, rfl⟩ := hacc
        rw [rangeD_len] at q2
        exact ⟨sh, q1, by omega, rfl⟩
    · rintro d ⟨es, rfl, sh, q1, q2, rfl⟩
      exact ⟨sh, q1, q2, rfl⟩
  rintro ρ' ⟨sh, q1, q2, rfl⟩
  obtain ⟨t, ht, htl⟩ := sum_ok9 gok (sh := sh) (acc := (List.replicate n 0, 0)) (fun s hs => by obtain ⟨b1, b2, b3, b4⟩ := q1 s hs; exact ⟨b1, b2, b3⟩) (by simp)
  have shok : SharesOk B6 sh := ⟨fun s hs => by obtain ⟨b1, b2, b3, b4⟩ := q1 s hs; exact ⟨by show -(2 ^ 60) ≤ s.2; omega, by show s.2 ≤ 2 ^ 60; omega⟩, by omega⟩
  refine do_seq (do_asg (d := totD (some t)) ((ev_call (true, st, sh, n) (by walk_at "ea") ⟨gok, shok, by show n ≤ 1000; omega⟩).to (by show totD (sharesSum st sh (List.replicate n 0, 0)) = _; rw [ht])) ?_)
  obtain ⟨te, tb⟩ := t
  have htl : te.length = n := htl
  show Do K _ [.fz (.lst [.int c0, .int c1, .int c2, .int c3, .int c4, .int c5]), .fz (.int n), .fz (.int many), .fz (.int big), .fz (.tup (bs.map boundD)), .fz (rowsL rs), .fz (rowsL st), .fz (.lst [.int x0, .int x1, .int x2, .int x3, .int x4, .int x5, .int x6, .int x7]), .fz (.lst (sh.map shD)), .fz (lstI (te ++ [tb])), .no, .no, .no, .no] _
  have hcut : ∀ {ρ : List Sl}, ρ[9]? = some (.fz (lstI (te ++ [tb]))) → ρ[1]? = some (.fz (.int n)) → EvD K (tSl (rSlA2 K) (tVar 9) tNoPart (tPart (tVar 1))) ρ (lstI te) := fun e1 e2 =>
    (EvN.to (evn_sl (ev_var e1) eo_none (eo_some (ev_var e2))) (by rw [cut_pre9 _ n (by simp; omega), List.map_append, ← htl, ← List.length_map (f := Dt.int), List.take_left])).dt
  have hn : atI ((te ++ [tb]).map Dt.int) (n : Int) = some (Dt.int tb) := at_nat (j := n) rfl (by rw [List.getElem?_map, List.getElem?_append_right (by omega)]; simp [htl])
  refine do_seq (do_asg (d := rowsL (rs ++ [(negV te, 1 + x7 - tb)])) (EvN.dt (EvN.to (ds := rs.map rowD ++ [rowD (negV te, 1 + x7 - tb)]) (evn_op (x := rowsL rs) (y := .lst [rowD (negV te, 1 + x7 - tb)]) (ev_var rfl) (EvN.dt (evn_lst (ea_cons (ev_tup (ea_cons (d := tupI (negV te)) (ev_cb (ea_cons (EvN.dt (ds := (negV te).map Dt.int) ?_) ea_nil) cb_tupL) (ea_cons (d := .int (1 + x7 - tb)) (ev_op (by walk_at "ev") (ev_op (x := lstI (te ++ [tb])) (ev_var rfl) (ev_var rfl) (od_ixL hn)) od_sub) ea_nil))) ea_nil))) (on_cat (by simp; omega))) (by simp))) ?_)
  · have e : (te.map fun y => Dt.int (-y)) = (negV te).map Dt.int := by
      unfold negV
      rw [List.map_map]
      rfl
    rw [← e]
    exact evn_map (g := Dt.int) (fun y => Dt.int (-y)) te (ei_seq (hcut rfl rfl)) (by omega) fun j y hy => ⟨_, _, g_name, by simp, by walk_at "ev"⟩
  have sh2 : SharesOk 100 (sh ++ [((st.length : Int), 1)]) := ⟨fun s hs => by
    rcases List.mem_append.mp hs with hs | hs
    · obtain ⟨b1, b2, b3, b4⟩ := q1 s hs
      constructor <;> omega
    · rw [List.mem_singleton.mp hs]
      exact ⟨by show (-100 : Int) ≤ 1; decide, by show (1 : Int) ≤ 100; decide⟩, by simp; omega⟩
  refine do_seq (do_asgP (evp_call (c3, (st.length : Int) + 1, n, sh ++ [((st.length : Int), 1)]) (ea_cons (by walk_at "ev") (ea_cons (by walk_at "ev") (ea_cons (by walk_at "ev") (ea_cons (EvN.dt ((evn_op (x := .lst (sh.map shD)) (y := .lst [shD ((st.length : Int), 1)]) (ev_var rfl) (by walk_at "ev") (on_cat (by simp; omega))).to (by simp))) ea_nil)))) ⟨h2, sh2⟩) ?_)
  rintro d ⟨p, rfl, hp1, hp2⟩
  refine do_seq (do_asgP (evp_tupN (evnp_ints (A := fun ns => ns.length = n) (fun x => x - 3) (fun F0 H0 F H σ w R r => eip_seq (evp_call (c4, 31, List.replicate n 7) (ea_cons (by walk_at "ev") (ea_cons ev_int (ea_cons (rep7 7 (by omega) (ev_var rfl)) ea_nil))) ⟨smk 31 (by decide), by simp; omega, fun s hs => by rw [List.eq_of_mem_replicate hs]; decide⟩) (fun x ⟨ns, e, _⟩ => ⟨ns.map Dt.int, by rw [e]; rfl⟩) F0 H0 F H σ w R fun J ds F' H' a i ⟨x, ⟨ns, e, hd⟩, hi⟩ => r J ds F' H' a i ⟨ns, by rw [e] at hi; exact (Option.some.inj hi).symm, by simpa using hd.1⟩) (fun ns h => by omega) fun x => ⟨_, _, g_name, by simp, by walk_at "ev"⟩)) ?_)
  rintro d ⟨ds, rfl, gs, hgs, rfl⟩
  have z0 : EvD K (tCB (rTupS K) (tCons (tOp rMulA (tLst (tCons (tC (.int 0)) tNil)) (tVar 1)) tNil)) [.fz (.lst [.int c0, .int c1, .int c2, .int c3, .int c4, .int c5]), .fz (.int n), .fz (.int many), .fz (.int big), .fz (.tup (bs.map boundD)), .fz (rowsL (rs ++ [(negV te, 1 + x7 - tb)])), .fz (rowsL st), .fz (.lst [.int x0, .int x1, .int x2, .int x3, .int x4, .int x5, .int x6, .int x7]), .fz (.lst (sh.map shD)), .fz (lstI (te ++ [tb])), .fz (linesL p), .fz (tupI (gs.map fun x => x - 3)), .no, .no] (tupI (List.replicate n 0)) :=
    ev_cb (ea_cons (rep7 0 (by omega) (ev_var rfl)) ea_nil) cb_tupL
  refine do_ret (d := .tup [planD ⟨bs, rs ++ [(negV te, 1 + x7 - tb)], gs.map fun x => x - 3⟩, partsD (List.replicate n 0) (List.replicate n 0) p]) (ev_tup (ea_cons (ev_tup (ea_cons (by walk_at "ev") (ea_cons (ev_cb (ea_cons (ev_var rfl) ea_nil) cb_tupL) (ea_cons (ev_var rfl) ea_nil)))) (ea_cons (ev_tup (ea_cons z0 (ea_cons z0 (ea_cons (ev_var rfl) ea_nil)))) ea_nil))) ?_
  refine ⟨_, _, _, _, rfl, ⟨h2, hbl, by simpa using hgs, by simp; omega, fun r hr => ?_⟩, ⟨by simp; omega, fun x hx => ?_⟩, ⟨by simp; omega, fun x hx => ?_⟩, hp2, by omega, by simp; omega, by simp; omega⟩
  · rcases List.mem_append.mp hr with hr | hr
    · exact hro r hr
    · rw [List.mem_singleton.mp hr]
      show (negV te).length = n
      unfold negV
      simpa using htl
  · rw [List.eq_of_mem_replicate hx]
    constructor <;> decide
  · rw [List.eq_of_mem_replicate hx]
    constructor <;> decide
end
end Cy
namespace Cy
open PySem PySem.Spec L2 Dr Dl
section
variable {P : Program} {w : World} {K : PySem.W.Frag} {mg : Str → Option Value} {base : Heap}

local macro_rules | `(tactic| walk_at "od") => `(tactic| first
  | with_reducible exact od_add
  | with_reducible exact od_sub
  | with_reducible exact od_lt
  | with_reducible exact od_le
  | with_reducible exact od_gt
  | with_reducible exact od_ge
  | with_reducible exact od_eqI
  | with_reducible exact od_neI
  | with_reducible exact od_eqS
  | with_reducible exact od_eqB
  | with_reducible exact od_isN
  | with_reducible exact od_notN
  | ((with_reducible refine' od_mul ?k1); (case k1 => (first | assumption | exact Or.inl (by omega) | exact Or.inr (by omega))))
  | with_reducible exact od_pow cpow10
  | ((with_reducible refine' od_mod ?k1); (case k1 => (first | assumption | omega)))
  | ((with_reducible refine' od_div ?k1 ?k2); (case k1 => (first | assumption | omega)); (case k2 => (first | assumption | omega)))
  | ((with_reducible refine' od_ixT ?k1); (case k1 => (first | assumption | rfl)))
  | ((with_reducible refine' od_ixL ?k1); (case k1 => (first | assumption | rfl)))
  | ((with_reducible refine' od_ixS ?k1); (case k1 => (first | assumption | rfl)))
  | ((with_reducible refine' od_catT ?k1); (case k1 => (first | assumption | (simp; omega)))))
local macro_rules | `(tactic| walk_at "cb") => `(tactic| first
  | with_reducible exact cb_lenTm
  | with_reducible exact cb_lenLm
  | with_reducible exact cb_lenT
  | with_reducible exact cb_lenL
  | with_reducible exact cb_lenS
  | with_reducible exact cb_tupL
  | with_reducible exact cb_tupT
  | with_reducible exact cb_sum
  | with_reducible exact cb_all
  | with_reducible exact cb_any
  | with_reducible exact cb_abs
  | with_reducible exact cb_max
  | with_reducible exact cb_min
  | with_reducible exact cb_intB)
local macro_rules | `(tactic| walk_at "ev") => `(tactic| first
  | ((with_reducible refine' ev_var ?k1); (case k1 => rfl))
  | with_reducible exact ev_int
  | with_reducible exact ev_non
  | with_reducible exact ev_str
  | with_reducible exact ev_bl
  | ((with_reducible refine' ev_op ?k1 ?k2 ?k3); (case k1 => walk_at "ev"); (case k2 => walk_at "ev"); (case k3 => walk_at "od"))
  | ((with_reducible refine' ev_un ?k1 ud_neg); (case k1 => walk_at "ev"))
  | ((with_reducible refine' ev_tup ?k1 ?k2); (case k1 => walk_at "ea"); (case k2 => (first | (simp; done) | (simp; omega))))
  | ((with_reducible refine' ev_cb ?k1 ?k2); (case k1 => walk_at "ea"); (case k2 => walk_at "cb"))
  | ((with_reducible refine' ev_slT ?k1 ?k2 ?k3); (case k1 => walk_at "ev"); (case k2 => walk_at "eo"); (case k3 => walk_at "eo"))
  | ((with_reducible refine' EvN.dt ?k1); (case k1 => walk_at "en")))
local macro_rules | `(tactic| walk_at "eo") => `(tactic| first
  | with_reducible exact eo_none
  | ((with_reducible refine' eo_some ?k1); (case k1 => walk_at "ev")))
local macro_rules | `(tactic| walk_at "ea") => `(tactic| first
  | with_reducible exact ea_nil
  | ((with_reducible refine' ea_cons ?k1 ?k2); (case k1 => walk_at "ev"); (case k2 => walk_at "ea")))
local macro_rules | `(tactic| walk_at "en") => `(tactic| first
  | ((with_reducible refine' evn_lst ?k1 ?k2); (case k1 => walk_at "ea"); (case k2 => (first | (simp; done) | (simp; omega))))
  | ((with_reducible refine' evn_op ?k1 ?k2 (on_cat ?k3)); (case k1 => walk_at "ev"); (case k2 => walk_at "ev"); (case k3 => (first | assumption | (simp; omega))))
  | ((with_reducible refine' evn_op ?k1 ?k2 (on_rep ?k3 ?k4)); (case k1 => walk_at "ev"); (case k2 => walk_at "ev"); (case k3 => (first | assumption | (simp; omega))); (case k4 => (first | assumption | omega)))
  | ((with_reducible refine' evn_sl ?k1 ?k2 ?k3); (case k1 => walk_at "ev"); (case k2 => walk_at "eo"); (case k3 => walk_at "eo"))
  | ((with_reducible refine' evn_cb ?k1 cb_listL); (case k1 => walk_at "ea"))
  | ((with_reducible refine' evn_cb ?k1 cb_listT); (case k1 => walk_at "ea")))
local macro_rules | `(tactic| walk_at "et") => `(tactic| first
  | ((with_reducible refine' et_cmp ?k1); (case k1 => walk_at "ev"))
  | ((with_reducible refine' et_or ?k1 ?k2); (case k1 => walk_at "et"); (case k2 => (intro _; walk_at "et")))
  | ((with_reducible refine' et_and ?k1 ?k2); (case k1 => walk_at "et"); (case k2 => (intro _; walk_at "et")))
  | ((with_reducible refine' et_not ?k1); (case k1 => walk_at "et"))
  | ((with_reducible refine' et_trM ?k1); (case k1 => rfl))
  | ((with_reducible refine' et_trMs ?k1); (case k1 => rfl))
  | ((with_reducible refine' et_trB ?k1); (case k1 => walk_at "ev"))
  | ((with_reducible refine' et_trT ?k1); (case k1 => walk_at "ev"))
  | ((with_reducible refine' et_trL ?k1); (case k1 => walk_at "ev"))
  | ((with_reducible refine' et_trS ?k1); (case k1 => walk_at "ev")))

theorem six10 (l : List Int) (h : l.length = 6) : ∃ a b c d e f, l = [a, b, c, d, e, f] := by
  match l, h with
  | [a, b, c, d, e, f], _ => exact ⟨a, b, c, d, e, f, rfl⟩
theorem cut_pre10 {α : Type} (xs : List α) (b : Nat) (h2 : b ≤ xs.length) : cut xs none (some (b : Int)) = xs.take b := by
  unfold cut
  rw [HT.sIx_none, HT.sIx_nat, Nat.min_eq_left h2]
  simp
theorem at_ns10 (ns : List Int) (i : Int) (h0 : 0 ≤ i) (h1 : i < ns.length) : ∃ v, atI (ns.map Dt.int) i = some (Dt.int v) ∧ v ∈ ns := by
  have hk : i.toNat < ns.length := by omega
  exact ⟨ns[i.toNat], at_nat (j := i.toNat) (by omega) (by rw [List.getElem?_map, List.getElem?_eq_getElem hk]; rfl), List.getElem_mem hk⟩
theorem drawn10 {sizes ns : List Int} {M : Int} (h : Drawn sizes ns) (hs : ∀ s ∈ sizes, s ≤ M) : ∀ x ∈ ns, 0 ≤ x ∧ x < M := fun x hx => by
  obtain ⟨i, hi⟩ := List.mem_iff_getElem?.mp hx
  have hlt := (List.getElem?_eq_some_iff.mp hi).1
  have hlt2 : i < sizes.length := by rw [← h.1]; exact hlt
  have := h.2 i x _ hi (List.getElem?_eq_getElem hlt2)
  have := hs _ (List.getElem_mem hlt2)
  omega
theorem sum_ok10 {n : Nat} {rows : List Row} (hr : RowsOk n rows) : ∀ {sh : List (Int × Int)} {acc : List Int × Int}, (∀ s ∈ sh, 0 ≤ s.1 ∧ s.1 < rows.length ∧ 0 ≤ s.2) → acc.1.length = n → ∃ t : List Int × Int, sharesSum rows sh acc = some t ∧ t.1.length = n
  | [], acc, _, ha => ⟨acc, rfl, ha⟩
  | s :: sh, acc, hs, ha => by
    obtain ⟨q1, q2, q3⟩ := hs s (List.mem_cons_self ..)
    have e : sumStep rows acc s = some (addV s.2 acc.1 (rows.getD s.1.toNat ([], 0)).1, acc.2 + s.2 * (rows.getD s.1.toNat ([], 0)).2) := by
      unfold sumStep
      rw [if_neg (by omega)]
    have hlt : s.1.toNat < rows.length := by omega
    have hw := hr (rows.getD s.1.toNat ([], 0)) (by rw [List.getD_eq_getElem?_getD, List.getElem?_eq_getElem hlt]; exact List.getElem_mem _)
    obtain ⟨t, h1, h2⟩ := sum_ok10 hr (sh := sh) (acc := (addV s.2 acc.1 (rows.getD s.1.toNat ([], 0)).1, acc.2 + s.2 * (rows.getD s.1.toNat ([], 0)).2)) (fun q hq => hs q (List.mem_cons_of_mem _ hq)) (by
      show (addV s.2 acc.1 (rows.getD s.1.toNat ([], 0)).1).length = n
      unfold addV
      rw [List.length_zipWith, hw, ha]
      omega)
    refine ⟨t, ?_, h2⟩
    show (sumStep rows acc s).bind (sharesSum rows sh) = some t
    rw [e]
    exact h1
theorem given10 {n : Nat} {bs : List (Int × Option Int)} {rs : List Row} (hb : bs.length = n) (hr : RowsOk n rs) : RowsOk n (givensV bs rs) := by
  subst hb
  intro r h
  unfold givensV at h
  rcases List.mem_append.mp h with h | h
  · rcases List.mem_append.mp h with h | h
    · unfold leastRows at h
      obtain ⟨i, _, rfl⟩ := List.mem_mapIdx.mp h
      simp [unitV]
    · have key : ∀ (a : Nat) (cs : List (Int × Option Int)), ∀ q ∈ mostRows bs.length a cs, q.1.length = bs.length := by
        intro a cs
        induction cs generalizing a with
        | nil => intro q hq; cases hq
        | cons c cs ih =>
          obtain ⟨l, m⟩ := c
          cases m with
          | none => exact ih (a + 1)
          | some m =>
            intro q hq
            rcases List.mem_cons.mp hq with rfl | hq
            · simp [unitV]
            · exact ih (a + 1) q hq
      exact key 0 bs r h
  · exact hr r h
theorem most10 (n : Nat) : ∀ (a : Nat) (bs : List (Int × Option Int)), (mostRows n a bs).length ≤ bs.length
  | a, [] => Nat.le_refl _
  | a, (l, none) :: bs => by
    show (mostRows n (a + 1) bs).length ≤ bs.length + 1
    have := most10 n (a + 1) bs
    omega
  | a, (l, some m) :: bs => by
    show (mostRows n (a + 1) bs).length + 1 ≤ bs.length + 1
    have := most10 n (a + 1) bs
    omega
theorem given10_len (bs : List (Int × Option Int)) (rs : List Row) : (givensV bs rs).length ≤ 2 * bs.length + rs.length := by
  have := most10 bs.length 0 bs
  unfold givensV leastRows
  simp
  omega
theorem rep10 {ρ : List Sl} (v : Int) {te : TE} {n : Nat} (hn : n ≤ 1000) (h : EvD K te ρ (.int n)) : EvD K (tOp rMulA (tLst (tCons (tC (.int v)) tNil)) te) ρ (lstI (List.replicate n v)) :=
  (EvN.to (ds := (List.replicate (n : Int).toNat [Dt.int v]).flatten) (evn_op (EvN.dt (evn_lst (ea_cons ev_int ea_nil))) h (on_rep ⟨by omega, by rw [toNat_nat]; simp; omega⟩ (by omega))) (by rw [toNat_nat, flat1]; simp)).dt
theorem spot6 {s : List Int} (h : ∀ y ∈ s, Sm 100 y) : ∀ y ∈ s, Sm B6 y := fun y hy => by
  obtain ⟨q1, q2⟩ := h y hy
  exact ⟨by show -(2 ^ 60) ≤ y; omega, by show y ≤ 2 ^ 60; omega⟩
theorem rows_app {n : Nat} {rs : List Row} {r : Row} (h : RowsOk n rs) (hr : r.1.length = n) : RowsOk n (rs ++ [r]) := fun q hq => by
  rcases List.mem_append.mp hq with hq | hq
  · exact h q hq
  · rw [List.mem_singleton.mp hq]
    exact hr
theorem ok_l_best_built {a : Addr} {fd : FuncData} (F : Fun K "_law_best_built" "_law_best_built" s_l_best_built a fd) (T : Tx mg) (D_l_bounds : Def P w K mg base 2 "_law_bounds" P_l_bounds (sp_l_bounds K)) (D_l_draws : Def P w K mg base 1 "_law_draws" P_l_draws (sp_l_draws K)) (D_l_givens : Def P w K mg base 2 "_law_givens" P_l_givens (sp_l_givens K)) (D_l_left : Def P w K mg base 1 "_law_left" P_l_left (sp_l_left K)) (D_l_rows : Def P w K mg base 2 "_law_rows" P_l_rows (sp_l_rows K)) (D_l_spot_in : Def P w K mg base 2 "_law_spot_in" P_l_spot_in (sp_l_spot_in K)) (D_l_total : Def P w K mg base 1 "_law_total" P_l_total (sp_l_total K)) (D_l_tree : Def P w K mg base 2 "_law_tree" P_l_tree (sp_l_tree K)) : FnOk P w K mg base CX0 3 a fd P_l_best_built (sp_l_best_built K) := by
  refine F.ok sc_l_best_built (fun vs H Q E h => sp_len (n := 4) (fun _ => rfl) vs H Q E h) (fun cdv A outer s H vs Q E hr h => ?_)
  refine ⟨_, (pss_cons (ps_set (i := 4) sc_l_best_built.nd rfl (Or.inl rfl) (pe_def D_l_bounds hr (by rfl) (pa_cons (pe_ix (ix_k K) (pv 0) pe_int (fun _ _ => rfl)) (pa_cons (pv 1) pa_nil))))
      (pss_cons (ps_set (i := 5) sc_l_best_built.nd rfl (Or.inl rfl) (pe_def D_l_spot_in hr (by rfl) (pa_cons (pe_ix (ix_k K) (pv 0) pe_int (fun _ _ => rfl)) (pa_cons (pv 4) pa_nil))))
      (pss_cons (ps_set (i := 6) sc_l_best_built.nd rfl (Or.inl rfl) (pe_lst pa_nil))
      (pss_cons (ps_set (i := 7) sc_l_best_built.nd rfl (Or.inl rfl) (pe_def D_l_draws hr (by rfl) (pa_cons (pe_ix (ix_k K) (pv 0) pe_int (fun _ _ => rfl)) (pa_cons pe_int (pa_cons (pe_op op_mulA (pe_lst (pa_cons pe_int pa_nil)) (pv 2)) pa_nil)))))
      (pss_cons (ps_for PassesOwn.never rfl (enum_k K (by rfl) T.enumerate (pa_cons (pe_def D_l_rows hr (by rfl) (pa_cons (pe_ix (ix_k K) (pv 0) pe_int (fun _ _ => rfl)) (pa_cons pe_int (pa_cons (pv 1) (pa_cons (pv 2) (pa_cons (pv 3) pa_nil)))))) pa_nil)) (tup_k K (n := 2) (pgs_cons (pg_name (i := 8) sc_l_best_built.nd rfl (Or.inl rfl)) (pgs_cons (tup_k K (n := 2) (pgs_cons (pg_name (i := 9) sc_l_best_built.nd rfl (Or.inl rfl)) (pgs_cons (pg_name (i := 10) sc_l_best_built.nd rfl (Or.inl rfl)) pgs_nil))) pgs_nil))) (pss_one (ps_expr (app_k K (pv 6) (pe_tup (pa_cons (pv 9) (pa_cons (pe_op op_sub (pe_def D_l_left hr (by rfl) (pa_cons (pv 9) (pa_cons (pv 5) pa_nil))) (pe_callB max_k (by rfl) T.max bt_max (pa_cons pe_int (pa_cons (pe_op op_sub (pe_ix (ix_k K) (pv 7) (pv 8) (fun _ _ => rfl)) pe_int) pa_nil)))) pa_nil)))))))
      (pss_cons (ps_set (i := 11) sc_l_best_built.nd rfl (Or.inl rfl) (pe_def D_l_givens hr (by rfl) (pa_cons (pe_tup (pa_cons (pv 4) (pa_cons (pv 6) (pa_cons (pe_tup pa_nil) pa_nil)))) pa_nil)))
      (pss_cons (ps_set (i := 12) sc_l_best_built.nd rfl (Or.inl rfl) (pe_def D_l_draws hr (by rfl) (pa_cons (pe_ix (ix_k K) (pv 0) pe_int (fun _ _ => rfl)) (pa_cons pe_int (pa_cons (pe_op op_mulA (pe_lst (pa_cons pe_int pa_nil)) (pe_callB (len_k K) (by rfl) T.len bt_len (pa_cons (pv 11) pa_nil))) pa_nil)))))
      (pss_cons (ps_set (i := 13) sc_l_best_built.nd rfl (Or.inl rfl) (pe_lst pa_nil))
      (pss_cons (ps_for PassesOwn.never rfl (enum_k K (by rfl) T.enumerate (pa_cons (pv 11) pa_nil)) (tup_k K (n := 2) (pgs_cons (pg_name (i := 8) sc_l_best_built.nd rfl (Or.inl rfl)) (pgs_cons (pg_name (i := 14) sc_l_best_built.nd rfl (Or.inl rfl)) pgs_nil))) (pss_one (ps_if (pt_cmpR op_eq (pe_def D_l_left hr (by rfl) (pa_cons (pe_ix (ix_k K) (pv 14) pe_int (fun _ _ => rfl)) (pa_cons (pv 5) pa_nil))) (pe_ix (ix_k K) (pv 14) pe_int (fun _ _ => rfl)) (nomark _)) (pss_one (ps_expr (app_k K (pv 13) (pe_tup (pa_cons (pv 8) (pa_cons (pe_ix (ix_k K) (pv 12) (pv 8) (fun _ _ => rfl)) pa_nil)))))) pss_nil)))
      (pss_cons (ps_set (i := 15) sc_l_best_built.nd rfl (Or.inl rfl) (pe_def D_l_total hr (by rfl) (pa_cons (pv 11) (pa_cons (pv 13) (pa_cons (pv 1) pa_nil)))))
      (pss_cons (ps_set (i := 16) sc_l_best_built.nd rfl (Or.inl rfl) (pe_def D_l_tree hr (by rfl) (pa_cons (pe_ix (ix_k K) (pv 0) pe_int (fun _ _ => rfl)) (pa_cons (pe_op (add_k K) (pe_callB (len_k K) (by rfl) T.len bt_len (pa_cons (pv 11) pa_nil)) pe_int) (pa_cons (pv 1) (pa_cons (pe_op (add_k K) (pv 13) (pe_lst (pa_cons (pe_tup (pa_cons (pe_callB (len_k K) (by rfl) T.len bt_len (pa_cons (pv 11) pa_nil)) (pa_cons pe_int pa_nil))) pa_nil))) pa_nil))))))
      (pss_cons (ps_set (i := 17) sc_l_best_built.nd rfl (Or.inl rfl) (pe_callTy (tuple_k K) (by rfl) T.tuple bt_tuple (pa_cons (pe_lc (own := [("_law_one", 18)]) rfl sc_l_best_built.nd (seq_k K (pe_slice (sl_k K) (pv 15) po_none (po_some (pv 1)))) (blkOk_by (own := [("_law_one", 18)]) (N := N_l_best_built) (sc := defScope s_l_best_built) (by decide +kernel)) (fun _ _ _ _ _ => (pg_name (i := 18) sc_l_best_built.nd rfl (Or.inl rfl))) (fun _ _ _ _ _ => pts_nil) (fun _ _ _ _ _ => (pe_un un_neg (pv 18)))) pa_nil)))
      (pss_one (ps_ret (pe_tup (pa_cons (pe_tup (pa_cons (pv 4) (pa_cons (pe_callTy (tuple_k K) (by rfl) T.tuple bt_tuple (pa_cons (pv 6) pa_nil)) (pa_cons (pv 17) pa_nil)))) (pa_cons (pe_tup (pa_cons (pv 5) (pa_cons (pe_callTy (tuple_k K) (by rfl) T.tuple bt_tuple (pa_cons (pe_op op_mulA (pe_lst (pa_cons pe_int pa_nil)) (pv 1)) pa_nil)) (pa_cons (pv 16) pa_nil)))) pa_nil))))))))))))))))), fn_do (N := N_l_best_built) (fun x hx => ?_) h⟩
  obtain ⟨cells, n, many, big⟩ := x
  obtain ⟨h1, h2, h3, h4, h5⟩ := hx
  obtain ⟨c0, c1, c2, c3, c4, c5, rfl⟩ := six10 cells h1
  have h2 : n ≤ 8 := h2
  have h3 : many ≤ 4 := h3
  have h4 : 1 ≤ big := h4
  have h5 : big ≤ 1000000000 := h5
  show Do K _ [.fz (.lst [.int c0, .int c1, .int c2, .int c3, .int c4, .int c5]), .fz (.int n), .fz (.int many), .fz (.int big), .no, .no, .no, .no, .no, .no, .no, .no, .no, .no, .no, .no, .no, .no, .no] (ends fun d => BuiltOk n d)
  generalize hcl : Dt.lst [.int c0, .int c1, .int c2, .int c3, .int c4, .int c5] = cl
  have ecell : ∀ {ρ : List Sl} (i v : Int), ρ[0]? = some (.fz cl) → atI [Dt.int c0, Dt.int c1, Dt.int c2, Dt.int c3, Dt.int c4, Dt.int c5] i = some (.int v) → EvD K (tOp (rIx K) (tVar 0) (tC (.int i))) ρ (.int v) := fun i v e1 e2 =>
    ev_op (ev_var e1) ev_int (by rw [← hcl]; exact od_ixL e2)
  refine do_seq (do_asgP (evp_call (c0, n) (ea_cons (ecell 0 c0 rfl rfl) (by walk_at "ea")) h2) ?_)
  rintro d ⟨bs, rfl, hbl, hbo⟩
  have hbl : bs.length = n := hbl
  refine do_seq (do_asgP (evp_call (c5, bs) (ea_cons (ecell 5 c5 rfl rfl) (ea_cons (ev_var rfl) ea_nil)) ⟨by show bs.length ≤ 8; omega, hbo⟩) ?_)
  rintro d ⟨spot, rfl, hsl, hso⟩
  have hsl : spot.length = bs.length := hsl
  have hsn : spot.length = n := by omega
  have hs6 := spot6 hso
  refine do_seq (do_asgN (by walk_at "en") ?_)
  refine do_seq (do_asgP (evp_call (c2, 33, List.replicate many 5) (ea_cons (ecell 2 c2 rfl rfl) (ea_cons ev_int (ea_cons (rep10 5 (by omega) (ev_var rfl)) ea_nil))) ⟨smk 33 (by decide), by simp; omega, fun s hs => by rw [List.eq_of_mem_replicate hs]; decide⟩) ?_)
  rintro d ⟨sl, rfl, hsd⟩
  have hsll : sl.length = many := by simpa using hsd.1
  clear hsd
  show Do K _ [.fz cl, .fz (.int n), .fz (.int many), .fz (.int big), .fz (.tup (bs.map boundD)), .fz (tupI spot), .mt [], .fz (lstI sl), .no, .no, .no, .no, .no, .no, .no, .no, .no, .no, .no] _
  refine do_seq (do_forP (eip_enum (eap_cons (evp_call (c1, 34, n, many, big) (ea_cons (ecell 1 c1 rfl rfl) (by walk_at "ea")) ⟨smk 34 (by decide), h2, by show many ≤ 5; omega, h4, h5⟩) (ea_nil.p (P := fun xs => xs = []) rfl)) (fun xs ⟨d, ds, e1, ⟨rs, e2, _⟩, e3⟩ => ⟨d, rs.map rowD, by rw [e1, e3], by rw [e2]; rfl⟩)) ?_)
  rintro es ⟨x, ds, ⟨d, ds', e1, ⟨rs, e2, hrl, hro⟩, e3⟩, hit, rfl⟩
  have ex : x = d := (List.cons.inj e1).1
  subst ex e2
  have hit : rs.map rowD = ds := Option.some.inj hit
  subst hit
  have hrl : rs.length = many := hrl
  have hro : RowsOk n rs := hro
  refine ⟨fun i ρ => ∃ qs s8 s9 s10, qs.length = i ∧ RowsOk n qs ∧ ρ = [.fz cl, .fz (.int n), .fz (.int many), .fz (.int big), .fz (.tup (bs.map boundD)), .fz (tupI spot), .mt (qs.map rowD), .fz (lstI sl), s8, s9, s10, .no, .no, .no, .no, .no, .no, .no, .no], ⟨[], _, _, _, rfl, fun r hr => by simp at hr, rfl⟩, ?_, ?_⟩
  · rintro i d ρ' hd ⟨qs, s8, s9, s10, hql, hqo, rfl⟩
    obtain ⟨e, he, rfl⟩ := enumD_get hd
    rw [List.getElem?_map] at he
    obtain ⟨r, hr, rfl⟩ := Option.map_eq_some_iff.mp he
    have hi := (List.getElem?_eq_some_iff.mp hr).1
    have hrn := hro r (List.mem_of_getElem? hr)
    obtain ⟨v, hv, _⟩ := at_ns10 sl (i : Int) (by omega) (by omega)
    refine ⟨_, _, g_tup (gs_cons g_name (gs_cons (g_tup (gs_cons g_name (gs_cons g_name gs_nil))) gs_nil)), ?_⟩
    show Do K _ [.fz cl, .fz (.int n), .fz (.int many), .fz (.int big), .fz (.tup (bs.map boundD)), .fz (tupI spot), .mt (qs.map rowD), .fz (lstI sl), .fz (.int i), .fz (tupI r.1), .fz (.int r.2), .no, .no, .no, .no, .no, .no, .no, .no] _
    generalize hb : dot r.1 spot - (if v - 2 > 0 then v - 2 else 0) = b
    refine do_app (d := rowD (r.1, b)) rfl (ev_tup (ea_cons (ev_var rfl) (ea_cons (EvD.to (d := .int (dot r.1 spot - (if v - 2 > 0 then v - 2 else 0))) (ev_op (ev_call (r.1, spot) (by walk_at "ea") ⟨by show r.1.length = spot.length; omega, by show r.1.length ≤ 1000; omega, hs6⟩) (by walk_at "ev") od_sub) (by rw [hb])) ea_nil))) (by simp; omega) ?_
    exact ⟨qs ++ [(r.1, b)], .fz (.int i), .fz (tupI r.1), .fz (.int r.2), by simp [hql], rows_app hqo hrn, by rw [List.map_append]; rfl⟩
  rintro ρ' ⟨qs, s8, s9, s10, hql, hqo, rfl⟩
  rw [enumD_len, List.length_map] at hql
  refine do_freeze (i := 6) rfl ?_
  show Do K _ [.fz cl, .fz (.int n), .fz (.int many), .fz (.int big), .fz (.tup (bs.map boundD)), .fz (tupI spot), .fz (rowsL qs), .fz (lstI sl), s8, s9, s10, .no, .no, .no, .no, .no, .no, .no, .no] _
  refine do_seq (do_asg (d := rowsL (givensV bs qs)) (ev_call (true, bs, qs, .tup []) (by walk_at "ea") ⟨by show bs.length ≤ 50; omega, by show qs.length ≤ 1000; omega⟩) ?_)
  have gok := given10 hbl hqo
  have gl := given10_len bs qs
  generalize givensV bs qs = st at gok gl
  have gl : st.length ≤ 20 := by omega
  refine do_seq (do_asgP (evp_call (c4, 35, List.replicate st.length 4) (ea_cons (ecell 4 c4 rfl rfl) (ea_cons ev_int (ea_cons (rep10 4 (by omega) (by walk_at "ev")) ea_nil))) ⟨smk 35 (by decide), by simp; omega, fun s hs => by rw [List.eq_of_mem_replicate hs]; decide⟩) ?_)
  rintro d ⟨ws, rfl, hwd⟩
  have hwl : ws.length = st.length := by simpa using hwd.1
  have hwa := drawn10 (M := 4) hwd (fun s hs => by rw [List.eq_of_mem_replicate hs]; decide)
  clear hwd
  refine do_seq (do_asgN (by walk_at "en") ?_)
  show Do K _ [.fz cl, .fz (.int n), .fz (.int many), .fz (.int big), .fz (.tup (bs.map boundD)), .fz (tupI spot), .fz (rowsL qs), .fz (lstI sl), s8, s9, s10, .fz (rowsL st), .fz (lstI ws), .mt [], .no, .no, .no, .no, .no] _
  refine do_seq (do_for (ds := enumD (st.map rowD)) (ei_enum (by walk_at "ea")) (fun i ρ => ∃ (sh : List (Int × Int)) (t8 t14 : Sl), (∀ s ∈ sh, 0 ≤ s.1 ∧ s.1 < (st.length : Int) ∧ 0 ≤ s.2 ∧ s.2 < 4) ∧ sh.length ≤ i ∧
    ρ = [.fz cl, .fz (.int n), .fz (.int many), .fz (.int big), .fz (.tup (bs.map boundD)), .fz (tupI spot), .fz (rowsL qs), .fz (lstI sl), t8, s9, s10, .fz (rowsL st), .fz (lstI ws), .mt (sh.map shD), t14, .no, .no, .no, .no]) ⟨[], _, _, fun s hs => by simp at hs, Nat.le_refl _, rfl⟩ ?_ ?_)
  · rintro i d ρ' hd ⟨sh, t8, t14, hsh, hshl, rfl⟩
    obtain ⟨e, he, rfl⟩ := enumD_get hd
    rw [List.getElem?_map] at he
    obtain ⟨r, hr, rfl⟩ := Option.map_eq_some_iff.mp he
    have hi := (List.getElem?_eq_some_iff.mp hr).1
    have hrn := gok r (List.mem_of_getElem? hr)
    obtain ⟨v, hv, hvm⟩ := at_ns10 ws (i : Int) (by omega) (by omega)
    have hv4 := hwa v hvm
    refine ⟨_, _, g_tup (gs_cons g_name (gs_cons g_name gs_nil)), ?_⟩
    show Do K _ [.fz cl, .fz (.int n), .fz (.int many), .fz (.int big), .fz (.tup (bs.map boundD)), .fz (tupI spot), .fz (rowsL qs), .fz (lstI sl), .fz (.int i), s9, s10, .fz (rowsL st), .fz (lstI ws), .mt (sh.map shD), .fz (rowD r), .no, .no, .no, .no] _
    refine do_if (b := decide (dot r.1 spot = r.2)) (et_cmp (ev_op (ev_call (r.1, spot) (by walk_at "ea") ⟨by show r.1.length = spot.length; omega, by show r.1.length ≤ 1000; omega, hs6⟩) (by walk_at "ev") od_eqI)) (fun _ => ?_) (fun _ => do_next ⟨sh, _, _, hsh, by omega, rfl⟩)
    refine do_app (d := shD ((i : Int), v)) rfl (by walk_at "ev") (by simp; omega) ?_
    refine ⟨sh ++ [((i : Int), v)], .fz (.int i), .fz (rowD r), fun s hs => ?_, by simp; omega, by rw [List.map_append]; rfl⟩
    rcases List.mem_append.mp hs with hs | hs
    · exact hsh s hs
    · rw [List.mem_singleton.mp hs]
      show 0 ≤ (i : Int) ∧ (i : Int) < _ ∧ 0 ≤ v ∧ v < 4
      omega
  rintro ρ' ⟨sh, t8, t14, hsh, hshl, rfl⟩
  rw [enumD_len, List.length_map] at hshl
  refine do_freeze (i := 13) rfl ?_
  show Do K _ [.fz cl, .fz (.int n), .fz (.int many), .fz (.int big), .fz (.tup (bs.map boundD)), .fz (tupI spot), .fz (rowsL qs), .fz (lstI sl), t8, s9, s10, .fz (rowsL st), .fz (lstI ws), .fz (.lst (sh.map shD)), t14, .no, .no, .no, .no] _
  obtain ⟨t, ht, htl⟩ := sum_ok10 gok (sh := sh) (acc := (List.replicate n 0, 0)) (fun s hs => by obtain ⟨b1, b2, b3, b4⟩ := hsh s hs; exact ⟨b1, b2, b3⟩) (by simp)
  have shok : SharesOk B6 sh := ⟨fun s hs => by obtain ⟨b1, b2, b3, b4⟩ := hsh s hs; exact ⟨by show -(2 ^ 60) ≤ s.2; omega, by show s.2 ≤ 2 ^ 60; omega⟩, by omega⟩
  refine do_seq (do_asg (d := totD (some t)) ((ev_call (true, st, sh, n) (by walk_at "ea") ⟨gok, shok, by show n ≤ 1000; omega⟩).to (by show totD (sharesSum st sh (List.replicate n 0, 0)) = _; rw [ht])) ?_)
  obtain ⟨te, tb⟩ := t
  have htl : te.length = n := htl
  have sh2 : SharesOk 100 (sh ++ [((st.length : Int), 1)]) := ⟨fun s hs => by
    rcases List.mem_append.mp hs with hs | hs
    · obtain ⟨b1, b2, b3, b4⟩ := hsh s hs
      constructor <;> omega
    · rw [List.mem_singleton.mp hs]
      exact ⟨by show (-100 : Int) ≤ 1; decide, by show (1 : Int) ≤ 100; decide⟩, by simp; omega⟩
  refine do_seq (do_asgP (evp_call (c3, (st.length : Int) + 1, n, sh ++ [((st.length : Int), 1)]) (ea_cons (ecell 3 c3 rfl rfl) (ea_cons (by walk_at "ev") (ea_cons (by walk_at "ev") (ea_cons (EvN.dt ((evn_op (x := .lst (sh.map shD)) (y := .lst [shD ((st.length : Int), 1)]) (ev_var rfl) (by walk_at "ev") (on_cat (by simp; omega))).to (by simp))) ea_nil)))) ⟨h2, sh2⟩) ?_)
  rintro d ⟨p, rfl, hp1, hp2⟩
  show Do K _ [.fz cl, .fz (.int n), .fz (.int many), .fz (.int big), .fz (.tup (bs.map boundD)), .fz (tupI spot), .fz (rowsL qs), .fz (lstI sl), t8, s9, s10, .fz (rowsL st), .fz (lstI ws), .fz (.lst (sh.map shD)), t14, .fz (lstI (te ++ [tb])), .fz (linesL p), .no, .no] _
  have hcut : ∀ {ρ : List Sl}, ρ[15]? = some (.fz (lstI (te ++ [tb]))) → ρ[1]? = some (.fz (.int n)) → EvD K (tSl (rSlA2 K) (tVar 15) tNoPart (tPart (tVar 1))) ρ (lstI te) := fun e1 e2 =>
    (EvN.to (evn_sl (ev_var e1) eo_none (eo_some (ev_var e2))) (by rw [cut_pre10 _ n (by simp; omega), List.map_append, ← htl, ← List.length_map (f := Dt.int), List.take_left])).dt
  refine do_seq (do_asg (d := tupI (negV te)) (ev_cb (ea_cons (EvN.dt (ds := (negV te).map Dt.int) ?_) ea_nil) cb_tupL) ?_)
  · have e : (te.map fun y => Dt.int (-y)) = (negV te).map Dt.int := by
      unfold negV
      rw [List.map_map]
      rfl
    rw [← e]
    exact evn_map (g := Dt.int) (fun y => Dt.int (-y)) te (ei_seq (hcut rfl rfl)) (by omega) fun j y hy => ⟨_, _, g_name, by simp, by walk_at "ev"⟩
  refine do_ret (d := .tup [planD ⟨bs, qs, negV te⟩, partsD spot (List.replicate n 0) p]) (ev_tup (ea_cons (ev_tup (ea_cons (ev_var rfl) (ea_cons (ev_cb (ea_cons (ev_var rfl) ea_nil) cb_tupL) (ea_cons (ev_var rfl) ea_nil)))) (ea_cons (ev_tup (ea_cons (ev_var rfl) (ea_cons (ev_cb (ea_cons (rep10 0 (by omega) (ev_var rfl)) ea_nil) cb_tupL) (ea_cons (ev_var rfl) ea_nil)))) ea_nil))) ?_
  refine ⟨_, _, _, _, rfl, ⟨h2, hbl, by show (negV te).length = n; unfold negV; simpa using htl, by show qs.length ≤ 60; omega, hqo⟩, ⟨by omega, fun x hx => ?_⟩, ⟨by simp; omega, fun x hx => ?_⟩, hp2, by omega, by omega, by simp; omega⟩
  · obtain ⟨q1, q2⟩ := hso x hx
    constructor <;> omega
  · rw [List.eq_of_mem_replicate hx]
    constructor <;> decide

theorem ok_l_endless_built {a : Addr} {fd : FuncData} (F : Fun K "_law_endless_built" "_law_endless_built" s_l_endless_built a fd) (T : Tx mg) (D_l_bounds : Def P w K mg base 2 "_law_bounds" P_l_bounds (sp_l_bounds K)) (D_l_draws : Def P w K mg base 1 "_law_draws" P_l_draws (sp_l_draws K)) (D_l_left : Def P w K mg base 1 "_law_left" P_l_left (sp_l_left K)) (D_l_rows : Def P w K mg base 2 "_law_rows" P_l_rows (sp_l_rows K)) (D_l_spot_in : Def P w K mg base 2 "_law_spot_in" P_l_spot_in (sp_l_spot_in K)) : FnOk P w K mg base CX0 3 a fd P_l_endless_built (sp_l_endless_built K) := by
  refine F.ok sc_l_endless_built (fun vs H Q E h => sp_len (n := 4) (fun _ => rfl) vs H Q E h) (fun cdv A outer s H vs Q E hr h => ?_)
  refine ⟨_, (pss_cons (ps_set (i := 4) sc_l_endless_built.nd rfl (Or.inr rfl) (pe_def D_l_bounds hr (by rfl) (pa_cons (pe_ix (ix_k K) (pv 0) pe_int (fun _ _ => rfl)) (pa_cons (pv 1) pa_nil))))
      (pss_cons (ps_set (i := 5) sc_l_endless_built.nd rfl (Or.inl rfl) (pe_def D_l_spot_in hr (by rfl) (pa_cons (pe_ix (ix_k K) (pv 0) pe_int (fun _ _ => rfl)) (pa_cons (pv 4) pa_nil))))
      (pss_cons (ps_set (i := 6) sc_l_endless_built.nd rfl (Or.inr rfl) (pe_def D_l_draws hr (by rfl) (pa_cons (pe_ix (ix_k K) (pv 0) pe_int (fun _ _ => rfl)) (pa_cons pe_int (pa_cons (pe_op (add_k K) (pe_op op_mulA (pe_lst (pa_cons pe_int pa_nil)) (pv 2)) (pe_op op_mulA (pe_lst (pa_cons pe_int pa_nil)) (pv 1))) pa_nil)))))
      (pss_cons (ps_set (i := 7) sc_l_endless_built.nd rfl (Or.inl rfl) (pe_callTy (tuple_k K) (by rfl) T.tuple bt_tuple (pa_cons (pe_lc (own := [("_law_k", 13)]) rfl sc_l_endless_built.nd (pi_range1 (by rfl) T.range (pa_cons (pv 1) pa_nil)) (blkOk_by (own := [("_law_k", 13)]) (N := N_l_endless_built) (sc := defScope s_l_endless_built) (by decide +kernel)) (fun _ _ _ _ _ => (pg_name (i := 13) sc_l_endless_built.nd rfl (Or.inl rfl))) (fun _ _ _ _ _ => pts_nil) (fun _ _ _ _ _ => (pe_op op_mulA (pe_ix (ix_k K) (pv 6) (pe_op (add_k K) (pv 2) (pv 13)) (fun _ _ => rfl)) (pe_callTy int_k (by rfl) T.int bt_int (pa_cons (pe_cmpR op_isN1 (pe_ix (ix_k K) (pe_ix (ix_k K) (pv 4) (pv 13) (fun _ _ => rfl)) pe_int (fun _ _ => rfl)) pe_non (nomark _)) pa_nil))))) pa_nil)))
      (pss_cons (ps_set (i := 8) sc_l_endless_built.nd rfl (Or.inl rfl) (pe_lst pa_nil))
      (pss_cons (ps_for PassesOwn.never rfl (seq_k K (pe_def D_l_rows hr (by rfl) (pa_cons (pe_ix (ix_k K) (pv 0) pe_int (fun _ _ => rfl)) (pa_cons pe_int (pa_cons (pv 1) (pa_cons (pe_op (add_k K) (pv 2) pe_int) (pa_cons (pv 3) pa_nil))))))) (tup_k K (n := 2) (pgs_cons (pg_name (i := 9) sc_l_endless_built.nd rfl (Or.inl rfl)) (pgs_cons (pg_name (i := 10) sc_l_endless_built.nd rfl (Or.inl rfl)) pgs_nil))) (pss_cons (ps_if (pt_cmpR op_lt (pe_def D_l_left hr (by rfl) (pa_cons (pv 9) (pa_cons (pv 7) pa_nil))) pe_int (nomark _)) (pss_one (ps_set (i := 9) sc_l_endless_built.nd rfl (Or.inl rfl) (pe_callTy (tuple_k K) (by rfl) T.tuple bt_tuple (pa_cons (pe_lc (own := [("_law_one", 14)]) rfl sc_l_endless_built.nd (seq_k K (pv 9)) (blkOk_by (own := [("_law_one", 14)]) (N := N_l_endless_built) (sc := defScope s_l_endless_built) (by decide +kernel)) (fun _ _ _ _ _ => (pg_name (i := 14) sc_l_endless_built.nd rfl (Or.inl rfl))) (fun _ _ _ _ _ => pts_nil) (fun _ _ _ _ _ => (pe_un un_neg (pv 14)))) pa_nil)))) pss_nil)
      (pss_one (ps_expr (app_k K (pv 8) (pv 9))))))
      (pss_cons (ps_set (i := 11) sc_l_endless_built.nd rfl (Or.inl rfl) (pe_lst pa_nil))
      (pss_cons (ps_for PassesOwn.never rfl (zip_k K (by rfl) T.zip (pa_cons (pe_slice (sl_k K) (pv 8) po_none (po_some (pv 2))) (pa_cons (pv 6) pa_nil))) (tup_k K (n := 2) (pgs_cons (pg_name (i := 9) sc_l_endless_built.nd rfl (Or.inl rfl)) (pgs_cons (pg_name (i := 12) sc_l_endless_built.nd rfl (Or.inl rfl)) pgs_nil))) (pss_one (ps_expr (app_k K (pv 11) (pe_tup (pa_cons (pv 9) (pa_cons (pe_op op_sub (pe_def D_l_left hr (by rfl) (pa_cons (pv 9) (pa_cons (pv 5) pa_nil))) (pe_callB max_k (by rfl) T.max bt_max (pa_cons pe_int (pa_cons (pe_op op_sub (pv 12) pe_int) pa_nil)))) pa_nil)))))))
      (pss_one (ps_ret (pe_tup (pa_cons (pe_tup (pa_cons (pv 4) (pa_cons (pe_callTy (tuple_k K) (by rfl) T.tuple bt_tuple (pa_cons (pv 11) pa_nil)) (pa_cons (pe_ix (ix_k K) (pv 8) (pv 2) (fun _ _ => rfl)) pa_nil)))) (pa_cons (pe_tup (pa_cons (pv 5) (pa_cons (pv 7) (pa_cons (pe_lst pa_nil) pa_nil)))) pa_nil))))))))))))), fn_do (N := N_l_endless_built) (fun x hx => ?_) h⟩
  obtain ⟨cells, n, many, big⟩ := x
  obtain ⟨h1, h2, h3, h4, h5⟩ := hx
  obtain ⟨c0, c1, c2, c3, c4, c5, rfl⟩ := six10 cells h1
  have h2 : n ≤ 8 := h2
  have h3 : many ≤ 4 := h3
  have h4 : 1 ≤ big := h4
  have h5 : big ≤ 1000000000 := h5
  show Do K _ [.fz (.lst [.int c0, .int c1, .int c2, .int c3, .int c4, .int c5]), .fz (.int n), .fz (.int many), .fz (.int big), .no, .no, .no, .no, .no, .no, .no, .no, .no, .no, .no] (ends fun d => BuiltOk n d)
  generalize hcl : Dt.lst [.int c0, .int c1, .int c2, .int c3, .int c4, .int c5] = cl
  have ecell : ∀ {ρ : List Sl} (i v : Int), ρ[0]? = some (.fz cl) → atI [Dt.int c0, Dt.int c1, Dt.int c2, Dt.int c3, Dt.int c4, Dt.int c5] i = some (.int v) → EvD K (tOp (rIx K) (tVar 0) (tC (.int i))) ρ (.int v) := fun i v e1 e2 =>
    ev_op (ev_var e1) ev_int (by rw [← hcl]; exact od_ixL e2)
  refine do_seq (do_asgP (evp_call (c0, n) (ea_cons (ecell 0 c0 rfl rfl) (by walk_at "ea")) h2) ?_)
  rintro d ⟨bs, rfl, hbl, hbo⟩
  have hbl : bs.length = n := hbl
  refine do_seq (do_asgP (evp_call (c5, bs) (ea_cons (ecell 5 c5 rfl rfl) (ea_cons (ev_var rfl) ea_nil)) ⟨by show bs.length ≤ 8; omega, hbo⟩) ?_)
  rintro d ⟨spot, rfl, hsl, hso⟩
  have hsl : spot.length = bs.length := hsl
  have hsn : spot.length = n := by omega
  have hs6 := spot6 hso
  refine do_seq (do_asgP (evp_call (c2, 36, List.replicate many 5 ++ List.replicate n 4) (ea_cons (ecell 2 c2 rfl rfl) (ea_cons ev_int (ea_cons (EvN.dt ((evn_op (x := lstI (List.replicate many 5)) (y := lstI (List.replicate n 4)) (rep10 5 (by omega) (ev_var rfl)) (rep10 4 (by omega) (ev_var rfl)) (on_cat (by simp; omega))).to (by simp))) ea_nil))) ⟨smk 36 (by decide), by simp; omega, fun s hs => ?_⟩) ?_)
  · rcases List.mem_append.mp (show s ∈ List.replicate many (5 : Int) ++ List.replicate n 4 from hs) with hs | hs
    · rw [List.eq_of_mem_replicate hs]; decide
    · rw [List.eq_of_mem_replicate hs]; decide
  rintro d ⟨ns, rfl, hnd⟩
  have hnl : ns.length = many + n := by simpa using hnd.1
  have hna := drawn10 (M := 5) hnd (fun s hs => by
    rcases List.mem_append.mp (show s ∈ List.replicate many (5 : Int) ++ List.replicate n 4 from hs) with hs | hs
    · rw [List.eq_of_mem_replicate hs]; decide
    · rw [List.eq_of_mem_replicate hs]; decide)
  clear hnd
  show Do K _ [.fz cl, .fz (.int n), .fz (.int many), .fz (.int big), .fz (.tup (bs.map boundD)), .fz (tupI spot), .fz (lstI ns), .no, .no, .no, .no, .no, .no, .no, .no] _
  have eray : EvP K (tCB (rTupS K) (tCons (tLc (iRng1 (tCons (tVar 1) tNil)) (gName 13) tYes (tOp rMulA (tOp (rIx K) (tVar 6) (tOp (rAddA K) (tVar 2) (tVar 13))) (tCB rInt1 (tCons (tOp rIsN (tOp (rIx K) (tOp (rIx K) (tVar 4) (tVar 13)) (tC (.int 1))) (tC .non)) tNil))) [13]) tNil))
      [.fz cl, .fz (.int n), .fz (.int many), .fz (.int big), .fz (.tup (bs.map boundD)), .fz (tupI spot), .fz (lstI ns), .no, .no, .no, .no, .no, .no, .no, .no] (fun d => ∃ r : List Int, d = tupI r ∧ r.length = n ∧ ∀ y ∈ r, Sm 100 y) := by
    refine evp_cb (eap_cons (EvNP.dt (evnp_lc (Src := fun es => es = rangeD 0 (n : Int).toNat) (R := fun es => ∃ r : List Int, es = r.map Dt.int ∧ r.length = n ∧ ∀ y ∈ r, Sm 100 y) ((ei_range1 (by walk_at "ea") (by omega)).p rfl) fun es e => ?_)) (ea_nil.p (P := fun xs => xs = []) rfl)) ?_
    · subst e
      refine ⟨by rw [rangeD_len]; omega, fun i acc => ∃ r : List Int, acc = r.map Dt.int ∧ r.length = i ∧ ∀ y ∈ r, Sm 100 y, ⟨[], rfl, rfl, fun y hy => by simp at hy⟩, fun i d acc hd hacc => ?_, fun acc hacc => ?_⟩
      · obtain ⟨hi, rfl⟩ := rangeD_get hd
        have hi : i < n := by omega
        obtain ⟨r, rfl, hr1, hr2⟩ := hacc
        rw [Int.zero_add]
        obtain ⟨v, hv, hvm⟩ := at_ns10 ns ((many : Int) + (i : Int)) (by omega) (by omega)
        have hv5 := hna v hvm
        have hb : atI (bs.map boundD) (i : Int) = some (boundD (bs[i]'(by omega))) := at_nat (j := i) rfl (by rw [List.getElem?_map, List.getElem?_eq_getElem (show i < bs.length by omega)]; rfl)
        generalize bs[i]'(by omega) = b at hb
        have hm : CMul v (if (optD b.2).isNon = true then 1 else 0) := .inr (by split <;> omega)
        refine ⟨_, _, g_name, by simp, .inl ⟨et_yes, EvD.p (d := .int (v * (if (optD b.2).isNon = true then 1 else 0))) (by walk_at "ev") ⟨r ++ [v * (if (optD b.2).isNon = true then 1 else 0)], by simp, by simp [hr1], fun y hy => ?_⟩⟩⟩
        rcases List.mem_append.mp hy with hy | hy
        · exact hr2 y hy
        · rw [List.mem_singleton.mp hy]
          split <;> constructor <;> omega
      · obtain ⟨r, hr1, hr2, hr3⟩ := hacc
        exact ⟨r, hr1, by rw [hr2, rangeD_len, toNat_nat], hr3⟩
    · rintro ds ⟨d, ds', rfl, ⟨es, rfl, r, rfl, hr2, hr3⟩, rfl⟩
      exact ⟨tupI r, cb_tupL, r, rfl, hr2, hr3⟩
  refine do_seq (do_asgP eray ?_)
  rintro d ⟨ray, rfl, hrl, hro⟩
  have hr6 := spot6 hro
  clear eray
  refine do_seq (do_asgN (by walk_at "en") ?_)
  show Do K _ [.fz cl, .fz (.int n), .fz (.int many), .fz (.int big), .fz (.tup (bs.map boundD)), .fz (tupI spot), .fz (lstI ns), .fz (tupI ray), .mt [], .no, .no, .no, .no, .no, .no] _
  refine do_seq (do_forP (eip_seq (evp_call (c1, 37, n, many + 1, big) (ea_cons (ecell 1 c1 rfl rfl) (ea_cons ev_int (ea_cons (ev_var rfl) (ea_cons (d := .int ((many + 1 : Nat) : Int)) ((ev_op (ev_var rfl) ev_int od_add).to (by simp)) (ea_cons (ev_var rfl) ea_nil))))) ⟨smk 37 (by decide), h2, by show many + 1 ≤ 5; omega, h4, h5⟩) (fun x ⟨rs, e, _⟩ => ⟨rs.map rowD, by rw [e]; rfl⟩)) ?_)
  rintro ds ⟨x, ⟨rs, e, hrsl, hrso⟩, hit⟩
  subst e
  have hit : rs.map rowD = ds := Option.some.inj hit
  subst hit
  have hrsl : rs.length = many + 1 := hrsl
  have hrso : RowsOk n rs := hrso
  refine ⟨fun i ρ => ∃ (ls : List (List Int)) (s9 s10 : Sl), ls.length = i ∧ (∀ l ∈ ls, l.length = n) ∧ ρ = [.fz cl, .fz (.int n), .fz (.int many), .fz (.int big), .fz (.tup (bs.map boundD)), .fz (tupI spot), .fz (lstI ns), .fz (tupI ray), .mt (ls.map tupI), s9, s10, .no, .no, .no, .no], ⟨[], _, _, rfl, fun l hl => by simp at hl, rfl⟩, ?_, ?_⟩
  · rintro i d ρ' hd ⟨ls, s9, s10, hll, hlo, rfl⟩
    rw [List.getElem?_map] at hd
    obtain ⟨r, hr, rfl⟩ := Option.map_eq_some_iff.mp hd
    have hrn := hrso r (List.mem_of_getElem? hr)
    have hi := (List.getElem?_eq_some_iff.mp hr).1
    refine ⟨_, _, g_tup (gs_cons g_name (gs_cons g_name gs_nil)), ?_⟩
    show Do K _ [.fz cl, .fz (.int n), .fz (.int many), .fz (.int big), .fz (.tup (bs.map boundD)), .fz (tupI spot), .fz (lstI ns), .fz (tupI ray), .mt (ls.map tupI), .fz (tupI r.1), .fz (.int r.2), .no, .no, .no, .no] _
    refine do_cut (fun ρ => ∃ l : List Int, l.length = n ∧ ρ = [.fz cl, .fz (.int n), .fz (.int many), .fz (.int big), .fz (.tup (bs.map boundD)), .fz (tupI spot), .fz (lstI ns), .fz (tupI ray), .mt (ls.map tupI), .fz (tupI l), .fz (.int r.2), .no, .no, .no, .no]) ?_ ?_
    · refine do_if (b := decide (dot r.1 ray < 0)) (et_cmp (ev_op (ev_call (r.1, ray) (by walk_at "ea") ⟨by show r.1.length = ray.length; omega, by show r.1.length ≤ 1000; omega, hr6⟩) ev_int od_lt)) (fun _ => ?_) (fun _ => do_next ⟨r.1, hrn, rfl⟩)
      refine do_asg (d := tupI (negV r.1)) (ev_cb (ea_cons (EvN.dt (ds := (negV r.1).map Dt.int) ?_) ea_nil) cb_tupL) ⟨negV r.1, by unfold negV; simpa using hrn, rfl⟩
      have e : (r.1.map fun y => Dt.int (-y)) = (negV r.1).map Dt.int := by
        unfold negV
        rw [List.map_map]
        rfl
      rw [← e]
      exact evn_map (g := Dt.int) (fun y => Dt.int (-y)) r.1 (ei_seq (by walk_at "ev")) (by omega) fun j y hy => ⟨_, _, g_name, by simp, by walk_at "ev"⟩
    · rintro ρ' ⟨l, hl, rfl⟩
      refine do_app (d := tupI l) rfl (ev_var rfl) (by simp; omega) ?_
      refine ⟨ls ++ [l], .fz (tupI l), .fz (.int r.2), by simp [hll], fun q hq => ?_, by rw [List.map_append]; rfl⟩
      rcases List.mem_append.mp hq with hq | hq
      · exact hlo q hq
      · rw [List.mem_singleton.mp hq]
        exact hl
  rintro ρ' ⟨ls, s9, s10, hll, hlo, rfl⟩
  rw [List.length_map] at hll
  have hll : ls.length = many + 1 := by omega
  refine do_freeze (i := 8) rfl ?_
  refine do_seq (do_asgN (by walk_at "en") ?_)
  show Do K _ [.fz cl, .fz (.int n), .fz (.int many), .fz (.int big), .fz (.tup (bs.map boundD)), .fz (tupI spot), .fz (lstI ns), .fz (tupI ray), .fz (.lst (ls.map tupI)), s9, s10, .mt [], .no, .no, .no] _
  have ecut : EvD K (tSl (rSlA2 K) (tVar 8) tNoPart (tPart (tVar 2))) [.fz cl, .fz (.int n), .fz (.int many), .fz (.int big), .fz (.tup (bs.map boundD)), .fz (tupI spot), .fz (lstI ns), .fz (tupI ray), .fz (.lst (ls.map tupI)), s9, s10, .mt [], .no, .no, .no] (.lst ((ls.take many).map tupI)) :=
    (EvN.to (evn_sl (ev_var rfl) eo_none (eo_some (ev_var rfl))) (by rw [cut_pre10 _ many (by simp; omega), List.map_take])).dt
  refine do_seq (do_for (ds := zipD ((ls.take many).map tupI) (ns.map Dt.int)) (ei_zipA (ea_cons ecut (ea_cons (ev_var rfl) ea_nil))) (fun i ρ => ∃ qs t9 t12, qs.length = i ∧ RowsOk n qs ∧ ρ = [.fz cl, .fz (.int n), .fz (.int many), .fz (.int big), .fz (.tup (bs.map boundD)), .fz (tupI spot), .fz (lstI ns), .fz (tupI ray), .fz (.lst (ls.map tupI)), t9, s10, .mt (qs.map rowD), t12, .no, .no]) ⟨[], _, _, rfl, fun r hr => by simp at hr, rfl⟩ ?_ ?_)
  · rintro i d ρ' hd ⟨qs, t9, t12, hql, hqo, rfl⟩
    obtain ⟨d1, d2, e1, e2, rfl⟩ := zipD_get hd
    rw [List.getElem?_map] at e1 e2
    obtain ⟨l, hl, rfl⟩ := Option.map_eq_some_iff.mp e1
    obtain ⟨v, hv, rfl⟩ := Option.map_eq_some_iff.mp e2
    have hln := hlo l (List.mem_of_mem_take (List.mem_of_getElem? hl))
    have hi := (List.getElem?_eq_some_iff.mp hv).1
    refine ⟨_, _, g_tup (gs_cons g_name (gs_cons g_name gs_nil)), ?_⟩
    show Do K _ [.fz cl, .fz (.int n), .fz (.int many), .fz (.int big), .fz (.tup (bs.map boundD)), .fz (tupI spot), .fz (lstI ns), .fz (tupI ray), .fz (.lst (ls.map tupI)), .fz (tupI l), s10, .mt (qs.map rowD), .fz (.int v), .no, .no] _
    generalize hb : dot l spot - (if v - 2 > 0 then v - 2 else 0) = b
    refine do_app (d := rowD (l, b)) rfl (ev_tup (ea_cons (ev_var rfl) (ea_cons (EvD.to (d := .int (dot l spot - (if v - 2 > 0 then v - 2 else 0))) (ev_op (ev_call (l, spot) (by walk_at "ea") ⟨by show l.length = spot.length; omega, by show l.length ≤ 1000; omega, hs6⟩) (by walk_at "ev") od_sub) (by rw [hb])) ea_nil))) (by simp; omega) ?_
    exact ⟨qs ++ [(l, b)], .fz (tupI l), .fz (.int v), by simp [hql], rows_app hqo hln, by rw [List.map_append]; rfl⟩
  rintro ρ' ⟨qs, t9, t12, hql, hqo, rfl⟩
  have hqm : qs.length ≤ 8 := by
    rw [hql, zipD_len, List.length_map, List.length_map]
    have : (ls.take many).length ≤ many := by rw [List.length_take]; omega
    omega
  have hgl : many < ls.length := by omega
  have hlg : atI (ls.map tupI) (many : Int) = some (tupI (ls[many]'hgl)) := at_nat (j := many) rfl (by rw [List.getElem?_map, List.getElem?_eq_getElem hgl]; rfl)
  have hgn := hlo _ (List.getElem_mem hgl)
  generalize ls[many]'hgl = goal at hlg hgn
  refine do_ret (d := .tup [planD ⟨bs, qs, goal⟩, partsD spot ray []]) (ev_tup (ea_cons (ev_tup (ea_cons (ev_var rfl) (ea_cons (ev_peek (i := 11) rfl (ev_cb (ea_cons (ev_var rfl) ea_nil) cb_tupL) (by simp only [Dt.imm, imm_rows])) (ea_cons (ev_op (x := .lst (ls.map tupI)) (ev_var rfl) (ev_var rfl) (od_ixL hlg)) ea_nil)))) (ea_cons (ev_tup (ea_cons (ev_var rfl) (ea_cons (ev_var rfl) (ea_cons (d := linesL []) (EvN.dt (evn_lst ea_nil)) ea_nil)))) ea_nil))) ?_
  refine ⟨⟨bs, qs, goal⟩, spot, ray, [], rfl, ⟨h2, hbl, hgn, by show qs.length ≤ 60; omega, hqo⟩, ⟨by omega, fun x hx => ?_⟩, ⟨by omega, fun x hx => ?_⟩, ⟨by simp, fun l hl => by simp at hl⟩, by simp, by omega, by omega⟩
  · obtain ⟨q1, q2⟩ := hso x hx
    constructor <;> omega
  · obtain ⟨q1, q2⟩ := hro x hx
    constructor <;> omega
end
end Cy
namespace Cy
open PySem PySem.Spec L2 Dr Dl
section
variable {P : Program} {w : World} {K : PySem.W.Frag} {mg : Str → Option Value} {base : Heap}

local macro_rules | `(tactic| walk_at "od") => `(tactic| first
  | with_reducible exact od_add
  | with_reducible exact od_sub
  | with_reducible exact od_lt
  | with_reducible exact od_le
  | with_reducible exact od_gt
  | with_reducible exact od_ge
  | with_reducible exact od_eqI
  | with_reducible exact od_neI
  | with_reducible exact od_eqS
  | with_reducible exact od_eqB
  | with_reducible exact od_isN
  | with_reducible exact od_notN
  | ((with_reducible refine' od_mul ?k1); (case k1 => (first | assumption | exact Or.inl (by omega) | exact Or.inr (by omega))))
  | with_reducible exact od_pow cpow10
  | ((with_reducible refine' od_mod ?k1); (case k1 => (first | assumption | omega)))
  | ((with_reducible refine' od_div ?k1 ?k2); (case k1 => (first | assumption | omega)); (case k2 => (first | assumption | omega)))
  | ((with_reducible refine' od_ixT ?k1); (case k1 => (first | assumption | rfl)))
  | ((with_reducible refine' od_ixL ?k1); (case k1 => (first | assumption | rfl)))
  | ((with_reducible refine' od_ixS ?k1); (case k1 => (first | assumption | rfl)))
  | ((with_reducible refine' od_catT ?k1); (case k1 => (first | assumption | (simp; omega)))))
local macro_rules | `(tactic| walk_at "cb") => `(tactic| first
  | with_reducible exact cb_lenTm
  | with_reducible exact cb_lenLm
  | with_reducible exact cb_lenT
  | with_reducible exact cb_lenL
  | with_reducible exact cb_lenS
  | with_reducible exact cb_tupL
  | with_reducible exact cb_tupT
  | with_reducible exact cb_sum
  | with_reducible exact cb_all
  | with_reducible exact cb_any
  | with_reducible exact cb_abs
  | with_reducible exact cb_max
  | with_reducible exact cb_min
  | with_reducible exact cb_intB)
local macro_rules | `(tactic| walk_at "ev") => `(tactic| first
  | ((with_reducible refine' ev_var ?k1); (case k1 => rfl))
  | with_reducible exact ev_int
  | with_reducible exact ev_non
  | with_reducible exact ev_str
  | with_reducible exact ev_bl
  | ((with_reducible refine' ev_op ?k1 ?k2 ?k3); (case k1 => walk_at "ev"); (case k2 => walk_at "ev"); (case k3 => walk_at "od"))
  | ((with_reducible refine' ev_un ?k1 ud_neg); (case k1 => walk_at "ev"))
  | ((with_reducible refine' ev_tup ?k1 ?k2); (case k1 => walk_at "ea"); (case k2 => (first | (simp; done) | (simp; omega))))
  | ((with_reducible refine' ev_cb ?k1 ?k2); (case k1 => walk_at "ea"); (case k2 => walk_at "cb"))
  | ((with_reducible refine' ev_slT ?k1 ?k2 ?k3); (case k1 => walk_at "ev"); (case k2 => walk_at "eo"); (case k3 => walk_at "eo"))
  | ((with_reducible refine' EvN.dt ?k1); (case k1 => walk_at "en")))
local macro_rules | `(tactic| walk_at "eo") => `(tactic| first
  | with_reducible exact eo_none
  | ((with_reducible refine' eo_some ?k1); (case k1 => walk_at "ev")))
local macro_rules | `(tactic| walk_at "ea") => `(tactic| first
  | with_reducible exact ea_nil
  | ((with_reducible refine' ea_cons ?k1 ?k2); (case k1 => walk_at "ev"); (case k2 => walk_at "ea")))
local macro_rules | `(tactic| walk_at "en") => `(tactic| first
  | ((with_reducible refine' evn_lst ?k1 ?k2); (case k1 => walk_at "ea"); (case k2 => (first | (simp; done) | (simp; omega))))
  | ((with_reducible refine' evn_op ?k1 ?k2 (on_cat ?k3)); (case k1 => walk_at "ev"); (case k2 => walk_at "ev"); (case k3 => (first | assumption | (simp; omega))))
  | ((with_reducible refine' evn_op ?k1 ?k2 (on_rep ?k3 ?k4)); (case k1 => walk_at "ev"); (case k2 => walk_at "ev"); (case k3 => (first | assumption | (simp; omega))); (case k4 => (first | assumption | omega)))
  | ((with_reducible refine' evn_sl ?k1 ?k2 ?k3); (case k1 => walk_at "ev"); (case k2 => walk_at "eo"); (case k3 => walk_at "eo"))
  | ((with_reducible refine' evn_cb ?k1 cb_listL); (case k1 => walk_at "ea"))
  | ((with_reducible refine' evn_cb ?k1 cb_listT); (case k1 => walk_at "ea")))
local macro_rules | `(tactic| walk_at "et") => `(tactic| first
  | ((with_reducible refine' et_cmp ?k1); (case k1 => walk_at "ev"))
  | ((with_reducible refine' et_or ?k1 ?k2); (case k1 => walk_at "et"); (case k2 => (intro _; walk_at "et")))
  | ((with_reducible refine' et_and ?k1 ?k2); (case k1 => walk_at "et"); (case k2 => (intro _; walk_at "et")))
  | ((with_reducible refine' et_not ?k1); (case k1 => walk_at "et"))
  | ((with_reducible refine' et_trM ?k1); (case k1 => rfl))
  | ((with_reducible refine' et_trMs ?k1); (case k1 => rfl))
  | ((with_reducible refine' et_trB ?k1); (case k1 => walk_at "ev"))
  | ((with_reducible refine' et_trT ?k1); (case k1 => walk_at "ev"))
  | ((with_reducible refine' et_trL ?k1); (case k1 => walk_at "ev"))
  | ((with_reducible refine' et_trS ?k1); (case k1 => walk_at "ev")))

theorem six11 (l : List Int) (h : l.length = 6) : ∃ a b c d e f, l = [a, b, c, d, e, f] := by
  match l, h with
  | [a, b, c, d, e, f], _ => exact ⟨a, b, c, d, e, f, rfl⟩
theorem cut_pre11 {α : Type} (xs : List α) (b : Nat) (h2 : b ≤ xs.length) : cut xs none (some (b : Int)) = xs.take b := by
  unfold cut
  rw [HT.sIx_none, HT.sIx_nat, Nat.min_eq_left h2]
  simp
theorem cut_len11 {α : Type} (xs : List α) (lo hi : Option Int) : (cut xs lo hi).length ≤ xs.length := by
  unfold cut
  rw [List.length_take, List.length_drop]
  omega
theorem cut_mem11 {α : Type} {xs : List α} {lo hi : Option Int} {x : α} (h : x ∈ cut xs lo hi) : x ∈ xs := by
  unfold cut at h
  exact List.mem_of_mem_drop (List.mem_of_mem_take h)
theorem cut_map11 {α β : Type} (f : α → β) (xs : List α) (lo hi : Option Int) : cut (xs.map f) lo hi = (cut xs lo hi).map f := by
  unfold cut
  rw [List.length_map, List.map_take, List.map_drop]
theorem drawn11 {sizes ns : List Int} {M : Int} (h : Drawn sizes ns) (hs : ∀ s ∈ sizes, s ≤ M) : ∀ x ∈ ns, 0 ≤ x ∧ x < M := fun x hx => by
  obtain ⟨i, hi⟩ := List.mem_iff_getElem?.mp hx
  have hlt := (List.getElem?_eq_some_iff.mp hi).1
  have hlt2 : i < sizes.length := by rw [← h.1]; exact hlt
  have := h.2 i x _ hi (List.getElem?_eq_getElem hlt2)
  have := hs _ (List.getElem_mem hlt2)
  omega
theorem getD11 {ns : List Int} {M : Int} (hM : 0 < M) (h : ∀ x ∈ ns, 0 ≤ x ∧ x < M) (i : Nat) : 0 ≤ ns.getD i 0 ∧ ns.getD i 0 < M := by
  rw [List.getD_eq_getElem?_getD]
  cases e : ns[i]? with
  | none => exact ⟨Int.le_refl _, hM⟩
  | some v => exact h v (List.mem_of_getElem? e)
theorem at_get11 (ns : List Int) (i : Nat) (h : i < ns.length) : atI (ns.map Dt.int) (i : Int) = some (.int (ns.getD i 0)) := by
  have := at_map Dt.int ns (i : Int) 0 (by omega) (by omega)
  rwa [toNat_nat] at this
theorem rep11 {ρ : List Sl} (v : Int) {te : TE} {n : Nat} (hn : n ≤ 1000) (h : EvD K te ρ (.int n)) : EvD K (tOp rMulA (tLst (tCons (tC (.int v)) tNil)) te) ρ (lstI (List.replicate n v)) :=
  (EvN.to (ds := (List.replicate (n : Int).toNat [Dt.int v]).flatten) (evn_op (EvN.dt (evn_lst (ea_cons ev_int ea_nil))) h (on_rep ⟨by omega, by rw [toNat_nat]; simp; omega⟩ (by omega))) (by rw [toNat_nat, flat1]; simp)).dt
theorem cat11 {ρ : List Sl} {ta tb : TE} {as bs : List Int} (ha : EvD K ta ρ (lstI as)) (hb : EvD K tb ρ (lstI bs)) (hz : as.length + bs.length ≤ 100000) : EvD K (tOp (rAddA K) ta tb) ρ (lstI (as ++ bs)) :=
  (EvN.to (evn_op ha hb (on_cat (by simp; omega))) (by simp)).dt
theorem slc11 {ρ : List Sl} {te : TE} {tl th : TO} {lo hi : Option Int} {ns : List Int} (h : EvD K te ρ (lstI ns)) (h1 : EvO K tl ρ lo) (h2 : EvO K th ρ hi) : EvD K (tSl (rSlA2 K) te tl th) ρ (lstI (cut ns lo hi)) :=
  (EvN.to (evn_sl h h1 h2) (cut_map11 _ _ _ _)).dt
theorem map11 {ρ : List Sl} {wi : TI} {gt : TG} {te : TE} {vs : List Nat} (f : Int → Int) (ns : List Int) (hi : EvI K wi ρ (ns.map Dt.int)) (hz : ns.length ≤ 1000)
    (he : ∀ x, ∃ js ρ', EvG K gt (.int x) js (wipeS ρ vs) ρ' ∧ (∀ j ∈ js, j ∈ vs) ∧ EvD K te ρ' (.int (f x))) : EvD K (tLc wi gt tYes te vs) ρ (lstI (ns.map f)) :=
  (EvN.to (evn_map (g := Dt.int) (fun x => Dt.int (f x)) ns hi (by omega) fun _ x _ => he x) (by rw [List.map_map]; rfl)).dt
theorem ok_l_free_line {a : Addr} {fd : FuncData} (F : Fun K "_law_free_line" "_law_free_line" s_l_free_line a fd) (T : Tx mg) (D_l_draws : Def P w K mg base 1 "_law_draws" P_l_draws (sp_l_draws K)) : FnOk P w K mg base CX0 2 a fd P_l_free_line (sp_l_free_line K) := by
  refine F.ok sc_l_free_line (fun vs H Q E h => sp_len (n := 2) (fun _ => rfl) vs H Q E h) (fun cdv A outer s H vs Q E hr h => ?_)
  refine ⟨_, (pss_cons (ps_set (i := 2) sc_l_free_line.nd rfl (Or.inr rfl) (pe_def D_l_draws hr (by rfl) (pa_cons (pv 0) (pa_cons pe_int (pa_cons (pe_op (add_k K) (pe_op (add_k K) (pe_op (add_k K) (pe_op (add_k K) (pe_op (add_k K) (pe_lst (pa_cons pe_int (pa_cons pe_int pa_nil))) (pe_op op_mulA (pe_lst (pa_cons pe_int pa_nil)) pe_int)) (pe_op op_mulA (pe_lst (pa_cons pe_int pa_nil)) pe_int)) (pe_lst (pa_cons pe_int pa_nil))) (pe_op op_mulA (pe_lst (pa_cons pe_int pa_nil)) pe_int)) (pe_lst (pa_cons pe_int (pa_cons pe_int (pa_cons pe_int pa_nil))))) pa_nil)))))
      (pss_cons (ps_if (pt_cmpR op_eq (pe_ix (ix_k K) (pv 2) pe_int (fun _ _ => rfl)) pe_int (nomark _)) (pss_cons (ps_setLc (i := 3) (own := [("_law_k", 5)]) rfl sc_l_free_line.nd rfl rfl (sw_true rfl rfl rfl (by decide +kernel)) (pi_range1 (by rfl) T.range (pa_cons (pe_ix (ix_k K) (pv 2) pe_int (fun _ _ => rfl)) pa_nil)) (blkOk_by (own := [("_law_k", 5)]) (N := N_l_free_line) (sc := defScope s_l_free_line) (by decide +kernel)) (fun _ _ _ _ _ => (pg_name (i := 5) sc_l_free_line.nd rfl (Or.inl rfl))) (fun _ _ _ _ _ => pts_nil) (fun _ _ _ _ _ => (pe_tup (pa_cons (pe_op op_sub (pe_ix (ix_k K) (pv 2) (pe_op (add_k K) pe_int (pv 5)) (fun _ _ => rfl)) pe_int) (pa_cons (pe_op op_sub (pe_ix (ix_k K) (pv 2) (pe_op (add_k K) pe_int (pv 5)) (fun _ _ => rfl)) pe_int) pa_nil)))))
      (pss_one (ps_ret (pe_tup (pa_cons pe_str (pa_cons (pe_callTy (tuple_k K) (by rfl) T.tuple bt_tuple (pa_cons (pv 3) pa_nil)) (pa_cons (pe_ix (ix_k K) (pv 2) pe_int (fun _ _ => rfl)) pa_nil))))))) pss_nil)
      (pss_cons (ps_if (pt_cmpR op_eq (pe_ix (ix_k K) (pv 2) pe_int (fun _ _ => rfl)) pe_int (nomark _)) (pss_cons (ps_set (i := 4) sc_l_free_line.nd rfl (Or.inl rfl) (pv 1))
      (pss_cons (ps_if (pt_cmpR op_eq (pe_ix (ix_k K) (pv 2) pe_int (fun _ _ => rfl)) pe_int (nomark _)) (pss_one (ps_set (i := 4) sc_l_free_line.nd rfl (Or.inl rfl) (pe_op (add_k K) (pv 1) pe_int))) pss_nil)
      (pss_cons (ps_if (pt_cmpR op_eq (pe_ix (ix_k K) (pv 2) pe_int (fun _ _ => rfl)) pe_int (nomark _)) (pss_one (ps_set (i := 4) sc_l_free_line.nd rfl (Or.inl rfl) (pe_callB max_k (by rfl) T.max bt_max (pa_cons pe_int (pa_cons (pe_op op_sub (pv 1) pe_int) pa_nil))))) pss_nil)
      (pss_one (ps_ret (pe_tup (pa_cons pe_str (pa_cons (pe_callTy (tuple_k K) (by rfl) T.tuple bt_tuple (pa_cons (pe_lc (own := [("_law_one", 6)]) rfl sc_l_free_line.nd (seq_k K (pe_slice (sl_k K) (pv 2) (po_some pe_int) (po_some (pe_op (add_k K) pe_int (pv 4))))) (blkOk_by (own := [("_law_one", 6)]) (N := N_l_free_line) (sc := defScope s_l_free_line) (by decide +kernel)) (fun _ _ _ _ _ => (pg_name (i := 6) sc_l_free_line.nd rfl (Or.inl rfl))) (fun _ _ _ _ _ => pts_nil) (fun _ _ _ _ _ => (pe_op op_sub (pv 6) pe_int))) pa_nil)) (pa_cons (pe_op op_sub (pe_ix (ix_k K) (pv 2) pe_int (fun _ _ => rfl)) pe_int) pa_nil))))))))) pss_nil)
      (pss_one (ps_ret (pe_tup (pa_cons pe_str (pa_cons (pe_op op_sub (pe_ix (ix_k K) (pv 2) pe_int (fun _ _ => rfl)) pe_int) pa_nil)))))))), fn_do (N := N_l_free_line) (fun x hx => ?_) h⟩
  obtain ⟨c, n⟩ := x
  have hn : n ≤ 8 := hx
  show Do K _ [.fz (.int c), .fz (.int n), .no, .no, .no, .no, .no] (ends fun d => ∃ l, d = lineD l ∧ LineOk 1000 l)
  refine do_seq (do_asgP (evp_call (c, 9, [3, 4] ++ List.replicate 3 14 ++ List.replicate 3 5 ++ [5] ++ List.replicate 9 7 ++ [9, 14, 6]) (ea_cons (ev_var rfl) (ea_cons ev_int (ea_cons
    (cat11 (cat11 (cat11 (cat11 (cat11 (as := [3, 4]) (EvN.dt (evn_lst (ea_cons ev_int (ea_cons ev_int ea_nil)))) (rep11 14 (by decide) ev_int) (by decide)) (rep11 5 (by decide) ev_int) (by decide)) (bs := [5]) (EvN.dt (evn_lst (ea_cons ev_int ea_nil))) (by decide)) (rep11 7 (by decide) ev_int) (by decide)) (bs := [9, 14, 6]) (EvN.dt (evn_lst (ea_cons ev_int (ea_cons ev_int (ea_cons ev_int ea_nil))))) (by decide)) ea_nil))) ⟨smk 9 (by decide), by show ([3, 4] ++ List.replicate 3 (14 : Int) ++ List.replicate 3 5 ++ [5] ++ List.replicate 9 7 ++ [9, 14, 6]).length ≤ 1000; decide, by show ∀ s ∈ [3, 4] ++ List.replicate 3 (14 : Int) ++ List.replicate 3 5 ++ [5] ++ List.replicate 9 7 ++ [9, 14, 6], 0 < s ∧ s < 2 ^ 60; decide⟩) ?_)
  rintro d ⟨ns, rfl, hnd⟩
  have hl : ns.length = 21 := hnd.1
  have hall := getD11 (by decide) (drawn11 (sizes := [3, 4] ++ List.replicate 3 14 ++ List.replicate 3 5 ++ [5] ++ List.replicate 9 7 ++ [9, 14, 6]) (M := 14) hnd (by decide))
  clear hnd
  have hat := at_get11 ns
  have a0 : atI (ns.map Dt.int) 0 = some (.int (ns.getD 0 0)) := hat 0 (by omega)
  have a1 : atI (ns.map Dt.int) 1 = some (.int (ns.getD 1 0)) := hat 1 (by omega)
  have a8 : atI (ns.map Dt.int) 8 = some (.int (ns.getD 8 0)) := hat 8 (by omega)
  have a18 : atI (ns.map Dt.int) 18 = some (.int (ns.getD 18 0)) := hat 18 (by omega)
  have a19 : atI (ns.map Dt.int) 19 = some (.int (ns.getD 19 0)) := hat 19 (by omega)
  have a20 : atI (ns.map Dt.int) 20 = some (.int (ns.getD 20 0)) := hat 20 (by omega)
  show Do K _ [.fz (.int c), .fz (.int n), .fz (lstI ns), .no, .no, .no, .no] _
  refine do_seq (do_if (by walk_at "et") (fun _ => ?_) (fun _ => do_next ?_))
  · have h1 := hall 1
    generalize hG : ns.getD 1 0 = m at a1 h1
    have e : EvN K _ [.fz (.int c), .fz (.int n), .fz (lstI ns), .no, .no, .no, .no] (((List.range m.toNat).map fun i => (ns.getD (2 + i) 0 - 1, ns.getD (5 + i) 0 - 1)).map shD) :=
      EvN.to (evn_range (wi := iRng1 (tCons (tOp (rIx K) (tVar 2) (tC (.int 1))) tNil)) (vs := [5]) (gt := gName 5) (te := tTup (tCons (tOp (rI0 fun i j => .int (i - j)) (tOp (rIx K) (tVar 2) (tOp (rAddA K) (tC (.int 2)) (tVar 5))) (tC (.int 1))) (tCons (tOp (rI0 fun i j => .int (i - j)) (tOp (rIx K) (tVar 2) (tOp (rAddA K) (tC (.int 5)) (tVar 5))) (tC (.int 1))) tNil))) (fun i => shD (ns.getD (2 + i) 0 - 1, ns.getD (5 + i) 0 - 1)) (ei_range1 (n := m) (by walk_at "ea") (by omega)) (by omega) fun i hi => by
        have b1 : atI (ns.map Dt.int) (2 + (0 + (i : Int))) = some (.int (ns.getD (2 + i) 0)) := by
          have := hat (2 + i) (by omega)
          rwa [show ((2 + i : Nat) : Int) = 2 + (0 + (i : Int)) by omega] at this
        have b2 : atI (ns.map Dt.int) (5 + (0 + (i : Int))) = some (.int (ns.getD (5 + i) 0)) := by
          have := hat (5 + i) (by omega)
          rwa [show ((5 + i : Nat) : Int) = 5 + (0 + (i : Int)) by omega] at this
        exact ⟨_, _, g_name, by simp, by walk_at "ev"⟩) (by rw [List.map_map]; rfl)
    refine do_seq (do_asg e.dt ?_)
    refine do_ret (d := lineD (.cut ((List.range m.toNat).map fun i => (ns.getD (2 + i) 0 - 1, ns.getD (5 + i) 0 - 1)) (ns.getD 8 0))) (EvD.to (d := .tup [.str "cut", .tup (((List.range m.toNat).map fun i => (ns.getD (2 + i) 0 - 1, ns.getD (5 + i) 0 - 1)).map shD), .int (ns.getD 8 0)]) (by walk_at "ev") rfl) ⟨_, rfl, fun s hs => ?_, ?_, ?_⟩
    · obtain ⟨i, _, rfl⟩ := List.mem_map.mp hs
      have := hall (5 + i)
      show -1000 ≤ ns.getD (5 + i) 0 - 1 ∧ ns.getD (5 + i) 0 - 1 ≤ 1000
      omega
    · have := hall 8
      show -1000 ≤ ns.getD 8 0 ∧ ns.getD 8 0 ≤ 1000
      omega
    · simp
      omega
  · refine do_seq (do_if (by walk_at "et") (fun _ => ?_) (fun _ => do_next ?_))
    · refine do_seq (do_asg (by walk_at "ev") ?_)
      show Do K _ [.fz (.int c), .fz (.int n), .fz (lstI ns), .no, .fz (.int n), .no, .no] _
      refine do_cut (fun ρ => ∃ z : Int, ρ = [.fz (.int c), .fz (.int n), .fz (lstI ns), .no, .fz (.int z), .no, .no]) (do_if (by walk_at "et") (fun _ => do_asg (d := .int ((n : Int) + 1)) (by walk_at "ev") ⟨_, rfl⟩) (fun _ => do_next ⟨_, rfl⟩)) ?_
      rintro ρ' ⟨z, rfl⟩
      refine do_cut (fun ρ => ∃ z : Int, ρ = [.fz (.int c), .fz (.int n), .fz (lstI ns), .no, .fz (.int z), .no, .no]) (do_if (by walk_at "et") (fun _ => do_asg (d := .int (if (n : Int) - 1 > 0 then (n : Int) - 1 else 0)) (by walk_at "ev") ⟨_, rfl⟩) (fun _ => do_next ⟨_, rfl⟩)) ?_
      rintro ρ' ⟨z, rfl⟩
      have hcl := cut_len11 ns (some 9) (some (9 + z))
      refine do_ret (d := lineD (.choice ((cut ns (some 9) (some (9 + z))).map fun x => x - 3) (ns.getD 18 0 - 4))) (ev_tup (ea_cons ev_str (ea_cons (ev_cb (ea_cons (map11 (fun x => x - 3) (cut ns (some 9) (some (9 + z))) (ei_seq (slc11 (ev_var rfl) (eo_some ev_int) (eo_some (by walk_at "ev")))) (by omega) fun x => ⟨_, _, g_name, by simp, by walk_at "ev"⟩) ea_nil) cb_tupL) (by walk_at "ea")))) ⟨_, rfl, ?_⟩
      show (((cut ns (some 9) (some (9 + z))).map fun x => x - 3).length : Int) * 20 ≤ 1000
      rw [List.length_map]
      omega
    · exact do_ret (d := lineD (.shut (ns.getD 19 0 - 1))) (EvD.to (d := .tup [.str "shut", .int (ns.getD 19 0 - 1)]) (by walk_at "ev") rfl) ⟨_, rfl, trivial⟩

theorem ok_l_made {a : Addr} {fd : FuncData} (F : Fun K "_law_made" "_law_made" s_l_made a fd) (T : Tx mg) (D_l_best_built : Def P w K mg base 3 "_law_best_built" P_l_best_built (sp_l_best_built K)) (D_l_endless_built : Def P w K mg base 3 "_law_endless_built" P_l_endless_built (sp_l_endless_built K)) (D_l_none_built : Def P w K mg base 3 "_law_none_built" P_l_none_built (sp_l_none_built K)) (D_l_wild : Def P w K mg base 3 "_law_wild" P_l_wild (sp_l_wild K)) : FnOk P w K mg base CX0 4 a fd P_l_made (sp_l_made K) := by
  refine F.ok sc_l_made (fun vs H Q E h => sp_len (n := 6) (fun _ => rfl) vs H Q E h) (fun cdv A outer s H vs Q E hr h => ?_)
  refine ⟨_, (pss_cons (ps_if (tr_k K (pv 1)) (pss_one (ps_ret (pe_def D_l_wild hr (by rfl) (pa_cons (pv 2) (pa_cons (pv 3) (pa_cons (pv 4) (pa_cons (pv 5) pa_nil))))))) pss_nil)
      (pss_cons (ps_if (pt_cmpR op_eq (pv 0) pe_int (nomark _)) (pss_one (ps_ret (pe_def D_l_none_built hr (by rfl) (pa_cons (pv 2) (pa_cons (pv 3) (pa_cons (pv 4) (pa_cons (pv 5) pa_nil))))))) pss_nil)
      (pss_cons (ps_if (pt_cmpR op_eq (pv 0) pe_int (nomark _)) (pss_one (ps_ret (pe_def D_l_endless_built hr (by rfl) (pa_cons (pv 2) (pa_cons (pv 3) (pa_cons (pv 4) (pa_cons (pv 5) pa_nil))))))) pss_nil)
      (pss_one (ps_ret (pe_def D_l_best_built hr (by rfl) (pa_cons (pv 2) (pa_cons (pv 3) (pa_cons (pv 4) (pa_cons (pv 5) pa_nil)))))))))), fn_do (N := N_l_made) (fun x hx => ?_) h⟩
  obtain ⟨kind, wl, cells, n, many, big⟩ := x
  show Do K _ [.fz (.int kind), .fz (.bl wl), .fz (lstI cells), .fz (.int n), .fz (.int many), .fz (.int big)] (ends fun d => BuiltOk n d)
  refine do_seq (do_if (by walk_at "et") (fun _ => ?_) (fun _ => do_next ?_))
  · exact do_retP (evp_call (cells, n, many, big) (ea_cons (ev_var rfl) (ea_cons (ev_var rfl) (ea_cons (ev_var rfl) (ea_cons (ev_var rfl) ea_nil)))) hx) fun d h => h
  refine do_seq (do_if (by walk_at "et") (fun _ => ?_) (fun _ => do_next ?_))
  · exact do_retP (evp_call (cells, n, many, big) (ea_cons (ev_var rfl) (ea_cons (ev_var rfl) (ea_cons (ev_var rfl) (ea_cons (ev_var rfl) ea_nil)))) hx) fun d h => h
  refine do_seq (do_if (by walk_at "et") (fun _ => ?_) (fun _ => do_next ?_))
  · exact do_retP (evp_call (cells, n, many, big) (ea_cons (ev_var rfl) (ea_cons (ev_var rfl) (ea_cons (ev_var rfl) (ea_cons (ev_var rfl) ea_nil)))) hx) fun d h => h
  exact do_retP (evp_call (cells, n, many, big) (ea_cons (ev_var rfl) (ea_cons (ev_var rfl) (ea_cons (ev_var rfl) (ea_cons (ev_var rfl) ea_nil)))) hx) fun d h => h

theorem ok_l_wild {a : Addr} {fd : FuncData} (F : Fun K "_law_wild" "_law_wild" s_l_wild a fd) (T : Tx mg) (D_l_draws : Def P w K mg base 1 "_law_draws" P_l_draws (sp_l_draws K)) (D_l_free_line : Def P w K mg base 2 "_law_free_line" P_l_free_line (sp_l_free_line K)) (D_l_rows : Def P w K mg base 2 "_law_rows" P_l_rows (sp_l_rows K)) : FnOk P w K mg base CX0 3 a fd P_l_wild (sp_l_wild K) := by
  refine F.ok sc_l_wild (fun vs H Q E h => sp_len (n := 4) (fun _ => rfl) vs H Q E h) (fun cdv A outer s H vs Q E hr h => ?_)
  refine ⟨_, (pss_cons (ps_set (i := 4) sc_l_wild.nd rfl (Or.inl rfl) (pe_def D_l_draws hr (by rfl) (pa_cons (pe_ix (ix_k K) (pv 0) pe_int (fun _ _ => rfl)) (pa_cons pe_int (pa_cons (pe_op (add_k K) (pe_op (add_k K) (pe_op op_mulA (pe_lst (pa_cons pe_int (pa_cons pe_int pa_nil))) (pv 1)) (pe_op op_mulA (pe_lst (pa_cons pe_int pa_nil)) (pv 1))) (pe_op op_mulA (pe_lst (pa_cons pe_int pa_nil)) (pv 1))) pa_nil)))))
      (pss_cons (ps_set (i := 5) sc_l_wild.nd rfl (Or.inl rfl) (pe_lst pa_nil))
      (pss_cons (ps_for PassesOwn.never rfl (pi_range1 (by rfl) T.range (pa_cons (pv 1) pa_nil)) (pg_name (i := 6) sc_l_wild.nd rfl (Or.inl rfl)) (pss_cons (ps_set (i := 7) sc_l_wild.nd rfl (Or.inl rfl) (pe_op op_sub (pe_ix (ix_k K) (pv 4) (pe_op (add_k K) (pe_op op_mulA pe_int (pv 6)) pe_int) (fun _ _ => rfl)) pe_int))
      (pss_cons (ps_if (pt_cmpR op_gt (pv 7) pe_int (nomark _)) (pss_one (ps_set (i := 7) sc_l_wild.nd rfl (Or.inl rfl) pe_non)) pss_nil)
      (pss_one (ps_expr (app_k K (pv 5) (pe_tup (pa_cons (pe_op op_sub (pe_ix (ix_k K) (pv 4) (pe_op op_mulA pe_int (pv 6)) (fun _ _ => rfl)) pe_int) (pa_cons (pv 7) pa_nil)))))))))
      (pss_cons (ps_set (i := 8) sc_l_wild.nd rfl (Or.inl rfl) (pe_def D_l_rows hr (by rfl) (pa_cons (pe_ix (ix_k K) (pv 0) pe_int (fun _ _ => rfl)) (pa_cons pe_int (pa_cons (pv 1) (pa_cons (pe_op (add_k K) (pv 2) pe_int) (pa_cons (pv 3) pa_nil)))))))
      (pss_cons (ps_set (i := 9) sc_l_wild.nd rfl (Or.inl rfl) (pe_callTy (tuple_k K) (by rfl) T.tuple bt_tuple (pa_cons (pe_lc (own := [("_law_one", 12)]) rfl sc_l_wild.nd (seq_k K (pe_slice (sl_k K) (pv 4) (po_some (pe_op op_mulA pe_int (pv 1))) (po_some (pe_op op_mulA pe_int (pv 1))))) (blkOk_by (own := [("_law_one", 12)]) (N := N_l_wild) (sc := defScope s_l_wild) (by decide +kernel)) (fun _ _ _ _ _ => (pg_name (i := 12) sc_l_wild.nd rfl (Or.inl rfl))) (fun _ _ _ _ _ => pts_nil) (fun _ _ _ _ _ => (pe_op op_sub (pv 12) pe_int))) pa_nil)))
      (pss_cons (ps_set (i := 10) sc_l_wild.nd rfl (Or.inl rfl) (pe_callTy (tuple_k K) (by rfl) T.tuple bt_tuple (pa_cons (pe_lc (own := [("_law_one", 12)]) rfl sc_l_wild.nd (seq_k K (pe_slice (sl_k K) (pv 4) (po_some (pe_op op_mulA pe_int (pv 1))) po_none)) (blkOk_by (own := [("_law_one", 12)]) (N := N_l_wild) (sc := defScope s_l_wild) (by decide +kernel)) (fun _ _ _ _ _ => (pg_name (i := 12) sc_l_wild.nd rfl (Or.inl rfl))) (fun _ _ _ _ _ => pts_nil) (fun _ _ _ _ _ => (pe_op op_sub (pv 12) pe_int))) pa_nil)))
      (pss_cons (ps_setLc (i := 11) (own := [("_law_cell_here", 13)]) rfl sc_l_wild.nd rfl rfl (sw_true rfl rfl rfl (by decide +kernel)) (seq_k K (pe_slice (sl_k K) (pv 0) (po_some pe_int) po_none)) (blkOk_by (own := [("_law_cell_here", 13)]) (N := N_l_wild) (sc := defScope s_l_wild) (by decide +kernel)) (fun _ _ _ _ _ => (pg_name (i := 13) sc_l_wild.nd rfl (Or.inl rfl))) (fun _ _ _ _ _ => pts_nil) (fun _ _ _ _ _ => (pe_def D_l_free_line hr (by rfl) (pa_cons (pv 13) (pa_cons (pv 1) pa_nil)))))
      (pss_one (ps_ret (pe_tup (pa_cons (pe_tup (pa_cons (pe_callTy (tuple_k K) (by rfl) T.tuple bt_tuple (pa_cons (pv 5) pa_nil)) (pa_cons (pe_callTy (tuple_k K) (by rfl) T.tuple bt_tuple (pa_cons (pe_slice (sl_k K) (pv 8) po_none (po_some (pv 2))) pa_nil)) (pa_cons (pe_ix (ix_k K) (pe_ix (ix_k K) (pv 8) (pv 2) (fun _ _ => rfl)) pe_int (fun _ _ => rfl)) pa_nil)))) (pa_cons (pe_tup (pa_cons (pv 9) (pa_cons (pv 10) (pa_cons (pv 11) pa_nil)))) pa_nil)))))))))))), fn_do (N := N_l_wild) (fun x hx => ?_) h⟩
  obtain ⟨cells, n, many, big⟩ := x
  obtain ⟨h1, h2, h3, h4, h5⟩ := hx
  obtain ⟨c0, c1, c2, c3, c4, c5, rfl⟩ := six11 cells h1
  have h2 : n ≤ 8 := h2
  have h3 : many ≤ 4 := h3
  have h4 : 1 ≤ big := h4
  have h5 : big ≤ 1000000000 := h5
  show Do K _ [.fz (lstI [c0, c1, c2, c3, c4, c5]), .fz (.int n), .fz (.int many), .fz (.int big), .no, .no, .no, .no, .no, .no, .no, .no, .no, .no] (ends fun d => BuiltOk n d)
  have es : EvD K (tOp (rAddA K) (tOp (rAddA K) (tOp rMulA (tLst (tCons (tC (.int 7)) (tCons (tC (.int 9)) tNil))) (tVar 1)) (tOp rMulA (tLst (tCons (tC (.int 7)) tNil)) (tVar 1))) (tOp rMulA (tLst (tCons (tC (.int 5)) tNil)) (tVar 1)))
      [.fz (lstI [c0, c1, c2, c3, c4, c5]), .fz (.int n), .fz (.int many), .fz (.int big), .no, .no, .no, .no, .no, .no, .no, .no, .no, .no] (lstI ((List.replicate n [7, 9]).flatten ++ List.replicate n 7 ++ List.replicate n 5)) := by
    refine cat11 (cat11 (EvN.dt (EvN.to (ds := (List.replicate (n : Int).toNat [Dt.int 7, Dt.int 9]).flatten) (evn_op (EvN.dt (evn_lst (ea_cons ev_int (ea_cons ev_int ea_nil)))) (ev_var rfl) (on_rep ⟨by omega, ?_⟩ (by omega))) ?_)) (rep11 7 (by omega) (ev_var rfl)) ?_) (rep11 5 (by omega) (ev_var rfl)) ?_
    · rw [toNat_nat]; simp; omega
    · rw [toNat_nat]; simp [List.map_flatten]
    · simp; omega
    · simp; omega
  have hz : ∀ s ∈ (List.replicate n [(7 : Int), 9]).flatten ++ List.replicate n 7 ++ List.replicate n 5, 0 < s ∧ s ≤ 9 := by
    intro s hs
    rcases List.mem_append.mp hs with hs | hs
    · rcases List.mem_append.mp hs with hs | hs
      · obtain ⟨l, hl, hs⟩ := List.mem_flatten.mp hs
        rw [List.eq_of_mem_replicate hl] at hs
        simp at hs
        rcases hs with rfl | rfl <;> decide
      · rw [List.eq_of_mem_replicate hs]; decide
    · rw [List.eq_of_mem_replicate hs]; decide
  have hzl : ((List.replicate n [(7 : Int), 9]).flatten ++ List.replicate n 7 ++ List.replicate n 5).length = 4 * n := by
    simp
    omega
  generalize (List.replicate n [(7 : Int), 9]).flatten ++ List.replicate n 7 ++ List.replicate n 5 = sz at es hz hzl
  have b0 : atI ([c0, c1, c2, c3, c4, c5].map Dt.int) 0 = some (.int c0) := rfl
  have b1 : atI ([c0, c1, c2, c3, c4, c5].map Dt.int) 1 = some (.int c1) := rfl
  refine do_seq (do_asgP (evp_call (c0, 38, sz) (ea_cons (by walk_at "ev") (ea_cons ev_int (ea_cons es ea_nil))) ⟨smk 38 (by decide), by show sz.length ≤ 1000; omega, fun s hs => by have := hz s hs; omega⟩) ?_)
  rintro d ⟨ns, rfl, hnd⟩
  have hl : ns.length = 4 * n := by rw [hnd.1]; exact hzl
  have hmem := drawn11 (M := 9) hnd (fun s hs => (hz s hs).2)
  have hat := at_get11 ns
  clear hnd es hz hzl
  refine do_seq (do_asgN (by walk_at "en") ?_)
  show Do K _ [.fz (lstI [c0, c1, c2, c3, c4, c5]), .fz (.int n), .fz (.int many), .fz (.int big), .fz (lstI ns), .mt [], .no, .no, .no, .no, .no, .no, .no, .no] _
  refine do_seq (do_for (ds := rangeD 0 (n : Int).toNat) (ei_range1 (by walk_at "ea") (by omega)) (fun i ρ => ∃ (bs : List (Int × Option Int)) (s6 s7 : Sl), bs.length = i ∧ ρ = [.fz (lstI [c0, c1, c2, c3, c4, c5]), .fz (.int n), .fz (.int many), .fz (.int big), .fz (lstI ns), .mt (bs.map boundD), s6, s7, .no, .no, .no, .no, .no, .no]) ⟨[], _, _, rfl, rfl⟩ ?_ ?_)
  · rintro i d ρ' hd ⟨bs, s6, s7, hbl, rfl⟩
    obtain ⟨hi, rfl⟩ := rangeD_get hd
    have hi : i < n := by omega
    rw [Int.zero_add]
    refine ⟨_, _, g_name, ?_⟩
    show Do K _ [.fz (lstI [c0, c1, c2, c3, c4, c5]), .fz (.int n), .fz (.int many), .fz (.int big), .fz (lstI ns), .mt (bs.map boundD), .fz (.int i), s7, .no, .no, .no, .no, .no, .no] _
    have a1 : atI (ns.map Dt.int) (2 * (i : Int) + 1) = some (.int (ns.getD (2 * i + 1) 0)) := by
      have := hat (2 * i + 1) (by omega)
      rwa [show ((2 * i + 1 : Nat) : Int) = 2 * (i : Int) + 1 by omega] at this
    have a2 : atI (ns.map Dt.int) (2 * (i : Int)) = some (.int (ns.getD (2 * i) 0)) := by
      have := hat (2 * i) (by omega)
      rwa [show ((2 * i : Nat) : Int) = 2 * (i : Int) by omega] at this
    generalize ns.getD (2 * i + 1) 0 = u at a1
    generalize ns.getD (2 * i) 0 = v at a2
    refine do_seq (do_asg (by walk_at "ev") ?_)
    show Do K _ [.fz (lstI [c0, c1, c2, c3, c4, c5]), .fz (.int n), .fz (.int many), .fz (.int big), .fz (lstI ns), .mt (bs.map boundD), .fz (.int i), .fz (.int (u - 3)), .no, .no, .no, .no, .no, .no] _
    refine do_cut (fun ρ => ∃ m : Option Int, ρ = [.fz (lstI [c0, c1, c2, c3, c4, c5]), .fz (.int n), .fz (.int many), .fz (.int big), .fz (lstI ns), .mt (bs.map boundD), .fz (.int i), .fz (optD m), .no, .no, .no, .no, .no, .no]) (do_if (by walk_at "et") (fun _ => do_asg (d := .non) ev_non ⟨none, rfl⟩) (fun _ => do_next ⟨some (u - 3), rfl⟩)) ?_
    rintro ρ' ⟨m, rfl⟩
    exact do_app (d := boundD (v - 3, m)) rfl (ev_tup (ea_cons (by walk_at "ev") (ea_cons (ev_var rfl) ea_nil))) (by simp; omega) ⟨bs ++ [(v - 3, m)], .fz (.int i), .fz (optD m), by simp [hbl], by rw [List.map_append]; rfl⟩
  rintro ρ' ⟨bs, s6, s7, hbl, rfl⟩
  rw [rangeD_len, toNat_nat] at hbl
  refine do_freeze (i := 5) rfl ?_
  refine do_seq (do_asgP (evp_call (c1, 39, n, many + 1, big) (ea_cons (by walk_at "ev") (ea_cons ev_int (ea_cons (ev_var rfl) (ea_cons (EvD.to (d := .int ((many : Int) + 1)) (by walk_at "ev") (by simp)) (ea_cons (ev_var rfl) ea_nil))))) ⟨smk 39 (by decide), h2, by show many + 1 ≤ 5; omega, h4, h5⟩) ?_)
  rintro d ⟨rs, rfl, hrl, hro⟩
  have hrl : rs.length = many + 1 := hrl
  have hro : RowsOk n rs := hro
  have l1 := cut_len11 ns (some (2 * (n : Int))) (some (3 * (n : Int)))
  have l2 := cut_len11 ns (some (3 * (n : Int))) none
  refine do_seq (do_asg (ev_cb (ea_cons (map11 (fun x => x - 3) (cut ns (some (2 * (n : Int))) (some (3 * (n : Int)))) (ei_seq (slc11 (ev_var rfl) (eo_some (by walk_at "ev")) (eo_some (by walk_at "ev")))) (by omega) fun x => ⟨_, _, g_name, by simp, by walk_at "ev"⟩) ea_nil) cb_tupL) ?_)
  refine do_seq (do_asg (ev_cb (ea_cons (map11 (fun x => x - 1) (cut ns (some (3 * (n : Int))) none) (ei_seq (slc11 (ev_var rfl) (eo_some (by walk_at "ev")) eo_none)) (by omega) fun x => ⟨_, _, g_name, by simp, by walk_at "ev"⟩) ea_nil) cb_tupL) ?_)
  have m1 : ∀ x ∈ cut ns (some (2 * (n : Int))) (some (3 * (n : Int))), 0 ≤ x ∧ x < 9 := fun x hx => hmem x (cut_mem11 hx)
  have m2 : ∀ x ∈ cut ns (some (3 * (n : Int))) none, 0 ≤ x ∧ x < 9 := fun x hx => hmem x (cut_mem11 hx)
  generalize cut ns (some (2 * (n : Int))) (some (3 * (n : Int))) = us at l1 m1
  generalize cut ns (some (3 * (n : Int))) none = ws at l2 m2
  show Do K _ [.fz (lstI [c0, c1, c2, c3, c4, c5]), .fz (.int n), .fz (.int many), .fz (.int big), .fz (lstI ns), .fz (.lst (bs.map boundD)), s6, s7, .fz (rowsL rs), .fz (tupI (us.map fun x => x - 3)), .fz (tupI (ws.map fun x => x - 1)), .no, .no, .no] _
  refine do_seq (do_asgP (EvNP.dt (evnp_lc (Src := fun es => es = [c2, c3, c4, c5].map Dt.int) (R := fun es => ∃ p : List Line, (∀ l ∈ p, LineOk 1000 l) ∧ p.length ≤ 4 ∧ es = p.map lineD) ((ei_seq (slc11 (ev_var rfl) (eo_some ev_int) eo_none)).p rfl) fun es e => ?_)) ?_)
  · subst e
    refine ⟨by simp, fun i acc => ∃ p : List Line, (∀ l ∈ p, LineOk 1000 l) ∧ p.length = i ∧ acc = p.map lineD, ⟨[], fun l hl => by simp at hl, rfl, rfl⟩, fun i d acc hd hacc => ?_, fun acc hacc => ?_⟩
    · rw [List.getElem?_map] at hd
      obtain ⟨y, hy, rfl⟩ := Option.map_eq_some_iff.mp hd
      obtain ⟨p, q1, q2, rfl⟩ := hacc
      refine ⟨_, _, g_name, by simp, .inl ⟨et_yes, EvP.imp (evp_call (y, n) (ea_cons (ev_var rfl) (ea_cons (ev_var rfl) ea_nil)) h2) ?_⟩⟩
      rintro d ⟨l, rfl, hlo⟩
      refine ⟨p ++ [l], fun s hs => ?_, by simp [q2], by simp⟩
      rcases List.mem_append.mp hs with hs | hs
      · exact q1 s hs
      · rw [List.mem_singleton.mp hs]
        exact hlo
    · obtain ⟨p, q1, q2, rfl⟩ := hacc
      exact ⟨p, q1, by rw [q2]; exact Nat.le_refl 4, rfl⟩
  rintro d ⟨es, rfl, p, q1, q2, rfl⟩
  have hgl : many < rs.length := by omega
  have hlg : atI (rs.map rowD) (many : Int) = some (rowD (rs[many]'hgl)) := at_nat (j := many) rfl (by rw [List.getElem?_map, List.getElem?_eq_getElem hgl]; rfl)
  have hgn := hro _ (List.getElem_mem hgl)
  generalize rs[many]'hgl = goal at hlg hgn
  have hct : EvD K (tSl (rSlA2 K) (tVar 8) tNoPart (tPart (tVar 2))) [.fz (lstI [c0, c1, c2, c3, c4, c5]), .fz (.int n), .fz (.int many), .fz (.int big), .fz (lstI ns), .fz (.lst (bs.map boundD)), s6, s7, .fz (rowsL rs), .fz (tupI (us.map fun x => x - 3)), .fz (tupI (ws.map fun x => x - 1)), .fz (linesL p), .no, .no] (.lst ((rs.take many).map rowD)) :=
    (EvN.to (evn_sl (ev_var rfl) eo_none (eo_some (ev_var rfl))) (by rw [cut_pre11 _ many (by simp; omega), List.map_take])).dt
  refine do_ret (d := .tup [planD ⟨bs, rs.take many, goal.1⟩, partsD (us.map fun x => x - 3) (ws.map fun x => x - 1) p]) (ev_tup (ea_cons (ev_tup (ea_cons (ev_cb (ea_cons (ev_var rfl) ea_nil) cb_tupL) (ea_cons (ev_cb (ea_cons hct ea_nil) cb_tupL) (ea_cons (ev_op (x := rowD goal) (ev_op (x := .lst (rs.map rowD)) (ev_var rfl) (ev_var rfl) (od_ixL hlg)) ev_int (od_ixT rfl)) ea_nil)))) (ea_cons (ev_tup (ea_cons (ev_var rfl) (ea_cons (ev_var rfl) (ea_cons (ev_var rfl) ea_nil)))) ea_nil))) ?_
  refine ⟨⟨bs, rs.take many, goal.1⟩, _, _, _, rfl, ⟨h2, hbl, hgn, ?_, fun r hr => hro r (List.mem_of_mem_take hr)⟩, ⟨by simp; omega, fun x hx => ?_⟩, ⟨by simp; omega, fun x hx => ?_⟩, ⟨by omega, q1⟩, by omega, by simp; omega, by simp; omega⟩
  · show (rs.take many).length ≤ 60
    rw [List.length_take]
    omega
  · obtain ⟨y, hy, rfl⟩ := List.mem_map.mp hx
    have := m1 y hy
    constructor <;> omega
  · obtain ⟨y, hy, rfl⟩ := List.mem_map.mp hx
    have := m2 y hy
    constructor <;> omega
end
end Cy
namespace Cy
open PySem PySem.Spec L2 Dr Dl
section
variable {P : Program} {w : World} {K : PySem.W.Frag} {mg : Str → Option Value} {base : Heap}

local macro_rules | `(tactic| walk_at "od") => `(tactic| first
  | with_reducible exact od_add
  | with_reducible exact od_sub
  | with_reducible exact od_lt
  | with_reducible exact od_le
  | with_reducible exact od_gt
  | with_reducible exact od_ge
  | with_reducible exact od_eqI
  | with_reducible exact od_neI
  | with_reducible exact od_eqS
  | with_reducible exact od_eqB
  | with_reducible exact od_isN
  | with_reducible exact od_notN
  | ((with_reducible refine' od_mul ?k1); (case k1 => (first | assumption | exact Or.inl (by omega) | exact Or.inr (by omega))))
  | with_reducible exact od_pow cpow10
  | ((with_reducible refine' od_mod ?k1); (case k1 => (first | assumption | omega)))
  | ((with_reducible refine' od_div ?k1 ?k2); (case k1 => (first | assumption | omega)); (case k2 => (first | assumption | omega)))
  | ((with_reducible refine' od_ixT ?k1); (case k1 => (first | assumption | rfl)))
  | ((with_reducible refine' od_ixL ?k1); (case k1 => (first | assumption | rfl)))
  | ((with_reducible refine' od_ixS ?k1); (case k1 => (first | assumption | rfl)))
  | ((with_reducible refine' od_catT ?k1); (case k1 => (first | assumption | (simp; omega)))))
local macro_rules | `(tactic| walk_at "cb") => `(tactic| first
  | with_reducible exact cb_lenTm
  | with_reducible exact cb_lenLm
  | with_reducible exact cb_lenT
  | with_reducible exact cb_lenL
  | with_reducible exact cb_lenS
  | with_reducible exact cb_tupL
  | with_reducible exact cb_tupT
  | with_reducible exact cb_sum
  | with_reducible exact cb_all
  | with_reducible exact cb_any
  | with_reducible exact cb_abs
  | with_reducible exact cb_max
  | with_reducible exact cb_min
  | with_reducible exact cb_intB)
local macro_rules | `(tactic| walk_at "ev") => `(tactic| first
  | ((with_reducible refine' ev_var ?k1); (case k1 => rfl))
  | with_reducible exact ev_int
  | with_reducible exact ev_non
  | with_reducible exact ev_str
  | with_reducible exact ev_bl
  | ((with_reducible refine' ev_op ?k1 ?k2 ?k3); (case k1 => walk_at "ev"); (case k2 => walk_at "ev"); (case k3 => walk_at "od"))
  | ((with_reducible refine' ev_un ?k1 ud_neg); (case k1 => walk_at "ev"))
  | ((with_reducible refine' ev_tup ?k1 ?k2); (case k1 => walk_at "ea"); (case k2 => (first | (simp; done) | (simp; omega))))
  | ((with_reducible refine' ev_cb ?k1 ?k2); (case k1 => walk_at "ea"); (case k2 => walk_at "cb"))
  | ((with_reducible refine' ev_slT ?k1 ?k2 ?k3); (case k1 => walk_at "ev"); (case k2 => walk_at "eo"); (case k3 => walk_at "eo"))
  | ((with_reducible refine' EvN.dt ?k1); (case k1 => walk_at "en")))
local macro_rules | `(tactic| walk_at "eo") => `(tactic| first
  | with_reducible exact eo_none
  | ((with_reducible refine' eo_some ?k1); (case k1 => walk_at "ev")))
local macro_rules | `(tactic| walk_at "ea") => `(tactic| first
  | with_reducible exact ea_nil
  | ((with_reducible refine' ea_cons ?k1 ?k2); (case k1 => walk_at "ev"); (case k2 => walk_at "ea")))
local macro_rules | `(tactic| walk_at "en") => `(tactic| first
  | ((with_reducible refine' evn_lst ?k1 ?k2); (case k1 => walk_at "ea"); (case k2 => (first | (simp; done) | (simp; omega))))
  | ((with_reducible refine' evn_op ?k1 ?k2 (on_cat ?k3)); (case k1 => walk_at "ev"); (case k2 => walk_at "ev"); (case k3 => (first | assumption | (simp; omega))))
  | ((with_reducible refine' evn_op ?k1 ?k2 (on_rep ?k3 ?k4)); (case k1 => walk_at "ev"); (case k2 => walk_at "ev"); (case k3 => (first | assumption | (simp; omega))); (case k4 => (first | assumption | omega)))
  | ((with_reducible refine' evn_sl ?k1 ?k2 ?k3); (case k1 => walk_at "ev"); (case k2 => walk_at "eo"); (case k3 => walk_at "eo"))
  | ((with_reducible refine' evn_cb ?k1 cb_listL); (case k1 => walk_at "ea"))
  | ((with_reducible refine' evn_cb ?k1 cb_listT); (case k1 => walk_at "ea")))
local macro_rules | `(tactic| walk_at "et") => `(tactic| first
  | ((with_reducible refine' et_cmp ?k1); (case k1 => walk_at "ev"))
  | ((with_reducible refine' et_or ?k1 ?k2); (case k1 => walk_at "et"); (case k2 => (intro _; walk_at "et")))
  | ((with_reducible refine' et_and ?k1 ?k2); (case k1 => walk_at "et"); (case k2 => (intro _; walk_at "et")))
  | ((with_reducible refine' et_not ?k1); (case k1 => walk_at "et"))
  | ((with_reducible refine' et_trM ?k1); (case k1 => rfl))
  | ((with_reducible refine' et_trMs ?k1); (case k1 => rfl))
  | ((with_reducible refine' et_trB ?k1); (case k1 => walk_at "ev"))
  | ((with_reducible refine' et_trT ?k1); (case k1 => walk_at "ev"))
  | ((with_reducible refine' et_trL ?k1); (case k1 => walk_at "ev"))
  | ((with_reducible refine' et_trS ?k1); (case k1 => walk_at "ev")))

theorem cut_pre12 {α : Type} (xs : List α) (b : Nat) (h2 : b ≤ xs.length) : cut xs none (some (b : Int)) = xs.take b := by
  unfold cut
  rw [HT.sIx_none, HT.sIx_nat, Nat.min_eq_left h2]
  simp
theorem cut_suf12 {α : Type} (xs : List α) (b : Nat) (h2 : b ≤ xs.length) : cut xs (some (b : Int)) none = xs.drop b := by
  unfold cut
  rw [HT.sIx_none, HT.sIx_nat, Nat.min_eq_left h2]
  exact List.take_of_length_le (by rw [List.length_drop]; omega)
theorem cut_len12 {α : Type} (xs : List α) (lo hi : Option Int) : (cut xs lo hi).length ≤ xs.length := by
  unfold cut
  rw [List.length_take, List.length_drop]
  omega
theorem cut_mem12 {α : Type} {xs : List α} {lo hi : Option Int} {x : α} (h : x ∈ cut xs lo hi) : x ∈ xs := by
  unfold cut at h
  exact List.mem_of_mem_drop (List.mem_of_mem_take h)
theorem cut_map12 {α β : Type} (f : α → β) (xs : List α) (lo hi : Option Int) : cut (xs.map f) lo hi = (cut xs lo hi).map f := by
  unfold cut
  rw [List.length_map, List.map_take, List.map_drop]
theorem mod12 (a : Int) {n : Nat} (h : 0 < n) : ∃ j : Nat, a % (n : Int) = j ∧ j < n := by
  have h1 := Int.emod_nonneg a (show (n : Int) ≠ 0 by omega)
  have h2 := Int.emod_lt_of_pos a (show (0 : Int) < n by omega)
  exact ⟨(a % (n : Int)).toNat, by omega, by omega⟩
theorem at12 {α : Type} (f : α → Dt) (xs : List α) {j : Nat} (h : j < xs.length) : atI (xs.map f) (j : Int) = some (f xs[j]) :=
  at_nat (j := j) rfl (by rw [List.getElem?_map, List.getElem?_eq_getElem h]; rfl)
theorem cat12 {α : Type} {f : α → Dt} {ρ : List Sl} {ta tb : TE} {as bs : List α} (ha : EvD K ta ρ (.lst (as.map f))) (hb : EvD K tb ρ (.lst (bs.map f))) (hz : as.length + bs.length ≤ 100000) : EvD K (tOp (rAddA K) ta tb) ρ (.lst ((as ++ bs).map f)) :=
  (EvN.to (evn_op ha hb (on_cat (by simp; omega))) (by simp)).dt
theorem catT12 {α : Type} {f : α → Dt} {ρ : List Sl} {ta tb : TE} {as bs : List α} (ha : EvD K ta ρ (.tup (as.map f))) (hb : EvD K tb ρ (.tup (bs.map f))) (hz : as.length + bs.length ≤ 100000) : EvD K (tOp (rAddA K) ta tb) ρ (.tup ((as ++ bs).map f)) :=
  (ev_op ha hb (od_catT (by simp; omega))).to (by simp)
theorem slc12 {α : Type} {f : α → Dt} {ρ : List Sl} {te : TE} {tl th : TO} {lo hi : Option Int} {ns : List α} (h : EvD K te ρ (.lst (ns.map f))) (h1 : EvO K tl ρ lo) (h2 : EvO K th ρ hi) : EvD K (tSl (rSlA2 K) te tl th) ρ (.lst ((cut ns lo hi).map f)) :=
  (EvN.to (evn_sl h h1 h2) (cut_map12 _ _ _ _)).dt
theorem slcT12 {α : Type} {f : α → Dt} {ρ : List Sl} {te : TE} {tl th : TO} {lo hi : Option Int} {ns : List α} (h : EvD K te ρ (.tup (ns.map f))) (h1 : EvO K tl ρ lo) (h2 : EvO K th ρ hi) : EvD K (tSl (rSlA2 K) te tl th) ρ (.tup ((cut ns lo hi).map f)) :=
  (ev_slT h h1 h2).to (by rw [cut_map12])
def put {α : Type} (xs : List α) (j : Nat) (v : α) : List α := cut xs none (some (j : Int)) ++ [v] ++ cut xs (some ((j : Int) + 1)) none
theorem put_len {α : Type} (xs : List α) (j : Nat) (v : α) (h : j < xs.length) : (put xs j v).length = xs.length := by
  unfold put
  rw [cut_pre12 _ _ (by omega), show (j : Int) + 1 = ((j + 1 : Nat) : Int) by omega, cut_suf12 _ _ (by omega)]
  simp
  omega
theorem put_mem {α : Type} {xs : List α} {j : Nat} {v x : α} (h : x ∈ put xs j v) : x ∈ xs ∨ x = v := by
  unfold put at h
  rcases List.mem_append.mp h with h | h
  · rcases List.mem_append.mp h with h | h
    · exact .inl (cut_mem12 h)
    · exact .inr (List.mem_singleton.mp h)
  · exact .inl (cut_mem12 h)
/-- xs[:at] + (v,) + xs[at + 1:] -/
theorem put12 {α : Type} {f : α → Dt} {ρ : List Sl} {xs : List α} {v : α} {i a j : Nat} {te : TE} (hx : ρ[i]? = some (.fz (.tup (xs.map f)))) (ha : ρ[a]? = some (.fz (.int (j : Int)))) (hl : xs.length ≤ 1000) (hv : EvD K te ρ (f v)) :
    EvD K (tOp (rAddA K) (tOp (rAddA K) (tSl (rSlA2 K) (tVar i) tNoPart (tPart (tVar a))) (tTup (tCons te tNil))) (tSl (rSlA2 K) (tVar i) (tPart (tOp (rAddA K) (tVar a) (tC (.int 1)))) tNoPart)) ρ (.tup ((put xs j v).map f)) := by
  have l1 := cut_len12 xs none (some (j : Int))
  have l2 := cut_len12 xs (some ((j : Int) + 1)) none
  exact catT12 (catT12 (slcT12 (ev_var hx) eo_none (eo_some (ev_var ha))) (bs := [v]) (ev_tup (ea_cons hv ea_nil)) (by simp; omega)) (slcT12 (ev_var hx) (eo_some (ev_op (ev_var ha) ev_int od_add)) eo_none) (by simp; omega)
/-- xs[:at] + [v] + xs[at + 1:] -/
theorem putL12 {α : Type} {f : α → Dt} {ρ : List Sl} {xs : List α} {v : α} {i a j : Nat} {te : TE} (hx : ρ[i]? = some (.fz (.lst (xs.map f)))) (ha : ρ[a]? = some (.fz (.int (j : Int)))) (hl : xs.length ≤ 1000) (hv : EvD K te ρ (f v)) :
    EvD K (tOp (rAddA K) (tOp (rAddA K) (tSl (rSlA2 K) (tVar i) tNoPart (tPart (tVar a))) (tLst (tCons te tNil))) (tSl (rSlA2 K) (tVar i) (tPart (tOp (rAddA K) (tVar a) (tC (.int 1)))) tNoPart)) ρ (.lst ((put xs j v).map f)) := by
  have l1 := cut_len12 xs none (some (j : Int))
  have l2 := cut_len12 xs (some ((j : Int) + 1)) none
  exact cat12 (cat12 (slc12 (ev_var hx) eo_none (eo_some (ev_var ha))) (bs := [v]) (EvN.dt (evn_lst (ea_cons hv ea_nil))) (by simp; omega)) (slc12 (ev_var hx) (eo_some (ev_op (ev_var ha) ev_int od_add)) eo_none) (by simp; omega)
theorem Sm.mono12 {A B x : Int} (h : Sm A x) (e : A ≤ B) : Sm B x := by
  obtain ⟨h1, h2⟩ := h
  constructor <;> omega
theorem LineOk.mono12 {A B : Int} {l : Line} (h : LineOk A l) (e : A ≤ B) : LineOk B l := by
  cases l with
  | cut sh d =>
    obtain ⟨h1, h2, h3⟩ := h
    exact ⟨fun s hs => (h1 s hs).mono12 e, h2.mono12 e, h3⟩
  | choice es k =>
    have h : (es.length : Int) * 20 ≤ A := h
    show (es.length : Int) * 20 ≤ B
    omega
  | shut n => trivial
theorem SpotOk.mono12 {A B : Int} {s : List Int} (h : SpotOk A s) (e : A ≤ B) : SpotOk B s := ⟨h.1, fun x hx => (h.2 x hx).mono12 e⟩
theorem PaperOk.mono12 {A B : Int} {s : List Line} (h : PaperOk A s) (e : A ≤ B) : PaperOk B s := ⟨h.1, fun x hx => (h.2 x hx).mono12 e⟩
theorem empty12 {α : Type} {f : α → Dt} {xs : List α} (h : (!(xs.map f).isEmpty) = true) : 0 < xs.length := by
  cases xs with
  | nil => simp at h
  | cons x xs => simp
theorem ok_l_bent_spot {a : Addr} {fd : FuncData} (F : Fun K "_law_bent_spot" "_law_bent_spot" s_l_bent_spot a fd) (T : Tx mg)  : FnOk P w K mg base CX0 1 a fd P_l_bent_spot (sp_l_bent_spot K) := by
  refine F.ok sc_l_bent_spot (fun vs H Q E h => sp_len (n := 4) (fun _ => rfl) vs H Q E h) (fun cdv A outer s H vs Q E hr h => ?_)
  refine ⟨_, (pss_cons (ps_if (pt_cmpR op_eq (pv 1) pe_int (nomark _)) (pss_one (ps_ret (pe_op (add_k K) (pv 0) (pe_tup (pa_cons pe_int pa_nil))))) pss_nil)
      (pss_cons (ps_if (pt_cmpR op_eq (pv 1) pe_int (nomark _)) (pss_one (ps_ret (pe_slice (sl_k K) (pv 0) (po_some pe_int) po_none))) pss_nil)
      (pss_cons (ps_if (pt_not (tr_k K (pv 0))) (pss_one (ps_ret (pv 0))) pss_nil)
      (pss_cons (ps_set (i := 2) sc_l_bent_spot.nd rfl (Or.inl rfl) (pe_op op_mod (pv 2) (pe_callB (len_k K) (by rfl) T.len bt_len (pa_cons (pv 0) pa_nil))))
      (pss_one (ps_ret (pe_op (add_k K) (pe_op (add_k K) (pe_slice (sl_k K) (pv 0) po_none (po_some (pv 2))) (pe_tup (pa_cons (pe_op (add_k K) (pe_ix (ix_k K) (pv 0) (pv 2) (fun _ _ => rfl)) (pv 3)) pa_nil))) (pe_slice (sl_k K) (pv 0) (po_some (pe_op (add_k K) (pv 2) pe_int)) po_none)))))))), fn_do (N := N_l_bent_spot) (fun x hx => ?_) h⟩
  obtain ⟨s, way, at', step⟩ := x
  obtain ⟨⟨h1, h2⟩, h3, h4, h5⟩ := hx
  have h2 : ∀ x ∈ s, Sm 1000 x := h2
  have h3 : s.length ≤ 40 := h3
  have h4 : -100 ≤ step := h4
  have h5 : step ≤ 100 := h5
  show Do K _ [.fz (tupI s), .fz (.int way), .fz (.int at'), .fz (.int step)] (ends fun d => ∃ s, d = tupI s ∧ SpotOk 5000 s)
  refine do_seq (do_if (by walk_at "et") (fun _ => ?_) (fun _ => do_next ?_))
  · refine do_ret (d := tupI (s ++ [0])) (catT12 (ev_var rfl) (bs := [0]) (ev_tup (ea_cons ev_int ea_nil)) (by simp; omega)) ⟨_, rfl, by simp; omega, fun x hx => ?_⟩
    rcases List.mem_append.mp hx with hx | hx
    · exact (h2 x hx).mono12 (by decide)
    · rw [List.mem_singleton.mp hx]
      constructor <;> decide
  refine do_seq (do_if (by walk_at "et") (fun _ => ?_) (fun _ => do_next ?_))
  · have := cut_len12 s (some 1) none
    exact do_ret (d := tupI (cut s (some 1) none)) (slcT12 (ev_var rfl) (eo_some ev_int) eo_none) ⟨_, rfl, by omega, fun x hx => (h2 x (cut_mem12 hx)).mono12 (by decide)⟩
  refine do_seq (do_if (b := !(!(s.map Dt.int).isEmpty)) (by walk_at "et") (fun _ => ?_) (fun hb => do_next ?_))
  · exact do_ret (ev_var rfl) ⟨s, rfl, by omega, fun x hx => (h2 x hx).mono12 (by decide)⟩
  have hs := empty12 (f := Dt.int) (xs := s) (by simpa using hb)
  obtain ⟨j, hj, hjl⟩ := mod12 at' hs
  refine do_seq (do_asg (d := .int (j : Int)) ((ev_op (y := .int (s.length : Nat)) (ev_var rfl) (by walk_at "ev") (od_mod (by omega))).to (by rw [hj])) ?_)
  have hix := at12 Dt.int s hjl
  refine do_ret (d := tupI (put s j (s[j] + step))) (put12 rfl rfl (by omega) (by walk_at "ev")) ⟨_, rfl, by rw [put_len _ _ _ hjl]; omega, fun x hx => ?_⟩
  rcases put_mem hx with hx | rfl
  · exact (h2 x hx).mono12 (by decide)
  · obtain ⟨q1, q2⟩ := h2 _ (List.getElem_mem hjl)
    constructor <;> omega

theorem ok_l_bent_plan {a : Addr} {fd : FuncData} (F : Fun K "_law_bent_plan" "_law_bent_plan" s_l_bent_plan a fd) (T : Tx mg)  : FnOk P w K mg base CX0 1 a fd P_l_bent_plan (sp_l_bent_plan K) := by
  refine F.ok sc_l_bent_plan (fun vs H Q E h => sp_len (n := 4) (fun _ => rfl) vs H Q E h) (fun cdv A outer s H vs Q E hr h => ?_)
  refine ⟨_, (pss_cons (ps_asg (pv 0) (tup_k K (n := 3) (pgs_cons (pg_name (i := 4) sc_l_bent_plan.nd rfl (Or.inl rfl)) (pgs_cons (pg_name (i := 5) sc_l_bent_plan.nd rfl (Or.inl rfl)) (pgs_cons (pg_name (i := 6) sc_l_bent_plan.nd rfl (Or.inl rfl)) pgs_nil)))))
      (pss_cons (ps_if (PW.pt (pw_and (pt_cmpR op_eq (pv 1) pe_int (nomark _)) (pw_and1 (tr_k K (pv 5))))) (pss_cons (ps_set (i := 2) sc_l_bent_plan.nd rfl (Or.inl rfl) (pe_op op_mod (pv 2) (pe_callB (len_k K) (by rfl) T.len bt_len (pa_cons (pv 5) pa_nil))))
      (pss_cons (ps_asg (pe_ix (ix_k K) (pv 5) (pv 2) (fun _ _ => rfl)) (tup_k K (n := 2) (pgs_cons (pg_name (i := 7) sc_l_bent_plan.nd rfl (Or.inl rfl)) (pgs_cons (pg_name (i := 8) sc_l_bent_plan.nd rfl (Or.inl rfl)) pgs_nil))))
      (pss_one (ps_set (i := 5) sc_l_bent_plan.nd rfl (Or.inl rfl) (pe_op (add_k K) (pe_op (add_k K) (pe_slice (sl_k K) (pv 5) po_none (po_some (pv 2))) (pe_tup (pa_cons (pe_tup (pa_cons (pv 7) (pa_cons (pe_op (add_k K) (pv 8) (pv 3)) pa_nil))) pa_nil))) (pe_slice (sl_k K) (pv 5) (po_some (pe_op (add_k K) (pv 2) pe_int)) po_none)))))) pss_nil)
      (pss_cons (ps_if (PW.pt (pw_and (pt_cmpR op_eq (pv 1) pe_int (nomark _)) (pw_and1 (tr_k K (pv 6))))) (pss_cons (ps_set (i := 2) sc_l_bent_plan.nd rfl (Or.inl rfl) (pe_op op_mod (pv 2) (pe_callB (len_k K) (by rfl) T.len bt_len (pa_cons (pv 6) pa_nil))))
      (pss_one (ps_set (i := 6) sc_l_bent_plan.nd rfl (Or.inl rfl) (pe_op (add_k K) (pe_op (add_k K) (pe_slice (sl_k K) (pv 6) po_none (po_some (pv 2))) (pe_tup (pa_cons (pe_op (add_k K) (pe_ix (ix_k K) (pv 6) (pv 2) (fun _ _ => rfl)) (pv 3)) pa_nil))) (pe_slice (sl_k K) (pv 6) (po_some (pe_op (add_k K) (pv 2) pe_int)) po_none))))) pss_nil)
      (pss_cons (ps_if (PW.pt (pw_and (pt_cmpR op_gt (pv 1) pe_int (nomark _)) (pw_and1 (tr_k K (pv 4))))) (pss_cons (ps_set (i := 2) sc_l_bent_plan.nd rfl (Or.inl rfl) (pe_op op_mod (pv 2) (pe_callB (len_k K) (by rfl) T.len bt_len (pa_cons (pv 4) pa_nil))))
      (pss_cons (ps_asg (pe_ix (ix_k K) (pv 4) (pv 2) (fun _ _ => rfl)) (tup_k K (n := 2) (pgs_cons (pg_name (i := 9) sc_l_bent_plan.nd rfl (Or.inl rfl)) (pgs_cons (pg_name (i := 10) sc_l_bent_plan.nd rfl (Or.inl rfl)) pgs_nil))))
      (pss_cons (ps_if (pt_cmpR op_eq (pv 1) pe_int (nomark _)) (pss_one (ps_set (i := 9) sc_l_bent_plan.nd rfl (Or.inl rfl) (pe_op (add_k K) (pv 9) (pv 3)))) (pss_one (ps_if (pt_cmpR op_isN1 (pv 10) pe_non (nomark _)) (pss_one (ps_set (i := 10) sc_l_bent_plan.nd rfl (Or.inl rfl) (pe_op (add_k K) (pv 9) (pv 3)))) (pss_one (ps_set (i := 10) sc_l_bent_plan.nd rfl (Or.inl rfl) (pe_op (add_k K) (pv 10) (pv 3)))))))
      (pss_one (ps_set (i := 4) sc_l_bent_plan.nd rfl (Or.inl rfl) (pe_op (add_k K) (pe_op (add_k K) (pe_slice (sl_k K) (pv 4) po_none (po_some (pv 2))) (pe_tup (pa_cons (pe_tup (pa_cons (pv 9) (pa_cons (pv 10) pa_nil))) pa_nil))) (pe_slice (sl_k K) (pv 4) (po_some (pe_op (add_k K) (pv 2) pe_int)) po_none))))))) pss_nil)
      (pss_one (ps_ret (pe_tup (pa_cons (pv 4) (pa_cons (pv 5) (pa_cons (pv 6) pa_nil)))))))))), fn_do (N := N_l_bent_plan) (fun x hx => ?_) h⟩
  obtain ⟨n, ⟨bs, rs, goal⟩, spoil, at', step⟩ := x
  obtain ⟨h1, h2, h3, h4, h5⟩ := hx
  have h1 : n ≤ 8 := h1
  have h2 : bs.length = n := h2
  have h3 : goal.length = n := h3
  have h4 : rs.length ≤ 60 := h4
  have h5 : RowsOk n rs := h5
  show Do K _ [.fz (planD ⟨bs, rs, goal⟩), .fz (.int spoil), .fz (.int at'), .fz (.int step), .no, .no, .no, .no, .no, .no, .no] (ends fun d => ∃ p, d = planD p ∧ PlanOk n p)
  refine do_seq (do_asgG (d := planD ⟨bs, rs, goal⟩) (ev_var rfl) (g_tup (gs_cons g_name (gs_cons g_name (gs_cons g_name gs_nil)))) ?_)
  show Do K _ [.fz (planD ⟨bs, rs, goal⟩), .fz (.int spoil), .fz (.int at'), .fz (.int step), .fz (.tup (bs.map boundD)), .fz (rowsT rs), .fz (tupI goal), .no, .no, .no, .no] _
  refine do_cut (fun ρ => ∃ (a2 : Int) (rs' : List Row) (s7 s8 : Sl), rs'.length ≤ 60 ∧ RowsOk n rs' ∧ ρ = [.fz (planD ⟨bs, rs, goal⟩), .fz (.int spoil), .fz (.int a2), .fz (.int step), .fz (.tup (bs.map boundD)), .fz (rowsT rs'), .fz (tupI goal), s7, s8, .no, .no]) ?_ ?_
  · refine do_if (b := decide (spoil = 5) && !(rs.map rowD).isEmpty) (by walk_at "et") (fun hb => ?_) (fun _ => do_next ⟨_, rs, _, _, h4, h5, rfl⟩)
    have hs := empty12 (f := rowD) (xs := rs) (Bool.and_eq_true_iff.mp hb).2
    obtain ⟨j, hj, hjl⟩ := mod12 at' hs
    refine do_seq (do_asg (d := .int (j : Int)) ((ev_op (y := .int (rs.length : Nat)) (ev_var rfl) (by walk_at "ev") (od_mod (by omega))).to (by rw [hj])) ?_)
    have hix := at12 rowD rs hjl
    have hrl := h5 _ (List.getElem_mem hjl)
    generalize rs[j] = r at hix hrl
    refine do_seq (do_asgG (d := rowD r) (ev_op (x := .tup (rs.map rowD)) (ev_var rfl) (ev_var rfl) (od_ixT hix)) (g_tup (gs_cons g_name (gs_cons g_name gs_nil))) ?_)
    refine do_asg (d := rowsT (put rs j (r.1, r.2 + step))) (put12 rfl rfl (by omega) (ev_tup (ea_cons (ev_var rfl) (ea_cons (ev_op (ev_var rfl) (ev_var rfl) od_add) ea_nil)))) ⟨_, put rs j (r.1, r.2 + step), _, _, by rw [put_len _ _ _ hjl]; exact h4, fun q hq => ?_, rfl⟩
    rcases put_mem hq with hq | rfl
    · exact h5 q hq
    · exact hrl
  rintro ρ' ⟨a2, rs', s7, s8, hr1, hr2, rfl⟩
  refine do_cut (fun ρ => ∃ (a3 : Int) (g' : List Int), g'.length = n ∧ ρ = [.fz (planD ⟨bs, rs, goal⟩), .fz (.int spoil), .fz (.int a3), .fz (.int step), .fz (.tup (bs.map boundD)), .fz (rowsT rs'), .fz (tupI g'), s7, s8, .no, .no]) ?_ ?_
  · refine do_if (b := decide (spoil = 6) && !(goal.map Dt.int).isEmpty) (by walk_at "et") (fun hb => ?_) (fun _ => do_next ⟨_, goal, h3, rfl⟩)
    have hs := empty12 (f := Dt.int) (xs := goal) (Bool.and_eq_true_iff.mp hb).2
    obtain ⟨j, hj, hjl⟩ := mod12 a2 hs
    refine do_seq (do_asg (d := .int (j : Int)) ((ev_op (y := .int (goal.length : Nat)) (ev_var rfl) (by walk_at "ev") (od_mod (by omega))).to (by rw [hj])) ?_)
    have hix := at12 Dt.int goal hjl
    exact do_asg (d := tupI (put goal j (goal[j] + step))) (put12 rfl rfl (by omega) (by walk_at "ev")) ⟨_, put goal j (goal[j] + step), by rw [put_len _ _ _ hjl]; exact h3, rfl⟩
  rintro ρ' ⟨a3, g', hg, rfl⟩
  refine do_cut (fun ρ => ∃ (a4 : Int) (bs' : List (Int × Option Int)) (s9 s10 : Sl), bs'.length = n ∧ ρ = [.fz (planD ⟨bs, rs, goal⟩), .fz (.int spoil), .fz (.int a4), .fz (.int step), .fz (.tup (bs'.map boundD)), .fz (rowsT rs'), .fz (tupI g'), s7, s8, s9, s10]) ?_ ?_
  · refine do_if (b := decide (6 < spoil) && !(bs.map boundD).isEmpty) (by walk_at "et") (fun hb => ?_) (fun _ => do_next ⟨_, bs, _, _, h2, rfl⟩)
    have hs := empty12 (f := boundD) (xs := bs) (Bool.and_eq_true_iff.mp hb).2
    obtain ⟨j, hj, hjl⟩ := mod12 a3 hs
    refine do_seq (do_asg (d := .int (j : Int)) ((ev_op (y := .int (bs.length : Nat)) (ev_var rfl) (by walk_at "ev") (od_mod (by omega))).to (by rw [hj])) ?_)
    have hix := at12 boundD bs hjl
    generalize bs[j] = b at hix
    obtain ⟨l, m⟩ := b
    refine do_seq (do_asgG (d := boundD (l, m)) (ev_op (x := .tup (bs.map boundD)) (ev_var rfl) (ev_var rfl) (od_ixT hix)) (g_tup (gs_cons g_name (gs_cons g_name gs_nil))) ?_)
    show Do K _ [.fz (planD ⟨bs, rs, goal⟩), .fz (.int spoil), .fz (.int (j : Int)), .fz (.int step), .fz (.tup (bs.map boundD)), .fz (rowsT rs'), .fz (tupI g'), s7, s8, .fz (.int l), .fz (optD m)] _
    refine do_cut (fun ρ => ∃ (l' : Int) (m' : Option Int), ρ = [.fz (planD ⟨bs, rs, goal⟩), .fz (.int spoil), .fz (.int (j : Int)), .fz (.int step), .fz (.tup (bs.map boundD)), .fz (rowsT rs'), .fz (tupI g'), s7, s8, .fz (.int l'), .fz (optD m')]) ?_ ?_
    · refine do_if (by walk_at "et") (fun _ => do_asg (d := .int (l + step)) (by walk_at "ev") ⟨_, m, rfl⟩) (fun _ => ?_)
      cases m with
      | none => exact do_if (b := true) (et_cmp (ev_op (x := .non) (ev_var rfl) ev_non od_isN)) (fun _ => do_asg (d := .int (l + step)) (ev_op (ev_var rfl) (ev_var rfl) od_add) ⟨l, some (l + step), rfl⟩) (fun q => nomatch q)
      | some m => exact do_if (b := false) (et_cmp (ev_op (x := .int m) (ev_var rfl) ev_non od_isN)) (fun q => nomatch q) (fun _ => do_asg (d := .int (m + step)) (ev_op (ev_var rfl) (ev_var rfl) od_add) ⟨l, some (m + step), rfl⟩)
    · rintro ρ' ⟨l', m', rfl⟩
      exact do_asg (d := .tup ((put bs j (l', m')).map boundD)) (put12 rfl rfl (by omega) (ev_tup (ea_cons (ev_var rfl) (ea_cons (ev_var rfl) ea_nil)))) ⟨_, put bs j (l', m'), _, _, by rw [put_len _ _ _ hjl]; exact h2, rfl⟩
  rintro ρ' ⟨a4, bs', s9, s10, hb, rfl⟩
  exact do_ret (d := planD ⟨bs', rs', g'⟩) (by walk_at "ev") ⟨⟨bs', rs', g'⟩, rfl, h1, hb, hg, hr1, hr2⟩

theorem ok_l_bent_parts {a : Addr} {fd : FuncData} (F : Fun K "_law_bent_parts" "_law_bent_parts" s_l_bent_parts a fd) (T : Tx mg) (D_l_bent_spot : Def P w K mg base 1 "_law_bent_spot" P_l_bent_spot (sp_l_bent_spot K)) (D_l_free_line : Def P w K mg base 2 "_law_free_line" P_l_free_line (sp_l_free_line K)) (D_l_spoilt : Def P w K mg base 2 "_law_spoilt" P_l_spoilt (sp_l_spoilt K)) : FnOk P w K mg base CX0 3 a fd P_l_bent_parts (sp_l_bent_parts K) := by
  refine F.ok sc_l_bent_parts (fun vs H Q E h => sp_len (n := 5) (fun _ => rfl) vs H Q E h) (fun cdv A outer s H vs Q E hr h => ?_)
  refine ⟨_, (pss_cons (ps_asg (pv 0) (tup_k K (n := 3) (pgs_cons (pg_name (i := 5) sc_l_bent_parts.nd rfl (Or.inl rfl)) (pgs_cons (pg_name (i := 6) sc_l_bent_parts.nd rfl (Or.inl rfl)) (pgs_cons (pg_name (i := 7) sc_l_bent_parts.nd rfl (Or.inl rfl)) pgs_nil)))))
      (pss_cons (ps_if (pt_cmpR op_eq (pv 1) pe_int (nomark _)) (pss_one (ps_set (i := 5) sc_l_bent_parts.nd rfl (Or.inl rfl) (pe_def D_l_bent_spot hr (by rfl) (pa_cons (pv 5) (pa_cons (pe_ix (ix_k K) (pv 2) pe_int (fun _ _ => rfl)) (pa_cons (pe_ix (ix_k K) (pv 2) pe_int (fun _ _ => rfl)) (pa_cons (pe_ix (ix_k K) (pv 2) pe_int (fun _ _ => rfl)) pa_nil))))))) pss_nil)
      (pss_cons (ps_if (pt_cmpR op_eq (pv 1) pe_int (nomark _)) (pss_one (ps_set (i := 6) sc_l_bent_parts.nd rfl (Or.inl rfl) (pe_def D_l_bent_spot hr (by rfl) (pa_cons (pv 6) (pa_cons (pe_ix (ix_k K) (pv 2) pe_int (fun _ _ => rfl)) (pa_cons (pe_ix (ix_k K) (pv 2) pe_int (fun _ _ => rfl)) (pa_cons (pe_ix (ix_k K) (pv 2) pe_int (fun _ _ => rfl)) pa_nil))))))) pss_nil)
      (pss_cons (ps_if (PW.pt (pw_and (pt_cmpR op_eq (pv 1) pe_int (nomark _)) (pw_and1 (tr_k K (pv 7))))) (pss_one (ps_set (i := 7) sc_l_bent_parts.nd rfl (Or.inl rfl) (pe_def D_l_spoilt hr (by rfl) (pa_cons (pv 3) (pa_cons (pv 7) (pa_cons (pe_def D_l_free_line hr (by rfl) (pa_cons (pe_op op_fdivW (pv 3) pe_int) (pa_cons (pv 4) pa_nil))) pa_nil)))))) pss_nil)
      (pss_one (ps_ret (pe_tup (pa_cons (pv 5) (pa_cons (pv 6) (pa_cons (pv 7) pa_nil)))))))))), fn_do (N := N_l_bent_parts) (fun x hx => ?_) h⟩
  obtain ⟨spot, ray, paper, spoil, way, at', step, cell, n⟩ := x
  obtain ⟨h1, h2, h3, h4, h5, h6, h7, h8⟩ := hx
  have h1 : SpotOk 1000 spot := h1
  have h2 : SpotOk 1000 ray := h2
  have h3 : PaperOk 1000 paper := h3
  have h4 : paper.length ≤ 40 := h4
  have h5 : spot.length ≤ 40 := h5
  have h6 : ray.length ≤ 40 := h6
  have h7 : Sm 100 step := h7
  have h8 : n ≤ 8 := h8
  show Do K _ [.fz (partsD spot ray paper), .fz (.int spoil), .fz (.tup [.int way, .int at', .int step]), .fz (.int cell), .fz (.int n), .no, .no, .no] (ends fun d => ∃ s r p, d = partsD s r p ∧ SpotOk 5000 s ∧ SpotOk 5000 r ∧ PaperOk 5000 p)
  refine do_seq (do_asgG (d := partsD spot ray paper) (ev_var rfl) (g_tup (gs_cons g_name (gs_cons g_name (gs_cons g_name gs_nil)))) ?_)
  show Do K _ [.fz (partsD spot ray paper), .fz (.int spoil), .fz (.tup [.int way, .int at', .int step]), .fz (.int cell), .fz (.int n), .fz (tupI spot), .fz (tupI ray), .fz (linesL paper)] _
  refine do_cut (fun ρ => ∃ s', SpotOk 5000 s' ∧ ρ = [.fz (partsD spot ray paper), .fz (.int spoil), .fz (.tup [.int way, .int at', .int step]), .fz (.int cell), .fz (.int n), .fz (tupI s'), .fz (tupI ray), .fz (linesL paper)]) ?_ ?_
  · refine do_if (by walk_at "et") (fun _ => ?_) (fun _ => do_next ⟨spot, h1.mono12 (by decide), rfl⟩)
    refine do_asgP (evp_call (spot, way, at', step) (by walk_at "ea") ⟨h1, h5, h7⟩) ?_
    rintro d ⟨s', rfl, hs⟩
    exact ⟨s', hs, rfl⟩
  rintro ρ' ⟨s', hs, rfl⟩
  refine do_cut (fun ρ => ∃ r', SpotOk 5000 r' ∧ ρ = [.fz (partsD spot ray paper), .fz (.int spoil), .fz (.tup [.int way, .int at', .int step]), .fz (.int cell), .fz (.int n), .fz (tupI s'), .fz (tupI r'), .fz (linesL paper)]) ?_ ?_
  · refine do_if (by walk_at "et") (fun _ => ?_) (fun _ => do_next ⟨ray, h2.mono12 (by decide), rfl⟩)
    refine do_asgP (evp_call (ray, way, at', step) (by walk_at "ea") ⟨h2, h6, h7⟩) ?_
    rintro d ⟨r', rfl, hr⟩
    exact ⟨r', hr, rfl⟩
  rintro ρ' ⟨r', hr, rfl⟩
  refine do_cut (fun ρ => ∃ p', PaperOk 5000 p' ∧ ρ = [.fz (partsD spot ray paper), .fz (.int spoil), .fz (.tup [.int way, .int at', .int step]), .fz (.int cell), .fz (.int n), .fz (tupI s'), .fz (tupI r'), .fz (linesL p')]) ?_ ?_
  · refine do_if (b := decide (spoil = 4) && !(paper.map lineD).isEmpty) (by walk_at "et") (fun hb => ?_) (fun _ => do_next ⟨paper, h3.mono12 (by decide), rfl⟩)
    have hs := empty12 (f := lineD) (xs := paper) (Bool.and_eq_true_iff.mp hb).2
    refine do_asgP (P := fun d => ∃ p, d = linesL p ∧ PaperOk 5000 p) (evp_callP (eap_cons ((ev_var rfl).p (P := fun d => d = .int cell) rfl) (eap_cons ((ev_var rfl).p (P := fun d => d = linesL paper) rfl) (eap_cons (evp_call (cell / 7, n) (ea_cons (ev_op (ev_var rfl) ev_int (od_div (by decide) (by decide))) (ea_cons (ev_var rfl) ea_nil)) h8) (ea_nil.p (P := fun xs => xs = []) rfl)))) ?_) ?_
    · rintro ds ⟨d1, ds1, rfl, rfl, d2, ds2, rfl, rfl, d3, ds3, rfl, ⟨l, rfl, hl⟩, rfl⟩
      exact ⟨(cell, paper, l), rfl, ⟨fun e => by have e : paper = [] := e; rw [e] at hs; simp at hs, h3, h4, hl⟩, fun d h => h⟩
    · rintro d ⟨p', rfl, hp⟩
      exact ⟨p', hp, rfl⟩
  rintro ρ' ⟨p', hp, rfl⟩
  exact do_ret (d := partsD s' r' p') (by walk_at "ev") ⟨s', r', p', rfl, hs, hr, hp⟩

theorem ok_l_bent {a : Addr} {fd : FuncData} (F : Fun K "_law_bent" "_law_bent" s_l_bent a fd) (T : Tx mg)  : FnOk P w K mg base CX0 1 a fd P_l_bent (sp_l_bent K) := by
  refine F.ok sc_l_bent (fun vs H Q E h => sp_len (n := 4) (fun _ => rfl) vs H Q E h) (fun cdv A outer s H vs Q E hr h => ?_)
  refine ⟨_, (pss_cons (ps_if (pt_cmpR op_eq (pe_ix (ix_k K) (pv 0) pe_int (fun _ _ => rfl)) pe_str (nomark _)) (pss_one (ps_ret (pe_tup (pa_cons pe_str (pa_cons (pe_ix (ix_k K) (pe_lst (pa_cons (pe_op (add_k K) (pe_ix (ix_k K) (pv 0) pe_int (fun _ _ => rfl)) (pv 3)) (pa_cons (pe_un un_neg pe_int) pa_nil))) (pe_callTy int_k (by rfl) T.int bt_int (pa_cons (pe_cmpR op_eq (pv 1) pe_int (nomark _)) pa_nil)) (fun _ _ => rfl)) pa_nil))))) pss_nil)
      (pss_cons (ps_if (pt_cmpR op_eq (pe_ix (ix_k K) (pv 0) pe_int (fun _ _ => rfl)) pe_str (nomark _)) (pss_cons (ps_set (i := 4) sc_l_bent.nd rfl (Or.inl rfl) (pe_callTy (list_k K) (by rfl) T.list bt_list (pa_cons (pe_ix (ix_k K) (pv 0) pe_int (fun _ _ => rfl)) pa_nil)))
      (pss_cons (ps_if (pt_cmpR op_eq (pv 1) pe_int (nomark _)) (pss_one (ps_ret (pe_tup (pa_cons pe_str (pa_cons (pe_ix (ix_k K) (pv 0) pe_int (fun _ _ => rfl)) (pa_cons (pe_op (add_k K) (pe_ix (ix_k K) (pv 0) pe_int (fun _ _ => rfl)) (pv 3)) pa_nil)))))) pss_nil)
      (pss_cons (ps_if (PW.pt (pw_and (pt_cmpR op_eq (pv 1) pe_int (nomark _)) (pw_and1 (tr_k K (pv 4))))) (pss_cons (ps_augS (pv 4) (pe_op op_mod (pv 2) (pe_callB (len_k K) (by rfl) T.len bt_len (pa_cons (pv 4) pa_nil))) (get_k K) (pv 3) ip_add set_list)
      (pss_one (ps_ret (pe_tup (pa_cons pe_str (pa_cons (pe_callTy (tuple_k K) (by rfl) T.tuple bt_tuple (pa_cons (pv 4) pa_nil)) (pa_cons (pe_ix (ix_k K) (pv 0) pe_int (fun _ _ => rfl)) pa_nil))))))) pss_nil)
      (pss_cons (ps_if (pt_cmpR op_eq (pv 1) pe_int (nomark _)) (pss_one (ps_ret (pe_tup (pa_cons pe_str (pa_cons (pe_op (add_k K) (pe_ix (ix_k K) (pv 0) pe_int (fun _ _ => rfl)) (pe_tup (pa_cons pe_int pa_nil))) (pa_cons (pe_ix (ix_k K) (pv 0) pe_int (fun _ _ => rfl)) pa_nil)))))) pss_nil)
      (pss_one (ps_ret (pe_tup (pa_cons pe_str (pa_cons (pe_slice (sl_k K) (pe_ix (ix_k K) (pv 0) pe_int (fun _ _ => rfl)) (po_some pe_int) po_none) (pa_cons (pe_ix (ix_k K) (pv 0) pe_int (fun _ _ => rfl)) pa_nil)))))))))) pss_nil)
      (pss_cons (ps_set (i := 5) sc_l_bent.nd rfl (Or.inl rfl) (pe_callTy (list_k K) (by rfl) T.list bt_list (pa_cons (pe_ix (ix_k K) (pv 0) pe_int (fun _ _ => rfl)) pa_nil)))
      (pss_cons (ps_if (pt_not (tr_k K (pv 5))) (pss_one (ps_ret (pv 0))) pss_nil)
      (pss_cons (ps_asg (pe_ix (ix_k K) (pv 5) (pe_op op_mod (pv 2) (pe_callB (len_k K) (by rfl) T.len bt_len (pa_cons (pv 5) pa_nil))) (fun _ _ => rfl)) (tup_k K (n := 2) (pgs_cons (pg_name (i := 6) sc_l_bent.nd rfl (Or.inl rfl)) (pgs_cons (pg_name (i := 7) sc_l_bent.nd rfl (Or.inl rfl)) pgs_nil))))
      (pss_cons (ps_asg (pe_tup (pa_cons (pe_op (add_k K) (pv 6) (pv 3)) (pa_cons (pv 7) pa_nil))) (pg_sub (pv 5) (pe_op op_mod (pv 2) (pe_callB (len_k K) (by rfl) T.len bt_len (pa_cons (pv 5) pa_nil))) set_list))
      (pss_cons (ps_if (pt_cmpR op_eq (pv 1) pe_int (nomark _)) (pss_one (ps_asg (pe_tup (pa_cons (pv 6) (pa_cons (pe_op (add_k K) (pv 7) (pv 3)) pa_nil))) (pg_sub (pv 5) (pe_op op_mod (pv 2) (pe_callB (len_k K) (by rfl) T.len bt_len (pa_cons (pv 5) pa_nil))) set_list))) pss_nil)
      (pss_cons (ps_if (pt_cmpR op_eq (pv 1) pe_int (nomark _)) (pss_one (ps_ret (pe_tup (pa_cons pe_str (pa_cons (pe_ix (ix_k K) (pv 0) pe_int (fun _ _ => rfl)) (pa_cons (pe_op (add_k K) (pe_ix (ix_k K) (pv 0) pe_int (fun _ _ => rfl)) (pv 3)) pa_nil)))))) pss_nil)
      (pss_cons (ps_if (pt_cmpR op_eq (pv 1) pe_int (nomark _)) (pss_one (ps_set (i := 5) sc_l_bent.nd rfl (Or.inl rfl) (pe_op (add_k K) (pe_slice (sl_k K) (pv 5) po_none (po_some (pe_op op_mod (pv 2) (pe_callB (len_k K) (by rfl) T.len bt_len (pa_cons (pv 5) pa_nil))))) (pe_slice (sl_k K) (pv 5) (po_some (pe_op (add_k K) (pe_op op_mod (pv 2) (pe_callB (len_k K) (by rfl) T.len bt_len (pa_cons (pv 5) pa_nil))) pe_int)) po_none)))) pss_nil)
      (pss_one (ps_ret (pe_tup (pa_cons pe_str (pa_cons (pe_callTy (tuple_k K) (by rfl) T.tuple bt_tuple (pa_cons (pv 5) pa_nil)) (pa_cons (pe_ix (ix_k K) (pv 0) pe_int (fun _ _ => rfl)) pa_nil))))))))))))))), fn_do (N := N_l_bent) (fun x hx => ?_) h⟩
  obtain ⟨l, way, at', step⟩ := x
  obtain ⟨h1, h2, h3⟩ := hx
  have h1 : LineOk 1000 l := h1
  have h2 : -100 ≤ step := h2
  have h3 : step ≤ 100 := h3
  cases l with
  | shut m =>
    show Do K _ [.fz (.tup [.str "shut", .int m]), .fz (.int way), .fz (.int at'), .fz (.int step), .no, .no, .no, .no] (ends fun d => ∃ l, d = lineD l ∧ LineOk 2000 l)
    refine do_seq (do_if (b := true) ((?_ : EvT K _ _ (decide (("shut" : Str) = "shut"))).to (by decide +kernel)) (fun _ => ?_) (fun q => nomatch q))
    · walk_at "et"
    have hix : atI [Dt.int (m + step), .int (-1)] (if decide (way = 3) = true then 1 else 0) = some (.int (if way = 3 then -1 else m + step)) := by
      by_cases hw : way = 3
      · rw [if_pos hw, if_pos (by simpa using hw)]; rfl
      · rw [if_neg hw, if_neg (by simpa using hw)]; rfl
    exact do_ret (d := lineD (.shut (if way = 3 then -1 else m + step))) (EvD.to (d := .tup [.str "shut", .int (if way = 3 then -1 else m + step)]) (ev_tup (ea_cons ev_str (ea_cons (ev_op (x := .lst [.int (m + step), .int (-1)]) (by walk_at "ev") (by walk_at "ev") (od_ixL hix)) ea_nil))) rfl) ⟨_, rfl, trivial⟩
  | choice es k =>
    have h1 : (es.length : Int) * 20 ≤ 1000 := h1
    have himm := imm_tupI es
    show Do K _ [.fz (.tup [.str "choice", tupI es, .int k]), .fz (.int way), .fz (.int at'), .fz (.int step), .no, .no, .no, .no] (ends fun d => ∃ l, d = lineD l ∧ LineOk 2000 l)
    refine do_seq (do_if (b := false) ((?_ : EvT K _ _ (decide (("choice" : Str) = "shut"))).to (by decide +kernel)) (fun q => nomatch q) (fun _ => do_next ?_))
    · walk_at "et"
    refine do_seq (do_if (b := true) ((?_ : EvT K _ _ (decide (("choice" : Str) = "choice"))).to (by decide +kernel)) (fun _ => ?_) (fun q => nomatch q))
    · walk_at "et"
    refine do_seq (do_asgN (ds := es.map Dt.int) (by walk_at "en") ?_)
    show Do K _ [.fz (.tup [.str "choice", tupI es, .int k]), .fz (.int way), .fz (.int at'), .fz (.int step), .mt (es.map Dt.int), .no, .no, .no] _
    refine do_seq (do_if (by walk_at "et") (fun _ => ?_) (fun _ => do_next ?_))
    · exact do_ret (d := lineD (.choice es (k + step))) (EvD.to (d := .tup [.str "choice", tupI es, .int (k + step)]) (by walk_at "ev") rfl) ⟨_, rfl, by show (es.length : Int) * 20 ≤ 2000; omega⟩
    refine do_seq (do_if (b := decide (way = 1) && !(es.map Dt.int).isEmpty) (by walk_at "et") (fun hb => ?_) (fun _ => do_next ?_))
    · have hs := empty12 (f := Dt.int) (xs := es) (Bool.and_eq_true_iff.mp hb).2
      obtain ⟨j, hj, hjl⟩ := mod12 at' hs
      refine do_seq (do_augL (i := 4) (j := j) (n := at' % (es.length : Int)) (a := es[j]) (b := step) rfl (ev_peek (i := 4) rfl (ev_op (y := .int (es.length : Nat)) (ev_var rfl) (by walk_at "ev") (od_mod (by omega))) (imm_int _)) hj (by rw [List.getElem?_map, List.getElem?_eq_getElem hjl]; rfl) (ev_var rfl) ?_)
      show Do K _ [.fz (.tup [.str "choice", tupI es, .int k]), .fz (.int way), .fz (.int at'), .fz (.int step), .mt ((es.map Dt.int).set j (.int (es[j] + step))), .no, .no, .no] _
      rw [← List.map_set]
      refine do_freeze (i := 4) rfl ?_
      exact do_ret (d := lineD (.choice (es.set j (es[j] + step)) k)) (EvD.to (d := .tup [.str "choice", tupI (es.set j (es[j] + step)), .int k]) (by walk_at "ev") rfl) ⟨_, rfl, by show ((es.set j (es[j] + step)).length : Int) * 20 ≤ 2000; rw [List.length_set]; omega⟩
    refine do_seq (do_if (by walk_at "et") (fun _ => ?_) (fun _ => do_next ?_))
    · exact do_ret (d := lineD (.choice (es ++ [0]) k)) (ev_tup (ea_cons ev_str (ea_cons (catT12 (f := Dt.int) (as := es) (bs := [0]) (by walk_at "ev") (ev_tup (ea_cons ev_int ea_nil)) (by simp; omega)) (by walk_at "ea")))) ⟨_, rfl, by show ((es ++ [0]).length : Int) * 20 ≤ 2000; simp; omega⟩
    have := cut_len12 es (some 1) none
    exact do_ret (d := lineD (.choice (cut es (some 1) none) k)) (ev_tup (ea_cons ev_str (ea_cons (slcT12 (f := Dt.int) (ns := es) (by walk_at "ev") (eo_some ev_int) eo_none) (by walk_at "ea")))) ⟨_, rfl, by show ((cut es (some 1) none).length : Int) * 20 ≤ 2000; omega⟩
  | cut sh dv =>
    obtain ⟨k1, k2, k3⟩ := h1
    have himm := imm_map imm_sh sh
    have k4 : Sm 2000 (dv + step) := by
      obtain ⟨q1, q2⟩ := k2
      constructor <;> omega
    show Do K _ [.fz (.tup [.str "cut", .tup (sh.map shD), .int dv]), .fz (.int way), .fz (.int at'), .fz (.int step), .no, .no, .no, .no] (ends fun d => ∃ l, d = lineD l ∧ LineOk 2000 l)
    refine do_seq (do_if (b := false) ((?_ : EvT K _ _ (decide (("cut" : Str) = "shut"))).to (by decide +kernel)) (fun q => nomatch q) (fun _ => do_next ?_))
    · walk_at "et"
    refine do_seq (do_if (b := false) ((?_ : EvT K _ _ (decide (("cut" : Str) = "choice"))).to (by decide +kernel)) (fun q => nomatch q) (fun _ => do_next ?_))
    · walk_at "et"
    refine do_seq (do_asgN (ds := sh.map shD) (by walk_at "en") ?_)
    show Do K _ [.fz (.tup [.str "cut", .tup (sh.map shD), .int dv]), .fz (.int way), .fz (.int at'), .fz (.int step), .no, .mt (sh.map shD), .no, .no] _
    refine do_seq (do_if (b := !(!(sh.map shD).isEmpty)) (by walk_at "et") (fun _ => ?_) (fun hb => do_next ?_))
    · exact do_ret (d := lineD (.cut sh dv)) (EvD.to (d := .tup [.str "cut", .tup (sh.map shD), .int dv]) (ev_var rfl) rfl) ⟨_, rfl, fun s hs => (k1 s hs).mono12 (by decide), k2.mono12 (by decide), k3⟩
    have hs := empty12 (f := shD) (xs := sh) (by simpa using hb)
    obtain ⟨j, hj, hjl⟩ := mod12 at' hs
    have hix := at12 shD sh hjl
    have hw := k1 _ (List.getElem_mem hjl)
    generalize sh[j] = r at hix hw
    obtain ⟨u, v⟩ := r
    have hw1 : -1000 ≤ v := hw.1
    have hw2 : v ≤ 1000 := hw.2
    have emod : ∀ {ρ : List Sl} {sh' : List (Int × Int)}, ρ[2]? = some (.fz (.int at')) → ρ[5]? = some (.fz (.lst (sh'.map shD))) → sh'.length = sh.length → EvD K (tOp (rI (fun _ j => 0 < j) fun i j => .int (i % j)) (tVar 2) (tCB (Evl.rLenS K) (tCons (tVar 5) tNil))) ρ (.int (j : Int)) := fun e1 e2 e3 =>
      (ev_op (y := .int (sh.length : Nat)) (ev_var e1) ((ev_cb (ea_cons (ev_var e2) ea_nil) cb_lenLm).to (by rw [e3])) (od_mod (by omega))).to (by rw [hj])
    refine do_seq (do_asgG (d := shD (u, v)) (ev_peek (i := 5) rfl (ev_op (x := .lst (sh.map shD)) (ev_var rfl) (emod rfl rfl rfl) (od_ixL hix)) (imm_sh _)) (g_tup (gs_cons g_name (gs_cons g_name gs_nil))) ?_)
    show Do K _ [.fz (.tup [.str "cut", .tup (sh.map shD), .int dv]), .fz (.int way), .fz (.int at'), .fz (.int step), .no, .mt (sh.map shD), .fz (.int u), .fz (.int v)] _
    refine do_seq (do_setL (i := 5) (j := j) (n := (j : Int)) (d := shD (u + step, v)) rfl (ev_tup (ea_cons (ev_op (ev_var rfl) (ev_var rfl) od_add) (ea_cons (ev_var rfl) ea_nil))) (ev_peek (i := 5) rfl (emod rfl rfl rfl) (imm_int _)) rfl (by simpa using hjl) ?_)
    show Do K _ [.fz (.tup [.str "cut", .tup (sh.map shD), .int dv]), .fz (.int way), .fz (.int at'), .fz (.int step), .no, .mt ((sh.map shD).set j (shD (u + step, v))), .fz (.int u), .fz (.int v)] _
    rw [← List.map_set]
    have s1 : ∀ s ∈ sh.set j (u + step, v), Sm 2000 s.2 := fun s hs => by
      rcases List.mem_or_eq_of_mem_set hs with hs | rfl
      · exact (k1 s hs).mono12 (by decide)
      · constructor <;> simp <;> omega
    have s2 : (sh.set j (u + step, v)).length = sh.length := List.length_set
    generalize sh.set j (u + step, v) = sh1 at s1 s2
    refine do_cut (fun ρ => ∃ sh2 : List (Int × Int), (∀ s ∈ sh2, Sm 2000 s.2) ∧ sh2.length = sh.length ∧ ρ = [.fz (.tup [.str "cut", .tup (sh.map shD), .int dv]), .fz (.int way), .fz (.int at'), .fz (.int step), .no, .mt (sh2.map shD), .fz (.int u), .fz (.int v)]) ?_ ?_
    · refine do_if (by walk_at "et") (fun _ => ?_) (fun _ => do_next ⟨sh1, s1, s2, rfl⟩)
      refine do_setL (i := 5) (j := j) (n := (j : Int)) (d := shD (u, v + step)) rfl (ev_tup (ea_cons (ev_var rfl) (ea_cons (ev_op (ev_var rfl) (ev_var rfl) od_add) ea_nil))) (ev_peek (i := 5) rfl (emod rfl rfl s2) (imm_int _)) rfl (by rw [List.length_map]; omega) ?_
      refine ⟨sh1.set j (u, v + step), fun s hs => ?_, by rw [List.length_set]; exact s2, by rw [List.map_set]; rfl⟩
      rcases List.mem_or_eq_of_mem_set hs with hs | rfl
      · exact s1 s hs
      · constructor <;> simp <;> omega
    rintro ρ' ⟨sh2, t1, t2, rfl⟩
    refine do_freeze (i := 5) rfl ?_
    show Do K _ [.fz (.tup [.str "cut", .tup (sh.map shD), .int dv]), .fz (.int way), .fz (.int at'), .fz (.int step), .no, .fz (.lst (sh2.map shD)), .fz (.int u), .fz (.int v)] _
    refine do_seq (do_if (by walk_at "et") (fun _ => ?_) (fun _ => do_next ?_))
    · exact do_ret (d := lineD (.cut sh (dv + step))) (EvD.to (d := .tup [.str "cut", .tup (sh.map shD), .int (dv + step)]) (by walk_at "ev") rfl) ⟨_, rfl, fun s hs => (k1 s hs).mono12 (by decide), k4, k3⟩
    refine do_cut (fun ρ => ∃ sh3 : List (Int × Int), (∀ s ∈ sh3, Sm 2000 s.2) ∧ sh3.length ≤ 100 ∧ ρ = [.fz (.tup [.str "cut", .tup (sh.map shD), .int dv]), .fz (.int way), .fz (.int at'), .fz (.int step), .no, .fz (.lst (sh3.map shD)), .fz (.int u), .fz (.int v)]) ?_ ?_
    · refine do_if (by walk_at "et") (fun _ => ?_) (fun _ => do_next ⟨sh2, t1, by omega, rfl⟩)
      have l1 := cut_len12 sh2 none (some (j : Int))
      have l2 := cut_len12 sh2 (some ((j : Int) + 1)) none
      have l3 : (cut sh2 none (some (j : Int)) ++ cut sh2 (some ((j : Int) + 1)) none).length ≤ 100 := by
        rw [cut_pre12 _ _ (by omega), show (j : Int) + 1 = ((j + 1 : Nat) : Int) by omega, cut_suf12 _ _ (by omega)]
        simp
        omega
      refine do_asg (cat12 (slc12 (ns := sh2) (ev_var rfl) eo_none (eo_some (emod rfl rfl t2))) (slc12 (ns := sh2) (ev_var rfl) (eo_some (ev_op (emod rfl rfl t2) ev_int od_add)) eo_none) (by omega)) ⟨_, fun s hs => ?_, l3, rfl⟩
      rcases List.mem_append.mp hs with hs | hs
      · exact t1 s (cut_mem12 hs)
      · exact t1 s (cut_mem12 hs)
    rintro ρ' ⟨sh3, u1, u2, rfl⟩
    exact do_ret (d := lineD (.cut sh3 dv)) (EvD.to (d := .tup [.str "cut", .tup (sh3.map shD), .int dv]) (by walk_at "ev") rfl) ⟨_, rfl, u1, k2.mono12 (by decide), u2⟩

theorem ok_l_spoilt {a : Addr} {fd : FuncData} (F : Fun K "_law_spoilt" "_law_spoilt" s_l_spoilt a fd) (T : Tx mg) (D_l_bent : Def P w K mg base 1 "_law_bent" P_l_bent (sp_l_bent K)) (D_l_draws : Def P w K mg base 1 "_law_draws" P_l_draws (sp_l_draws K)) : FnOk P w K mg base CX0 2 a fd P_l_spoilt (sp_l_spoilt K) := by
  refine F.ok sc_l_spoilt (fun vs H Q E h => sp_len (n := 3) (fun _ => rfl) vs H Q E h) (fun cdv A outer s H vs Q E hr h => ?_)
  refine ⟨_, (pss_cons (ps_set (i := 3) sc_l_spoilt.nd rfl (Or.inl rfl) (pe_def D_l_draws hr (by rfl) (pa_cons (pv 0) (pa_cons pe_int (pa_cons (pe_lst (pa_cons pe_int (pa_cons (pe_callB (len_k K) (by rfl) T.len bt_len (pa_cons (pv 1) pa_nil)) (pa_cons pe_int (pa_cons pe_int (pa_cons pe_int pa_nil)))))) pa_nil)))))
      (pss_cons (ps_set (i := 4) sc_l_spoilt.nd rfl (Or.inl rfl) (pe_ix (ix_k K) (pv 3) pe_int (fun _ _ => rfl)))
      (pss_cons (ps_if (pt_cmpR op_eq (pe_ix (ix_k K) (pv 3) pe_int (fun _ _ => rfl)) pe_int (nomark _)) (pss_one (ps_ret (pe_op (add_k K) (pe_slice (sl_k K) (pv 1) po_none (po_some (pv 4))) (pe_slice (sl_k K) (pv 1) (po_some (pe_op (add_k K) (pv 4) pe_int)) po_none)))) pss_nil)
      (pss_cons (ps_if (pt_cmpR op_eq (pe_ix (ix_k K) (pv 3) pe_int (fun _ _ => rfl)) pe_int (nomark _)) (pss_one (ps_ret (pe_op (add_k K) (pe_op (add_k K) (pe_slice (sl_k K) (pv 1) po_none (po_some (pv 4))) (pe_lst (pa_cons (pe_ix (ix_k K) (pv 1) (pv 4) (fun _ _ => rfl)) pa_nil))) (pe_slice (sl_k K) (pv 1) (po_some (pv 4)) po_none)))) pss_nil)
      (pss_cons (ps_if (pt_cmpR op_eq (pe_ix (ix_k K) (pv 3) pe_int (fun _ _ => rfl)) pe_int (nomark _)) (pss_cons (ps_set (i := 5) sc_l_spoilt.nd rfl (Or.inl rfl) (pe_slice (sl_k K) (pv 1) (po_some (pe_op (add_k K) (pv 4) pe_int)) po_none))
      (pss_one (ps_ret (pe_op (add_k K) (pe_op (add_k K) (pe_op (add_k K) (pe_slice (sl_k K) (pv 1) po_none (po_some (pv 4))) (pe_slice (sl_k K) (pv 5) po_none (po_some pe_int))) (pe_lst (pa_cons (pe_ix (ix_k K) (pv 1) (pv 4) (fun _ _ => rfl)) pa_nil))) (pe_slice (sl_k K) (pv 5) (po_some pe_int) po_none))))) pss_nil)
      (pss_cons (ps_if (pt_cmpR op_eq (pe_ix (ix_k K) (pv 3) pe_int (fun _ _ => rfl)) pe_int (nomark _)) (pss_one (ps_ret (pe_op (add_k K) (pe_op (add_k K) (pe_slice (sl_k K) (pv 1) po_none (po_some (pv 4))) (pe_lst (pa_cons (pv 2) pa_nil))) (pe_slice (sl_k K) (pv 1) (po_some (pv 4)) po_none)))) pss_nil)
      (pss_cons (ps_if (pt_cmpR op_gt (pe_ix (ix_k K) (pv 3) pe_int (fun _ _ => rfl)) pe_int (nomark _)) (pss_cons (ps_set (i := 6) sc_l_spoilt.nd rfl (Or.inl rfl) (pe_ix (ix_k K) (pe_lst (pa_cons (pe_un un_neg pe_int) (pa_cons pe_int (pa_cons (pe_op op_sub (pe_un un_neg pe_int) (pv 4)) (pa_cons pe_int (pa_cons (pe_un un_neg pe_int) (pa_cons pe_int pa_nil))))))) (pe_ix (ix_k K) (pv 3) pe_int (fun _ _ => rfl)) (fun _ _ => rfl)))
      (pss_cons (ps_set (i := 7) sc_l_spoilt.nd rfl (Or.inl rfl) (pe_def D_l_bent hr (by rfl) (pa_cons (pe_ix (ix_k K) (pv 1) (pv 4) (fun _ _ => rfl)) (pa_cons (pe_ix (ix_k K) (pv 3) pe_int (fun _ _ => rfl)) (pa_cons (pe_ix (ix_k K) (pv 3) pe_int (fun _ _ => rfl)) (pa_cons (pv 6) pa_nil))))))
      (pss_one (ps_ret (pe_op (add_k K) (pe_op (add_k K) (pe_slice (sl_k K) (pv 1) po_none (po_some (pv 4))) (pe_lst (pa_cons (pv 7) pa_nil))) (pe_slice (sl_k K) (pv 1) (po_some (pe_op (add_k K) (pv 4) pe_int)) po_none)))))) pss_nil)
      (pss_one (ps_ret (pv 1)))))))))), fn_do (N := N_l_spoilt) (fun x hx => ?_) h⟩
  obtain ⟨c, p, fr⟩ := x
  obtain ⟨h1, ⟨h2, h3⟩, h4, h5⟩ := hx
  have h1 : p ≠ [] := h1
  have h3 : ∀ l ∈ p, LineOk 1000 l := h3
  have h4 : p.length ≤ 40 := h4
  have h5 : LineOk 1000 fr := h5
  have hp : 0 < p.length := by
    cases p with
    | nil => exact absurd rfl h1
    | cons x xs => simp
  show Do K _ [.fz (.int c), .fz (linesL p), .fz (lineD fr), .no, .no, .no, .no, .no] (ends fun d => ∃ p, d = linesL p ∧ PaperOk 5000 p)
  refine do_seq (do_asgP (evp_call (c, 10, [8, (p.length : Int), 4, 6, 6]) (ea_cons (ev_var rfl) (ea_cons ev_int (ea_cons (EvN.dt (evn_lst (ea_cons ev_int (ea_cons (ev_cb (ea_cons (ev_var rfl) ea_nil) cb_lenLm) (ea_cons ev_int (ea_cons ev_int (ea_cons ev_int ea_nil))))))) ea_nil))) ⟨smk 10 (by decide), by simp, fun s hs => ?_⟩) ?_)
  · simp at hs
    rcases hs with rfl | rfl | rfl | rfl <;> omega
  rintro d ⟨ns, rfl, hnl, hnd⟩
  obtain ⟨x0, x1, x2, x3, x4, rfl⟩ : ∃ a b c d e, ns = [a, b, c, d, e] := by
    match ns, hnl with
    | [a, b, c, d, e], _ => exact ⟨a, b, c, d, e, rfl⟩
  have y1 := hnd 1 x1 p.length rfl rfl
  have y4 := hnd 4 x4 6 rfl rfl
  clear hnd hnl
  obtain ⟨j, rfl⟩ : ∃ j : Nat, x1 = j := ⟨x1.toNat, by omega⟩
  have hjl : j < p.length := by omega
  have b0 : atI ([x0, (j : Int), x2, x3, x4].map Dt.int) 0 = some (.int x0) := rfl
  have b1 : atI ([x0, (j : Int), x2, x3, x4].map Dt.int) 1 = some (.int j) := rfl
  have b2 : atI ([x0, (j : Int), x2, x3, x4].map Dt.int) 2 = some (.int x2) := rfl
  have b3 : atI ([x0, (j : Int), x2, x3, x4].map Dt.int) 3 = some (.int x3) := rfl
  have b4 : atI ([x0, (j : Int), x2, x3, x4].map Dt.int) 4 = some (.int x4) := rfl
  have hix := at12 lineD p hjl
  have hlo := h3 _ (List.getElem_mem hjl)
  generalize p[j] = l at hix hlo
  refine do_seq (do_asg (d := .int (j : Int)) (ev_op (x := lstI [x0, (j : Int), x2, x3, x4]) (ev_var rfl) ev_int (od_ixL b1)) ?_)
  show Do K _ [.fz (.int c), .fz (linesL p), .fz (lineD fr), .fz (lstI [x0, (j : Int), x2, x3, x4]), .fz (.int (j : Int)), .no, .no, .no] _
  have m : ∀ {lo hi : Option Int}, ∀ q ∈ cut p lo hi, LineOk 5000 q := fun q hq => (h3 q (cut_mem12 hq)).mono12 (by decide)
  have n1 := cut_len12 p none (some (j : Int))
  have n2 := cut_len12 p (some ((j : Int) + 1)) none
  have n3 := cut_len12 p (some (j : Int)) none
  have n4 := cut_pre12 p j (by omega)
  have n5 := cut_suf12 p j (by omega)
  have n6 : cut p (some ((j : Int) + 1)) none = p.drop (j + 1) := cut_suf12 p (j + 1) (by omega)
  have z1 : (cut p none (some (j : Int))).length + (cut p (some ((j : Int) + 1)) none).length ≤ 40 := by
    rw [n4, n6, List.length_take, List.length_drop]
    omega
  have z2 : (cut p none (some (j : Int))).length + (cut p (some (j : Int)) none).length ≤ 40 := by
    rw [n4, n5, List.length_take, List.length_drop]
    omega
  refine do_seq (do_if (by walk_at "et") (fun _ => ?_) (fun _ => do_next ?_))
  · refine do_ret (d := linesL _) (cat12 (slc12 (ns := p) (ev_var rfl) eo_none (eo_some (ev_var rfl))) (slc12 (ns := p) (ev_var rfl) (eo_some (by walk_at "ev")) eo_none) (by omega)) ⟨_, rfl, by rw [List.length_append]; omega, fun q hq => ?_⟩
    rcases List.mem_append.mp hq with hq | hq
    · exact m q hq
    · exact m q hq
  refine do_seq (do_if (by walk_at "et") (fun _ => ?_) (fun _ => do_next ?_))
  · refine do_ret (d := linesL _) (cat12 (cat12 (slc12 (ns := p) (ev_var rfl) eo_none (eo_some (ev_var rfl))) (bs := [l]) (EvN.dt (evn_lst (ea_cons (by walk_at "ev") ea_nil))) (by simp; omega)) (slc12 (ns := p) (ev_var rfl) (eo_some (by walk_at "ev")) eo_none) (by simp; omega)) ⟨_, rfl, by simp; omega, fun q hq => ?_⟩
    rcases List.mem_append.mp hq with hq | hq
    · rcases List.mem_append.mp hq with hq | hq
      · exact m q hq
      · rw [List.mem_singleton.mp hq]
        exact hlo.mono12 (by decide)
    · exact m q hq
  refine do_seq (do_if (by walk_at "et") (fun _ => ?_) (fun _ => do_next ?_))
  · refine do_seq (do_asg (slc12 (ns := p) (ev_var rfl) (eo_some (by walk_at "ev")) eo_none) ?_)
    have w1 := cut_len12 (cut p (some ((j : Int) + 1)) none) none (some 1)
    have w2 := cut_len12 (cut p (some ((j : Int) + 1)) none) (some 1) none
    refine do_ret (d := linesL _) (cat12 (cat12 (cat12 (slc12 (ns := p) (ev_var rfl) eo_none (eo_some (ev_var rfl))) (slc12 (ns := cut p (some ((j : Int) + 1)) none) (ev_var rfl) eo_none (eo_some ev_int)) (by omega)) (bs := [l]) (EvN.dt (evn_lst (ea_cons (by walk_at "ev") ea_nil))) (by simp; omega)) (slc12 (ns := cut p (some ((j : Int) + 1)) none) (ev_var rfl) (eo_some ev_int) eo_none) (by simp; omega)) ⟨_, rfl, ?_, fun q hq => ?_⟩
    · have v1 : (cut (cut p (some ((j : Int) + 1)) none) none (some 1)).length + (cut (cut p (some ((j : Int) + 1)) none) (some 1) none).length ≤ (cut p (some ((j : Int) + 1)) none).length + 1 := by
        generalize cut p (some ((j : Int) + 1)) none = t
        cases t with
        | nil => decide
        | cons y t =>
          have e1 := cut_pre12 (y :: t) 1 (by simp)
          have e2 := cut_suf12 (y :: t) 1 (by simp)
          have e1 : cut (y :: t) none (some 1) = (y :: t).take 1 := e1
          have e2 : cut (y :: t) (some 1) none = (y :: t).drop 1 := e2
          rw [e1, e2]
          simp
          omega
      simp
      omega
    · rcases List.mem_append.mp hq with hq | hq
      · rcases List.mem_append.mp hq with hq | hq
        · rcases List.mem_append.mp hq with hq | hq
          · exact m q hq
          · exact m q (cut_mem12 hq)
        · rw [List.mem_singleton.mp hq]
          exact hlo.mono12 (by decide)
      · exact m q (cut_mem12 hq)
  refine do_seq (do_if (by walk_at "et") (fun _ => ?_) (fun _ => do_next ?_))
  · refine do_ret (d := linesL _) (cat12 (cat12 (slc12 (ns := p) (ev_var rfl) eo_none (eo_some (ev_var rfl))) (bs := [fr]) (EvN.dt (evn_lst (ea_cons (ev_var rfl) ea_nil))) (by simp; omega)) (slc12 (ns := p) (ev_var rfl) (eo_some (by walk_at "ev")) eo_none) (by simp; omega)) ⟨_, rfl, by simp; omega, fun q hq => ?_⟩
    rcases List.mem_append.mp hq with hq | hq
    · rcases List.mem_append.mp hq with hq | hq
      · exact m q hq
      · rw [List.mem_singleton.mp hq]
        exact h5.mono12 (by decide)
    · exact m q hq
  refine do_seq (do_if (by walk_at "et") (fun _ => ?_) (fun _ => do_next ?_))
  · obtain ⟨z, hz, hzs⟩ : ∃ z, atI [Dt.int (-1), .int 1, .int (-1 - (j : Int)), .int 2, .int (-2), .int 1] x4 = some (.int z) ∧ Sm 100 z := by
      have : x4 = 0 ∨ x4 = 1 ∨ x4 = 2 ∨ x4 = 3 ∨ x4 = 4 ∨ x4 = 5 := by omega
      rcases this with rfl | rfl | rfl | rfl | rfl | rfl
      · exact ⟨_, rfl, by constructor <;> decide⟩
      · exact ⟨_, rfl, by constructor <;> decide⟩
      · exact ⟨_, rfl, by constructor <;> omega⟩
      · exact ⟨_, rfl, by constructor <;> decide⟩
      · exact ⟨_, rfl, by constructor <;> decide⟩
      · exact ⟨_, rfl, by constructor <;> decide⟩
    refine do_seq (do_asg (d := .int z) (ev_op (x := .lst [Dt.int (-1), .int 1, .int (-1 - (j : Int)), .int 2, .int (-2), .int 1]) (by walk_at "ev") (by walk_at "ev") (od_ixL hz)) ?_)
    refine do_seq (do_asgP (evp_call (l, x2, x3, z) (by walk_at "ea") ⟨hlo, hzs⟩) ?_)
    rintro d ⟨l', rfl, hl'⟩
    refine do_ret (d := linesL (put p j l')) (putL12 rfl rfl (by omega) (ev_var rfl)) ⟨_, rfl, by rw [put_len _ _ _ hjl]; omega, fun q hq => ?_⟩
    rcases put_mem hq with hq | rfl
    · exact (h3 q hq).mono12 (by decide)
    · exact hl'.mono12 (by decide)
  exact do_ret (d := linesL p) (ev_var rfl) ⟨p, rfl, by omega, fun q hq => (h3 q hq).mono12 (by decide)⟩
end
end Cy
namespace Cy
open PySem PySem.Spec L2 Dr Dl
section
variable {P : Program} {w : World} {K : PySem.W.Frag} {mg : Str → Option Value} {base : Heap}

local macro_rules | `(tactic| walk_at "od") => `(tactic| first
  | with_reducible exact od_add
  | with_reducible exact od_sub
  | with_reducible exact od_lt
  | with_reducible exact od_le
  | with_reducible exact od_gt
  | with_reducible exact od_ge
  | with_reducible exact od_eqI
  | with_reducible exact od_neI
  | with_reducible exact od_eqS
  | with_reducible exact od_eqB
  | with_reducible exact od_isN
  | with_reducible exact od_notN
  | ((with_reducible refine' od_mul ?k1); (case k1 => (first | assumption | exact Or.inl (by omega) | exact Or.inr (by omega))))
  | with_reducible exact od_pow cpow10
  | ((with_reducible refine' od_mod ?k1); (case k1 => (first | assumption | omega)))
  | ((with_reducible refine' od_div ?k1 ?k2); (case k1 => (first | assumption | omega)); (case k2 => (first | assumption | omega)))
  | ((with_reducible refine' od_ixT ?k1); (case k1 => (first | assumption | rfl)))
  | ((with_reducible refine' od_ixL ?k1); (case k1 => (first | assumption | rfl)))
  | ((with_reducible refine' od_ixS ?k1); (case k1 => (first | assumption | rfl)))
  | ((with_reducible refine' od_catT ?k1); (case k1 => (first | assumption | (simp; omega)))))
local macro_rules | `(tactic| walk_at "cb") => `(tactic| first
  | with_reducible exact cb_lenTm
  | with_reducible exact cb_lenLm
  | with_reducible exact cb_lenT
  | with_reducible exact cb_lenL
  | with_reducible exact cb_lenS
  | with_reducible exact cb_tupL
  | with_reducible exact cb_tupT
  | with_reducible exact cb_sum
  | with_reducible exact cb_all
  | with_reducible exact cb_any
  | with_reducible exact cb_abs
  | with_reducible exact cb_max
  | with_reducible exact cb_min
  | with_reducible exact cb_intB)
local macro_rules | `(tactic| walk_at "ev") => `(tactic| first
  | ((with_reducible refine' ev_var ?k1); (case k1 => rfl))
  | with_reducible exact ev_int
  | with_reducible exact ev_non
  | with_reducible exact ev_str
  | with_reducible exact ev_bl
  | ((with_reducible refine' ev_op ?k1 ?k2 ?k3); (case k1 => walk_at "ev"); (case k2 => walk_at "ev"); (case k3 => walk_at "od"))
  | ((with_reducible refine' ev_un ?k1 ud_neg); (case k1 => walk_at "ev"))
  | ((with_reducible refine' ev_tup ?k1 ?k2); (case k1 => walk_at "ea"); (case k2 => (first | (simp; done) | (simp; omega))))
  | ((with_reducible refine' ev_cb ?k1 ?k2); (case k1 => walk_at "ea"); (case k2 => walk_at "cb"))
  | ((with_reducible refine' ev_slT ?k1 ?k2 ?k3); (case k1 => walk_at "ev"); (case k2 => walk_at "eo"); (case k3 => walk_at "eo"))
  | ((with_reducible refine' EvN.dt ?k1); (case k1 => walk_at "en")))
local macro_rules | `(tactic| walk_at "eo") => `(tactic| first
  | with_reducible exact eo_none
  | ((with_reducible refine' eo_some ?k1); (case k1 => walk_at "ev")))
local macro_rules | `(tactic| walk_at "ea") => `(tactic| first
  | with_reducible exact ea_nil
  | ((with_reducible refine' ea_cons ?k1 ?k2); (case k1 => walk_at "ev"); (case k2 => walk_at "ea")))
local macro_rules | `(tactic| walk_at "en") => `(tactic| first
  | ((with_reducible refine' evn_lst ?k1 ?k2); (case k1 => walk_at "ea"); (case k2 => (first | (simp; done) | (simp; omega))))
  | ((with_reducible refine' evn_op ?k1 ?k2 (on_cat ?k3)); (case k1 => walk_at "ev"); (case k2 => walk_at "ev"); (case k3 => (first | assumption | (simp; omega))))
  | ((with_reducible refine' evn_op ?k1 ?k2 (on_rep ?k3 ?k4)); (case k1 => walk_at "ev"); (case k2 => walk_at "ev"); (case k3 => (first | assumption | (simp; omega))); (case k4 => (first | assumption | omega)))
  | ((with_reducible refine' evn_sl ?k1 ?k2 ?k3); (case k1 => walk_at "ev"); (case k2 => walk_at "eo"); (case k3 => walk_at "eo"))
  | ((with_reducible refine' evn_cb ?k1 cb_listL); (case k1 => walk_at "ea"))
  | ((with_reducible refine' evn_cb ?k1 cb_listT); (case k1 => walk_at "ea")))
local macro_rules | `(tactic| walk_at "et") => `(tactic| first
  | ((with_reducible refine' et_cmp ?k1); (case k1 => walk_at "ev"))
  | ((with_reducible refine' et_or ?k1 ?k2); (case k1 => walk_at "et"); (case k2 => (intro _; walk_at "et")))
  | ((with_reducible refine' et_and ?k1 ?k2); (case k1 => walk_at "et"); (case k2 => (intro _; walk_at "et")))
  | ((with_reducible refine' et_not ?k1); (case k1 => walk_at "et"))
  | ((with_reducible refine' et_trM ?k1); (case k1 => rfl))
  | ((with_reducible refine' et_trMs ?k1); (case k1 => rfl))
  | ((with_reducible refine' et_trB ?k1); (case k1 => walk_at "ev"))
  | ((with_reducible refine' et_trT ?k1); (case k1 => walk_at "ev"))
  | ((with_reducible refine' et_trL ?k1); (case k1 => walk_at "ev"))
  | ((with_reducible refine' et_trS ?k1); (case k1 => walk_at "ev")))

theorem ev_isB {ρ : List Sl} {b : Bool} {te : TE} (h : EvD K te ρ (.bl b)) : EvD K (tCB (rIsi K) (tCons te (tCons (tC (.ty "bool")) tNil))) ρ (.bl true) := fun F0 H0 F H σ w Q q =>
  h F0 H0 F H σ w _ fun v F1 H1 a1 hv => ⟨v, .ty "bool", .type "bool", .type "bool", true, rfl, .ty "bool", .base (by cases (show v = .bl b from hv); exact .bl b), if_pos (beq_self_eq_true _), q _ F1 H1 a1 rfl⟩
theorem cpow13 : CPow 10 9 := ⟨by decide, by decide, by decide⟩
theorem ok_p_law {a : Addr} {fd : FuncData} (F : Fun K "law" "law" s_p_law a fd) (T : Tx mg) (D_l_bent_parts : Def P w K mg base 3 "_law_bent_parts" P_l_bent_parts (sp_l_bent_parts K)) (D_l_bent_plan : Def P w K mg base 1 "_law_bent_plan" P_l_bent_plan (sp_l_bent_plan K)) (D_l_cell : Def P w K mg base 1 "_law_cell" P_l_cell (sp_l_cell K)) (D_l_draws : Def P w K mg base 1 "_law_draws" P_l_draws (sp_l_draws K)) (D_l_due : Def P w K mg base 4 "_law_due" P_l_due (sp_l_due K)) (D_l_made : Def P w K mg base 4 "_law_made" P_l_made (sp_l_made K)) (D_l_told : Def P w K mg base 1 "_law_told" P_l_told (sp_l_told K)) (D_p_holds : Def P w K mg base 4 "holds" P_p_holds (sp_p_holds K)) : FnOk P w K mg base CX0 5 a fd P_p_law (sp_p_law K) := by
  refine F.ok sc_p_law (fun vs H Q E h => sp_len (n := 1) (fun _ => rfl) vs H Q E h) (fun cdv A outer s H vs Q E hr h => ?_)
  refine ⟨_, (pss_cons (ps_set (i := 1) sc_p_law.nd rfl (Or.inl rfl) (pe_def D_l_draws hr (by rfl) (pa_cons (pe_def D_l_cell hr (by rfl) (pa_cons (pv 0) (pa_cons pe_int pa_nil))) (pa_cons pe_int (pa_cons (pe_lst (pa_cons pe_int (pa_cons pe_int (pa_cons pe_int (pa_cons pe_int (pa_cons pe_int (pa_cons pe_int (pa_cons pe_int (pa_cons pe_int (pa_cons pe_int (pa_cons pe_int (pa_cons pe_int pa_nil)))))))))))) pa_nil)))))
      (pss_cons (ps_set (i := 2) sc_p_law.nd rfl (Or.inl rfl) (pe_ix (ix_k K) (pv 1) pe_int (fun _ _ => rfl)))
      (pss_cons (ps_set (i := 3) sc_p_law.nd rfl (Or.inl rfl) (pe_ix (ix_k K) (pv 1) pe_int (fun _ _ => rfl)))
      (pss_cons (ps_if (pt_cmpR op_eq (pe_ix (ix_k K) (pv 1) pe_int (fun _ _ => rfl)) pe_int (nomark _)) (pss_one (ps_set (i := 3) sc_p_law.nd rfl (Or.inl rfl) (pe_op (add_k K) pe_int (pe_ix (ix_k K) (pv 1) pe_int (fun _ _ => rfl))))) pss_nil)
      (pss_cons (ps_setLc (i := 4) (own := [("_law_k", 9)]) rfl sc_p_law.nd rfl rfl (sw_true rfl rfl rfl (by decide +kernel)) (pi_range2 (by rfl) T.range (pa_cons pe_int (pa_cons pe_int pa_nil))) (blkOk_by (own := [("_law_k", 9)]) (N := N_p_law) (sc := defScope s_p_law) (by decide +kernel)) (fun _ _ _ _ _ => (pg_name (i := 9) sc_p_law.nd rfl (Or.inl rfl))) (fun _ _ _ _ _ => pts_nil) (fun _ _ _ _ _ => (pe_def D_l_cell hr (by rfl) (pa_cons (pv 0) (pa_cons (pv 9) pa_nil)))))
      (pss_cons (ps_asg (pe_def D_l_made hr (by rfl) (pa_cons (pv 2) (pa_cons (pe_cmpR op_eq (pe_ix (ix_k K) (pv 1) pe_int (fun _ _ => rfl)) pe_int (nomark _)) (pa_cons (pv 4) (pa_cons (pv 3) (pa_cons (pe_ix (ix_k K) (pv 1) pe_int (fun _ _ => rfl)) (pa_cons (pe_ix (ix_k K) (pe_lst (pa_cons pe_int (pa_cons pe_int (pa_cons (pe_op op_pow pe_int pe_int) pa_nil)))) (pe_ix (ix_k K) (pv 1) pe_int (fun _ _ => rfl)) (fun _ _ => rfl)) pa_nil))))))) (tup_k K (n := 2) (pgs_cons (pg_name (i := 5) sc_p_law.nd rfl (Or.inl rfl)) (pgs_cons (pg_name (i := 6) sc_p_law.nd rfl (Or.inl rfl)) pgs_nil))))
      (pss_cons (ps_set (i := 7) sc_p_law.nd rfl (Or.inl rfl) (pe_ix (ix_k K) (pe_lst (pa_cons pe_int (pa_cons (pe_un un_neg pe_int) (pa_cons pe_int (pa_cons (pe_un un_neg pe_int) pa_nil))))) (pe_ix (ix_k K) (pv 1) pe_int (fun _ _ => rfl)) (fun _ _ => rfl)))
      (pss_cons (ps_set (i := 5) sc_p_law.nd rfl (Or.inl rfl) (pe_def D_l_bent_plan hr (by rfl) (pa_cons (pv 5) (pa_cons (pe_ix (ix_k K) (pv 1) pe_int (fun _ _ => rfl)) (pa_cons (pe_ix (ix_k K) (pv 1) pe_int (fun _ _ => rfl)) (pa_cons (pv 7) pa_nil))))))
      (pss_cons (ps_set (i := 6) sc_p_law.nd rfl (Or.inl rfl) (pe_def D_l_bent_parts hr (by rfl) (pa_cons (pv 6) (pa_cons (pe_ix (ix_k K) (pv 1) pe_int (fun _ _ => rfl)) (pa_cons (pe_tup (pa_cons (pe_ix (ix_k K) (pv 1) pe_int (fun _ _ => rfl)) (pa_cons (pe_ix (ix_k K) (pv 1) pe_int (fun _ _ => rfl)) (pa_cons (pv 7) pa_nil)))) (pa_cons (pe_def D_l_cell hr (by rfl) (pa_cons (pv 0) (pa_cons pe_int pa_nil))) (pa_cons (pv 3) pa_nil)))))))
      (pss_cons (ps_set (i := 8) sc_p_law.nd rfl (Or.inl rfl) (pe_def D_p_holds hr (by rfl) (pa_cons (pv 5) (pa_cons (pe_def D_l_told hr (by rfl) (pa_cons (pv 2) (pa_cons (pv 6) pa_nil))) pa_nil))))
      (pss_one (ps_ret (pe_and (pe_callB (isi_k K) (by rfl) T.isinstance bt_isinstance (pa_cons (pv 8) (pa_cons (pe_bltn (v := .ty "bool") (by rfl) T.bool bt_bool rfl) pa_nil))) (pe_one (pe_cmpR op_eq (pv 8) (pe_def D_l_due hr (by rfl) (pa_cons (pv 2) (pa_cons (pv 5) (pa_cons (pv 6) pa_nil)))) (nomark _)))))))))))))))), fn_do (N := N_p_law) (fun x hx => ?_) h⟩
  have hx : x.length ≤ 63 := hx
  show Do K _ [.fz (.scr x), .no, .no, .no, .no, .no, .no, .no, .no, .no] (ends fun d => d = .bl true)
  refine do_seq (do_asgP (P := fun d => ∃ ns, d = lstI ns ∧ Drawn [3, 4, 5, 3, 5, 9, 5, 8, 4, 8, 5] ns) (evp_callP (eap_cons (evp_call (x, 0) (ea_cons (ev_var rfl) (ea_cons ev_int ea_nil)) hx) (eap_cons (ev_int.p (P := fun d => d = .int 1) rfl) (eap_cons (EvD.p (P := fun d => d = lstI [3, 4, 5, 3, 5, 9, 5, 8, 4, 8, 5]) (d := lstI [3, 4, 5, 3, 5, 9, 5, 8, 4, 8, 5])
    (EvN.dt (evn_lst (ea_cons ev_int (ea_cons ev_int (ea_cons ev_int (ea_cons ev_int (ea_cons ev_int (ea_cons ev_int (ea_cons ev_int (ea_cons ev_int (ea_cons ev_int (ea_cons ev_int (ea_cons ev_int ea_nil))))))))))))) rfl) (ea_nil.p (P := fun xs => xs = []) rfl)))) ?_) ?_)
  · rintro ds ⟨d1, ds1, rfl, ⟨c, rfl⟩, d2, ds2, rfl, rfl, d3, ds3, rfl, rfl, rfl⟩
    exact ⟨(c, 1, [3, 4, 5, 3, 5, 9, 5, 8, 4, 8, 5]), rfl, ⟨smk 1 (by decide), by show [(3 : Int), 4, 5, 3, 5, 9, 5, 8, 4, 8, 5].length ≤ 1000; decide, by show ∀ s ∈ [(3 : Int), 4, 5, 3, 5, 9, 5, 8, 4, 8, 5], 0 < s ∧ s < 2 ^ 60; decide⟩, fun d h => h⟩
  rintro d ⟨ns, rfl, hnl, hnd⟩
  obtain ⟨z0, z1, z2, z3, z4, z5, z6, z7, z8, z9, z10, rfl⟩ : ∃ a b c d e f g h i j k, ns = [a, b, c, d, e, f, g, h, i, j, k] := by
    match ns, hnl with
    | [a, b, c, d, e, f, g, h, i, j, k], _ => exact ⟨a, b, c, d, e, f, g, h, i, j, k, rfl⟩
  have y0 := hnd 0 z0 3 rfl rfl
  have y1 := hnd 1 z1 4 rfl rfl
  have y2 := hnd 2 z2 5 rfl rfl
  have y3 := hnd 3 z3 3 rfl rfl
  have y8 := hnd 8 z8 4 rfl rfl
  have y10 := hnd 10 z10 5 rfl rfl
  clear hnd hnl
  obtain ⟨m, rfl⟩ : ∃ m : Nat, z2 = m := ⟨z2.toNat, by omega⟩
  generalize hS : [z0, z1, (m : Int), z3, z4, z5, z6, z7, z8, z9, z10] = sh
  have b0 : atI (sh.map Dt.int) 0 = some (.int z0) := by rw [← hS]; rfl
  have b1 : atI (sh.map Dt.int) 1 = some (.int z1) := by rw [← hS]; rfl
  have b2 : atI (sh.map Dt.int) 2 = some (.int m) := by rw [← hS]; rfl
  have b3 : atI (sh.map Dt.int) 3 = some (.int z3) := by rw [← hS]; rfl
  have b4 : atI (sh.map Dt.int) 4 = some (.int z4) := by rw [← hS]; rfl
  have b5 : atI (sh.map Dt.int) 5 = some (.int z5) := by rw [← hS]; rfl
  have b6 : atI (sh.map Dt.int) 6 = some (.int z6) := by rw [← hS]; rfl
  have b7 : atI (sh.map Dt.int) 7 = some (.int z7) := by rw [← hS]; rfl
  have b8 : atI (sh.map Dt.int) 8 = some (.int z8) := by rw [← hS]; rfl
  have b9 : atI (sh.map Dt.int) 9 = some (.int z9) := by rw [← hS]; rfl
  have b10 : atI (sh.map Dt.int) 10 = some (.int z10) := by rw [← hS]; rfl
  clear hS
  refine do_seq (do_asg (d := .int z0) (ev_op (x := lstI sh) (ev_var rfl) ev_int (od_ixL b0)) ?_)
  refine do_seq (do_asg (d := .int z1) (ev_op (x := lstI sh) (ev_var rfl) ev_int (od_ixL b1)) ?_)
  show Do K _ [.fz (.scr x), .fz (lstI sh), .fz (.int z0), .fz (.int z1), .no, .no, .no, .no, .no, .no] _
  refine do_cut (fun ρ => ∃ n : Nat, n ≤ 8 ∧ ρ = [.fz (.scr x), .fz (lstI sh), .fz (.int z0), .fz (.int n), .no, .no, .no, .no, .no, .no]) ?_ ?_
  · refine do_if (by walk_at "et") (fun _ => ?_) (fun _ => do_next ⟨z1.toNat, by omega, by rw [show ((z1.toNat : Nat) : Int) = z1 by omega]⟩)
    exact do_asg (d := .int (4 + z10)) (by walk_at "ev") ⟨(4 + z10).toNat, by omega, by rw [show (((4 + z10).toNat : Nat) : Int) = 4 + z10 by omega]; rfl⟩
  rintro ρ' ⟨n, hn, rfl⟩
  refine do_seq (do_asgP (EvNP.dt (evnp_lc (Src := fun es => es = rangeD 1 (7 - 1 : Int).toNat) (R := fun es => ∃ l : List Int, l.length = 6 ∧ es = l.map Dt.int) ((ei_range2 (lo := 1) (n := 7) (by walk_at "ea") (by omega)).p rfl) fun es e => ?_)) ?_)
  · subst e
    refine ⟨by rw [rangeD_len]; decide, fun i acc => ∃ l : List Int, l.length = i ∧ acc = l.map Dt.int, ⟨[], rfl, rfl⟩, fun i d acc hd hacc => ?_, fun acc hacc => ?_⟩
    · obtain ⟨hi, rfl⟩ := rangeD_get hd
      obtain ⟨l, hl, rfl⟩ := hacc
      refine ⟨_, _, g_name, by simp, .inl ⟨et_yes, EvP.imp (evp_call (x, 1 + (i : Int)) (ea_cons (ev_var rfl) (ea_cons (ev_var rfl) ea_nil)) hx) ?_⟩⟩
      rintro d ⟨c, rfl⟩
      exact ⟨l ++ [c], by simp [hl], by simp⟩
    · obtain ⟨l, hl, rfl⟩ := hacc
      rw [rangeD_len] at hl
      exact ⟨l, hl, rfl⟩
  rintro d ⟨es, rfl, l, hl, rfl⟩
  show Do K _ [.fz (.scr x), .fz (lstI sh), .fz (.int z0), .fz (.int n), .fz (lstI l), .no, .no, .no, .no, .no] _
  obtain ⟨big, hbig, g1, g2⟩ : ∃ big : Int, atI [Dt.int 3, .int 9, .int (10 ^ (9 : Int).toNat)] z3 = some (.int big) ∧ 1 ≤ big ∧ big ≤ 1000000000 := by
    have : z3 = 0 ∨ z3 = 1 ∨ z3 = 2 := by omega
    rcases this with rfl | rfl | rfl
    · exact ⟨3, rfl, by decide, by decide⟩
    · exact ⟨9, rfl, by decide, by decide⟩
    · exact ⟨_, rfl, by decide, by decide⟩
  refine do_seq (do_asgGP (evp_call (z0, decide (z4 = 0), l, n, m, big) (ea_cons (ev_var rfl) (ea_cons (by walk_at "ev") (ea_cons (ev_var rfl) (ea_cons (ev_var rfl) (ea_cons (by walk_at "ev") (ea_cons (ev_op (x := .lst [Dt.int 3, .int 9, .int (10 ^ (9 : Int).toNat)]) (EvN.dt (evn_lst (ea_cons ev_int (ea_cons ev_int (ea_cons (ev_op ev_int ev_int (od_pow cpow13)) ea_nil))))) (by walk_at "ev") (od_ixL hbig)) ea_nil)))))) ⟨hl, hn, by show m ≤ 4; omega, g1, g2⟩) ?_)
  rintro d ⟨p, spot, ray, paper, rfl, hp, hs, hr, hpa, l1, l2, l3⟩
  refine ⟨_, _, g_tup (gs_cons g_name (gs_cons g_name gs_nil)), ?_⟩
  show Do K _ [.fz (.scr x), .fz (lstI sh), .fz (.int z0), .fz (.int n), .fz (lstI l), .fz (planD p), .fz (partsD spot ray paper), .no, .no, .no] _
  have hp : PlanOk n p := hp
  obtain ⟨st, hst, hsm⟩ : ∃ st : Int, atI [Dt.int 1, .int (-1), .int 2, .int (-3)] z8 = some (.int st) ∧ Sm 100 st := by
    have : z8 = 0 ∨ z8 = 1 ∨ z8 = 2 ∨ z8 = 3 := by omega
    rcases this with rfl | rfl | rfl | rfl
    · exact ⟨_, rfl, by constructor <;> decide⟩
    · exact ⟨_, rfl, by constructor <;> decide⟩
    · exact ⟨_, rfl, by constructor <;> decide⟩
    · exact ⟨_, rfl, by constructor <;> decide⟩
  refine do_seq (do_asg (d := .int st) (ev_op (x := .lst [Dt.int 1, .int (-1), .int 2, .int (-3)]) (by walk_at "ev") (by walk_at "ev") (od_ixL hst)) ?_)
  refine do_seq (do_asgP (evp_call (n, p, z5, z7, st) (by walk_at "ea") hp) ?_)
  rintro d ⟨p', rfl, hp'⟩
  have hp' : PlanOk n p' := hp'
  show Do K _ [.fz (.scr x), .fz (lstI sh), .fz (.int z0), .fz (.int n), .fz (lstI l), .fz (planD p'), .fz (partsD spot ray paper), .fz (.int st), .no, .no] _
  refine do_seq (do_asgP (P := fun d => ∃ s r q, d = partsD s r q ∧ SpotOk 5000 s ∧ SpotOk 5000 r ∧ PaperOk 5000 q) (evp_callP (eap_cons ((ev_var rfl).p (P := fun d => d = partsD spot ray paper) rfl) (eap_cons (EvD.p (P := fun d => d = .int z5) (by walk_at "ev") rfl) (eap_cons (EvD.p (P := fun d => d = .tup [.int z6, .int z7, .int st]) (d := .tup [.int z6, .int z7, .int st]) (by walk_at "ev") rfl)
    (eap_cons (evp_call (x, 7) (ea_cons (ev_var rfl) (ea_cons ev_int ea_nil)) hx) (eap_cons ((ev_var rfl).p (P := fun d => d = .int n) rfl) (ea_nil.p (P := fun xs => xs = []) rfl)))))) ?_) ?_)
  · rintro ds ⟨d1, ds1, rfl, rfl, d2, ds2, rfl, rfl, d3, ds3, rfl, rfl, d4, ds4, rfl, ⟨c, rfl⟩, d5, ds5, rfl, rfl, rfl⟩
    exact ⟨⟨spot, ray, paper, z5, z6, z7, st, c, n⟩, rfl, ⟨hs, hr, hpa, l1, l2, l3, hsm, hn⟩, fun d h => h⟩
  rintro d ⟨s, r, q, rfl, hs', hr', hq'⟩
  show Do K _ [.fz (.scr x), .fz (lstI sh), .fz (.int z0), .fz (.int n), .fz (lstI l), .fz (planD p'), .fz (partsD s r q), .fz (.int st), .no, .no] _
  have ht : ToldOk (mkTold z0 s r q) := by
    unfold mkTold
    split
    · exact hq'
    · split
      · exact ⟨hs', hr'⟩
      · exact ⟨hs', hq'⟩
  refine do_seq (do_asg (d := .bl (holdsV p' (mkTold z0 s r q))) (ev_call (n, p', mkTold z0 s r q) (ea_cons (ev_var rfl) (ea_cons (ev_call (z0, s, r, q) (ea_cons (ev_var rfl) (ea_cons (ev_var rfl) ea_nil)) trivial) ea_nil)) ⟨hp', ht⟩) ?_)
  refine do_ret (d := .bl true) (EvD.to (ev_and (ev_isB (b := holdsV p' (mkTold z0 s r q)) (ev_var rfl)) fun _ => ev_op (x := .bl (holdsV p' (mkTold z0 s r q))) (y := .bl (holdsV p' (mkTold z0 s r q))) (ev_var rfl) (ev_call (z0, n, p', s, r, q) (ea_cons (ev_var rfl) (ea_cons (ev_var rfl) (ea_cons (ev_var rfl) ea_nil))) ⟨by omega, hp', hs', hr', hq'⟩) od_eqB) (by simp)) rfl
end
end Cy
namespace Cy
open PySem PySem.Spec L2 Dr Dl
theorem all_mk {P : Program} {w : World} {K : PySem.W.Frag} {h : Heap} {mg : Str → Option Value} {fa : Addr} (X : K.In h) (G : h.Ns mainGlobals mg) (hfa : mg "law" = some (.ref fa))
    {f0 f1 f2 f3 f4 f5 f6 f7 f8 f9 f10 f11 f12 f13 f14 f15 f16 f17 f18 f19 f20 f21 f22 f23 f24 f25 f26 f27 f28 f29 f30 f31 f32 f33 f34 f35 f36 f37 f38 f39 f40 f41 : Addr}
    {od0 od1 od2 od3 od4 od5 od6 od7 od8 od9 od10 od11 od12 od13 od14 od15 od16 od17 od18 od19 od20 od21 od22 od23 od24 od25 od26 od27 od28 od29 od30 od31 od32 od33 od34 od35 od36 od37 od38 od39 od40 od41 : Option Addr}
    {an0 an1 an2 an3 an4 an5 an6 an7 an8 an9 an10 an11 an12 an13 an14 an15 an16 an17 an18 an19 an20 an21 an22 an23 an24 an25 an26 an27 an28 an29 an30 an31 an32 an33 an34 an35 an36 an37 an38 an39 an40 an41 : Option Addr}
    {sl0 sl1 sl2 sl3 sl4 sl5 sl6 sl7 sl8 sl9 sl10 sl11 sl12 sl13 sl14 sl15 sl16 sl17 sl18 sl19 sl20 sl21 sl22 sl23 sl24 sl25 sl26 sl27 sl28 sl29 sl30 sl31 sl32 sl33 sl34 sl35 sl36 sl37 sl38 sl39 sl40 sl41 : Array (Option Value)}
    {oc0 oc1 oc2 oc3 oc4 oc5 oc6 oc7 oc8 oc9 oc10 oc11 oc12 oc13 oc14 oc15 oc16 oc17 oc18 oc19 oc20 oc21 oc22 oc23 oc24 oc25 oc26 oc27 oc28 oc29 oc30 oc31 oc32 oc33 oc34 oc35 oc36 oc37 oc38 oc39 oc40 oc41 : Value}
    {kV0 kV1 kV2 kV3 kV4 kV5 kV6 kV7 kV8 kV9 kV10 kV11 kV12 kV13 kV14 kV15 kV16 kV17 kV18 kV19 kV20 kV21 kV22 kV23 kV24 kV25 kV26 kV27 kV28 kV29 kV30 kV31 kV32 kV33 kV34 kV35 kV36 kV37 kV38 kV39 kV40 kV41 : Value}
    {dc0 dc1 dc2 dc3 dc4 dc5 dc6 dc7 dc8 dc9 dc10 dc11 dc12 dc13 dc14 dc15 dc16 dc17 dc18 dc19 dc20 dc21 dc22 dc23 dc24 dc25 dc26 dc27 dc28 dc29 dc30 dc31 dc32 dc33 dc34 dc35 dc36 dc37 dc38 dc39 dc40 dc41 : Value}
    {pm0 pm1 pm2 pm3 pm4 pm5 pm6 pm7 pm8 pm9 pm10 pm11 pm12 pm13 pm14 pm15 pm16 pm17 pm18 pm19 pm20 pm21 pm22 pm23 pm24 pm25 pm26 pm27 pm28 pm29 pm30 pm31 pm32 pm33 pm34 pm35 pm36 pm37 pm38 pm39 pm40 pm41 : Value}
    {cd0 cd1 cd2 cd3 cd4 cd5 cd6 cd7 cd8 cd9 cd10 cd11 cd12 cd13 cd14 cd15 cd16 cd17 cd18 cd19 cd20 cd21 cd22 cd23 cd24 cd25 cd26 cd27 cd28 cd29 cd30 cd31 cd32 cd33 cd34 cd35 cd36 cd37 cd38 cd39 cd40 cd41 : Value}
    {ct0 ct1 ct2 ct3 ct4 ct5 ct6 ct7 ct8 ct9 ct10 ct11 ct12 ct13 ct14 ct15 ct16 ct17 ct18 ct19 ct20 ct21 ct22 ct23 ct24 ct25 ct26 ct27 ct28 ct29 ct30 ct31 ct32 ct33 ct34 ct35 ct36 ct37 ct38 ct39 ct40 ct41 : Value}
    (a0 : PySem.W.nsIn K mainGlobals "up" = some (some (.ref f0))) (l0 : K.lookup f0 = some ⟨oc0, od0, .func (PySem.W.fnOf "up" "up" (defArgs s_p_up) (defBody s_p_up) (defScope s_p_up) .none kV0 dc0 pm0 an0 cd0 ct0), sl0⟩) (c0 : PySem.W.codeIn K cd0 "up" = true) (k0 : PySem.W.keepIn K (.ref f0) = true)
    (a1 : PySem.W.nsIn K mainGlobals "left" = some (some (.ref f1))) (l1 : K.lookup f1 = some ⟨oc1, od1, .func (PySem.W.fnOf "left" "left" (defArgs s_p_left) (defBody s_p_left) (defScope s_p_left) .none kV1 dc1 pm1 an1 cd1 ct1), sl1⟩) (c1 : PySem.W.codeIn K cd1 "left" = true) (k1 : PySem.W.keepIn K (.ref f1) = true)
    (a2 : PySem.W.nsIn K mainGlobals "turned" = some (some (.ref f2))) (l2 : K.lookup f2 = some ⟨oc2, od2, .func (PySem.W.fnOf "turned" "turned" (defArgs s_p_turned) (defBody s_p_turned) (defScope s_p_turned) .none kV2 dc2 pm2 an2 cd2 ct2), sl2⟩) (c2 : PySem.W.codeIn K cd2 "turned" = true) (k2 : PySem.W.keepIn K (.ref f2) = true)
    (a3 : PySem.W.nsIn K mainGlobals "unit" = some (some (.ref f3))) (l3 : K.lookup f3 = some ⟨oc3, od3, .func (PySem.W.fnOf "unit" "unit" (defArgs s_p_unit) (defBody s_p_unit) (defScope s_p_unit) .none kV3 dc3 pm3 an3 cd3 ct3), sl3⟩) (c3 : PySem.W.codeIn K cd3 "unit" = true) (k3 : PySem.W.keepIn K (.ref f3) = true)
    (a4 : PySem.W.nsIn K mainGlobals "better" = some (some (.ref f4))) (l4 : K.lookup f4 = some ⟨oc4, od4, .func (PySem.W.fnOf "better" "better" (defArgs s_p_better) (defBody s_p_better) (defScope s_p_better) .none kV4 dc4 pm4 an4 cd4 ct4), sl4⟩) (c4 : PySem.W.codeIn K cd4 "better" = true) (k4 : PySem.W.keepIn K (.ref f4) = true)
    (a5 : PySem.W.nsIn K mainGlobals "row_width" = some (some (.ref f5))) (l5 : K.lookup f5 = some ⟨oc5, od5, .func (PySem.W.fnOf "row_width" "row_width" (defArgs s_p_row_width) (defBody s_p_row_width) (defScope s_p_row_width) .none kV5 dc5 pm5 an5 cd5 ct5), sl5⟩) (c5 : PySem.W.codeIn K cd5 "row_width" = true) (k5 : PySem.W.keepIn K (.ref f5) = true)
    (a6 : PySem.W.nsIn K mainGlobals "shares_sum" = some (some (.ref f6))) (l6 : K.lookup f6 = some ⟨oc6, od6, .func (PySem.W.fnOf "shares_sum" "shares_sum" (defArgs s_p_shares_sum) (defBody s_p_shares_sum) (defScope s_p_shares_sum) .none kV6 dc6 pm6 an6 cd6 ct6), sl6⟩) (c6 : PySem.W.codeIn K cd6 "shares_sum" = true) (k6 : PySem.W.keepIn K (.ref f6) = true)
    (a7 : PySem.W.nsIn K mainGlobals "all_noughts" = some (some (.ref f7))) (l7 : K.lookup f7 = some ⟨oc7, od7, .func (PySem.W.fnOf "all_noughts" "all_noughts" (defArgs s_p_all_noughts) (defBody s_p_all_noughts) (defScope s_p_all_noughts) .none kV7 dc7 pm7 an7 cd7 ct7), sl7⟩) (c7 : PySem.W.codeIn K cd7 "all_noughts" = true) (k7 : PySem.W.keepIn K (.ref f7) = true)
    (a8 : PySem.W.nsIn K mainGlobals "_law_cell" = some (some (.ref f8))) (l8 : K.lookup f8 = some ⟨oc8, od8, .func (PySem.W.fnOf "_law_cell" "_law_cell" (defArgs s_l_cell) (defBody s_l_cell) (defScope s_l_cell) .none kV8 dc8 pm8 an8 cd8 ct8), sl8⟩) (c8 : PySem.W.codeIn K cd8 "_law_cell" = true) (k8 : PySem.W.keepIn K (.ref f8) = true)
    (a9 : PySem.W.nsIn K mainGlobals "_law_draws" = some (some (.ref f9))) (l9 : K.lookup f9 = some ⟨oc9, od9, .func (PySem.W.fnOf "_law_draws" "_law_draws" (defArgs s_l_draws) (defBody s_l_draws) (defScope s_l_draws) .none kV9 dc9 pm9 an9 cd9 ct9), sl9⟩) (c9 : PySem.W.codeIn K cd9 "_law_draws" = true) (k9 : PySem.W.keepIn K (.ref f9) = true)
    (a10 : PySem.W.nsIn K mainGlobals "_law_total" = some (some (.ref f10))) (l10 : K.lookup f10 = some ⟨oc10, od10, .func (PySem.W.fnOf "_law_total" "_law_total" (defArgs s_l_total) (defBody s_l_total) (defScope s_l_total) .none kV10 dc10 pm10 an10 cd10 ct10), sl10⟩) (c10 : PySem.W.codeIn K cd10 "_law_total" = true) (k10 : PySem.W.keepIn K (.ref f10) = true)
    (a11 : PySem.W.nsIn K mainGlobals "_law_left" = some (some (.ref f11))) (l11 : K.lookup f11 = some ⟨oc11, od11, .func (PySem.W.fnOf "_law_left" "_law_left" (defArgs s_l_left) (defBody s_l_left) (defScope s_l_left) .none kV11 dc11 pm11 an11 cd11 ct11), sl11⟩) (c11 : PySem.W.codeIn K cd11 "_law_left" = true) (k11 : PySem.W.keepIn K (.ref f11) = true)
    (a12 : PySem.W.nsIn K mainGlobals "_law_unit" = some (some (.ref f12))) (l12 : K.lookup f12 = some ⟨oc12, od12, .func (PySem.W.fnOf "_law_unit" "_law_unit" (defArgs s_l_unit) (defBody s_l_unit) (defScope s_l_unit) .none kV12 dc12 pm12 an12 cd12 ct12), sl12⟩) (c12 : PySem.W.codeIn K cd12 "_law_unit" = true) (k12 : PySem.W.keepIn K (.ref f12) = true)
    (a13 : PySem.W.nsIn K mainGlobals "_law_told" = some (some (.ref f13))) (l13 : K.lookup f13 = some ⟨oc13, od13, .func (PySem.W.fnOf "_law_told" "_law_told" (defArgs s_l_told) (defBody s_l_told) (defScope s_l_told) .none kV13 dc13 pm13 an13 cd13 ct13), sl13⟩) (c13 : PySem.W.codeIn K cd13 "_law_told" = true) (k13 : PySem.W.keepIn K (.ref f13) = true)
    (a14 : PySem.W.nsIn K mainGlobals "_law_bent" = some (some (.ref f14))) (l14 : K.lookup f14 = some ⟨oc14, od14, .func (PySem.W.fnOf "_law_bent" "_law_bent" (defArgs s_l_bent) (defBody s_l_bent) (defScope s_l_bent) .none kV14 dc14 pm14 an14 cd14 ct14), sl14⟩) (c14 : PySem.W.codeIn K cd14 "_law_bent" = true) (k14 : PySem.W.keepIn K (.ref f14) = true)
    (a15 : PySem.W.nsIn K mainGlobals "_law_bent_spot" = some (some (.ref f15))) (l15 : K.lookup f15 = some ⟨oc15, od15, .func (PySem.W.fnOf "_law_bent_spot" "_law_bent_spot" (defArgs s_l_bent_spot) (defBody s_l_bent_spot) (defScope s_l_bent_spot) .none kV15 dc15 pm15 an15 cd15 ct15), sl15⟩) (c15 : PySem.W.codeIn K cd15 "_law_bent_spot" = true) (k15 : PySem.W.keepIn K (.ref f15) = true)
    (a16 : PySem.W.nsIn K mainGlobals "_law_bent_plan" = some (some (.ref f16))) (l16 : K.lookup f16 = some ⟨oc16, od16, .func (PySem.W.fnOf "_law_bent_plan" "_law_bent_plan" (defArgs s_l_bent_plan) (defBody s_l_bent_plan) (defScope s_l_bent_plan) .none kV16 dc16 pm16 an16 cd16 ct16), sl16⟩) (c16 : PySem.W.codeIn K cd16 "_law_bent_plan" = true) (k16 : PySem.W.keepIn K (.ref f16) = true)
    (a17 : PySem.W.nsIn K mainGlobals "meets" = some (some (.ref f17))) (l17 : K.lookup f17 = some ⟨oc17, od17, .func (PySem.W.fnOf "meets" "meets" (defArgs s_p_meets) (defBody s_p_meets) (defScope s_p_meets) .none kV17 dc17 pm17 an17 cd17 ct17), sl17⟩) (c17 : PySem.W.codeIn K cd17 "meets" = true) (k17 : PySem.W.keepIn K (.ref f17) = true)
    (a18 : PySem.W.nsIn K mainGlobals "givens" = some (some (.ref f18))) (l18 : K.lookup f18 = some ⟨oc18, od18, .func (PySem.W.fnOf "givens" "givens" (defArgs s_p_givens) (defBody s_p_givens) (defScope s_p_givens) .none kV18 dc18 pm18 an18 cd18 ct18), sl18⟩) (c18 : PySem.W.codeIn K cd18 "givens" = true) (k18 : PySem.W.keepIn K (.ref f18) = true)
    (a19 : PySem.W.nsIn K mainGlobals "worth" = some (some (.ref f19))) (l19 : K.lookup f19 = some ⟨oc19, od19, .func (PySem.W.fnOf "worth" "worth" (defArgs s_p_worth) (defBody s_p_worth) (defScope s_p_worth) .none kV19 dc19 pm19 an19 cd19 ct19), sl19⟩) (c19 : PySem.W.codeIn K cd19 "worth" = true) (k19 : PySem.W.keepIn K (.ref f19) = true)
    (a20 : PySem.W.nsIn K mainGlobals "line_row" = some (some (.ref f20))) (l20 : K.lookup f20 = some ⟨oc20, od20, .func (PySem.W.fnOf "line_row" "line_row" (defArgs s_p_line_row) (defBody s_p_line_row) (defScope s_p_line_row) .none kV20 dc20 pm20 an20 cd20 ct20), sl20⟩) (c20 : PySem.W.codeIn K cd20 "line_row" = true) (k20 : PySem.W.keepIn K (.ref f20) = true)
    (a21 : PySem.W.nsIn K mainGlobals "row_shuts" = some (some (.ref f21))) (l21 : K.lookup f21 = some ⟨oc21, od21, .func (PySem.W.fnOf "row_shuts" "row_shuts" (defArgs s_p_row_shuts) (defBody s_p_row_shuts) (defScope s_p_row_shuts) .none kV21 dc21 pm21 an21 cd21 ct21), sl21⟩) (c21 : PySem.W.codeIn K cd21 "row_shuts" = true) (k21 : PySem.W.keepIn K (.ref f21) = true)
    (a22 : PySem.W.nsIn K mainGlobals "ray_holds" = some (some (.ref f22))) (l22 : K.lookup f22 = some ⟨oc22, od22, .func (PySem.W.fnOf "ray_holds" "ray_holds" (defArgs s_p_ray_holds) (defBody s_p_ray_holds) (defScope s_p_ray_holds) .none kV22 dc22 pm22 an22 cd22 ct22), sl22⟩) (c22 : PySem.W.codeIn K cd22 "ray_holds" = true) (k22 : PySem.W.keepIn K (.ref f22) = true)
    (a23 : PySem.W.nsIn K mainGlobals "_law_line" = some (some (.ref f23))) (l23 : K.lookup f23 = some ⟨oc23, od23, .func (PySem.W.fnOf "_law_line" "_law_line" (defArgs s_l_line) (defBody s_l_line) (defScope s_l_line) .none kV23 dc23 pm23 an23 cd23 ct23), sl23⟩) (c23 : PySem.W.codeIn K cd23 "_law_line" = true) (k23 : PySem.W.keepIn K (.ref f23) = true)
    (a24 : PySem.W.nsIn K mainGlobals "_law_rows" = some (some (.ref f24))) (l24 : K.lookup f24 = some ⟨oc24, od24, .func (PySem.W.fnOf "_law_rows" "_law_rows" (defArgs s_l_rows) (defBody s_l_rows) (defScope s_l_rows) .none kV24 dc24 pm24 an24 cd24 ct24), sl24⟩) (c24 : PySem.W.codeIn K cd24 "_law_rows" = true) (k24 : PySem.W.keepIn K (.ref f24) = true)
    (a25 : PySem.W.nsIn K mainGlobals "_law_givens" = some (some (.ref f25))) (l25 : K.lookup f25 = some ⟨oc25, od25, .func (PySem.W.fnOf "_law_givens" "_law_givens" (defArgs s_l_givens) (defBody s_l_givens) (defScope s_l_givens) .none kV25 dc25 pm25 an25 cd25 ct25), sl25⟩) (c25 : PySem.W.codeIn K cd25 "_law_givens" = true) (k25 : PySem.W.keepIn K (.ref f25) = true)
    (a26 : PySem.W.nsIn K mainGlobals "_law_bounds" = some (some (.ref f26))) (l26 : K.lookup f26 = some ⟨oc26, od26, .func (PySem.W.fnOf "_law_bounds" "_law_bounds" (defArgs s_l_bounds) (defBody s_l_bounds) (defScope s_l_bounds) .none kV26 dc26 pm26 an26 cd26 ct26), sl26⟩) (c26 : PySem.W.codeIn K cd26 "_law_bounds" = true) (k26 : PySem.W.keepIn K (.ref f26) = true)
    (a27 : PySem.W.nsIn K mainGlobals "_law_tree" = some (some (.ref f27))) (l27 : K.lookup f27 = some ⟨oc27, od27, .func (PySem.W.fnOf "_law_tree" "_law_tree" (defArgs s_l_tree) (defBody s_l_tree) (defScope s_l_tree) .none kV27 dc27 pm27 an27 cd27 ct27), sl27⟩) (c27 : PySem.W.codeIn K cd27 "_law_tree" = true) (k27 : PySem.W.keepIn K (.ref f27) = true)
    (a28 : PySem.W.nsIn K mainGlobals "_law_spot_in" = some (some (.ref f28))) (l28 : K.lookup f28 = some ⟨oc28, od28, .func (PySem.W.fnOf "_law_spot_in" "_law_spot_in" (defArgs s_l_spot_in) (defBody s_l_spot_in) (defScope s_l_spot_in) .none kV28 dc28 pm28 an28 cd28 ct28), sl28⟩) (c28 : PySem.W.codeIn K cd28 "_law_spot_in" = true) (k28 : PySem.W.keepIn K (.ref f28) = true)
    (a29 : PySem.W.nsIn K mainGlobals "_law_free_line" = some (some (.ref f29))) (l29 : K.lookup f29 = some ⟨oc29, od29, .func (PySem.W.fnOf "_law_free_line" "_law_free_line" (defArgs s_l_free_line) (defBody s_l_free_line) (defScope s_l_free_line) .none kV29 dc29 pm29 an29 cd29 ct29), sl29⟩) (c29 : PySem.W.codeIn K cd29 "_law_free_line" = true) (k29 : PySem.W.keepIn K (.ref f29) = true)
    (a30 : PySem.W.nsIn K mainGlobals "_law_spoilt" = some (some (.ref f30))) (l30 : K.lookup f30 = some ⟨oc30, od30, .func (PySem.W.fnOf "_law_spoilt" "_law_spoilt" (defArgs s_l_spoilt) (defBody s_l_spoilt) (defScope s_l_spoilt) .none kV30 dc30 pm30 an30 cd30 ct30), sl30⟩) (c30 : PySem.W.codeIn K cd30 "_law_spoilt" = true) (k30 : PySem.W.keepIn K (.ref f30) = true)
    (a31 : PySem.W.nsIn K mainGlobals "bars" = some (some (.ref f31))) (l31 : K.lookup f31 = some ⟨oc31, od31, .func (PySem.W.fnOf "bars" "bars" (defArgs s_p_bars) (defBody s_p_bars) (defScope s_p_bars) .none kV31 dc31 pm31 an31 cd31 ct31), sl31⟩) (c31 : PySem.W.codeIn K cd31 "bars" = true) (k31 : PySem.W.keepIn K (.ref f31) = true)
    (a32 : PySem.W.nsIn K mainGlobals "_law_bars" = some (some (.ref f32))) (l32 : K.lookup f32 = some ⟨oc32, od32, .func (PySem.W.fnOf "_law_bars" "_law_bars" (defArgs s_l_bars) (defBody s_l_bars) (defScope s_l_bars) .none kV32 dc32 pm32 an32 cd32 ct32), sl32⟩) (c32 : PySem.W.codeIn K cd32 "_law_bars" = true) (k32 : PySem.W.keepIn K (.ref f32) = true)
    (a33 : PySem.W.nsIn K mainGlobals "_law_none_built" = some (some (.ref f33))) (l33 : K.lookup f33 = some ⟨oc33, od33, .func (PySem.W.fnOf "_law_none_built" "_law_none_built" (defArgs s_l_none_built) (defBody s_l_none_built) (defScope s_l_none_built) .none kV33 dc33 pm33 an33 cd33 ct33), sl33⟩) (c33 : PySem.W.codeIn K cd33 "_law_none_built" = true) (k33 : PySem.W.keepIn K (.ref f33) = true)
    (a34 : PySem.W.nsIn K mainGlobals "_law_best_built" = some (some (.ref f34))) (l34 : K.lookup f34 = some ⟨oc34, od34, .func (PySem.W.fnOf "_law_best_built" "_law_best_built" (defArgs s_l_best_built) (defBody s_l_best_built) (defScope s_l_best_built) .none kV34 dc34 pm34 an34 cd34 ct34), sl34⟩) (c34 : PySem.W.codeIn K cd34 "_law_best_built" = true) (k34 : PySem.W.keepIn K (.ref f34) = true)
    (a35 : PySem.W.nsIn K mainGlobals "_law_endless_built" = some (some (.ref f35))) (l35 : K.lookup f35 = some ⟨oc35, od35, .func (PySem.W.fnOf "_law_endless_built" "_law_endless_built" (defArgs s_l_endless_built) (defBody s_l_endless_built) (defScope s_l_endless_built) .none kV35 dc35 pm35 an35 cd35 ct35), sl35⟩) (c35 : PySem.W.codeIn K cd35 "_law_endless_built" = true) (k35 : PySem.W.keepIn K (.ref f35) = true)
    (a36 : PySem.W.nsIn K mainGlobals "_law_wild" = some (some (.ref f36))) (l36 : K.lookup f36 = some ⟨oc36, od36, .func (PySem.W.fnOf "_law_wild" "_law_wild" (defArgs s_l_wild) (defBody s_l_wild) (defScope s_l_wild) .none kV36 dc36 pm36 an36 cd36 ct36), sl36⟩) (c36 : PySem.W.codeIn K cd36 "_law_wild" = true) (k36 : PySem.W.keepIn K (.ref f36) = true)
    (a37 : PySem.W.nsIn K mainGlobals "_law_bent_parts" = some (some (.ref f37))) (l37 : K.lookup f37 = some ⟨oc37, od37, .func (PySem.W.fnOf "_law_bent_parts" "_law_bent_parts" (defArgs s_l_bent_parts) (defBody s_l_bent_parts) (defScope s_l_bent_parts) .none kV37 dc37 pm37 an37 cd37 ct37), sl37⟩) (c37 : PySem.W.codeIn K cd37 "_law_bent_parts" = true) (k37 : PySem.W.keepIn K (.ref f37) = true)
    (a38 : PySem.W.nsIn K mainGlobals "holds" = some (some (.ref f38))) (l38 : K.lookup f38 = some ⟨oc38, od38, .func (PySem.W.fnOf "holds" "holds" (defArgs s_p_holds) (defBody s_p_holds) (defScope s_p_holds) .none kV38 dc38 pm38 an38 cd38 ct38), sl38⟩) (c38 : PySem.W.codeIn K cd38 "holds" = true) (k38 : PySem.W.keepIn K (.ref f38) = true)
    (a39 : PySem.W.nsIn K mainGlobals "_law_made" = some (some (.ref f39))) (l39 : K.lookup f39 = some ⟨oc39, od39, .func (PySem.W.fnOf "_law_made" "_law_made" (defArgs s_l_made) (defBody s_l_made) (defScope s_l_made) .none kV39 dc39 pm39 an39 cd39 ct39), sl39⟩) (c39 : PySem.W.codeIn K cd39 "_law_made" = true) (k39 : PySem.W.keepIn K (.ref f39) = true)
    (a40 : PySem.W.nsIn K mainGlobals "_law_due" = some (some (.ref f40))) (l40 : K.lookup f40 = some ⟨oc40, od40, .func (PySem.W.fnOf "_law_due" "_law_due" (defArgs s_l_due) (defBody s_l_due) (defScope s_l_due) .none kV40 dc40 pm40 an40 cd40 ct40), sl40⟩) (c40 : PySem.W.codeIn K cd40 "_law_due" = true) (k40 : PySem.W.keepIn K (.ref f40) = true)
    (a41 : PySem.W.nsIn K mainGlobals "law" = some (some (.ref f41))) (l41 : K.lookup f41 = some ⟨oc41, od41, .func (PySem.W.fnOf "law" "law" (defArgs s_p_law) (defBody s_p_law) (defScope s_p_law) .none kV41 dc41 pm41 an41 cd41 ct41), sl41⟩) (c41 : PySem.W.codeIn K cd41 "law" = true) (k41 : PySem.W.keepIn K (.ref f41) = true)
    (z_len : PySem.W.nsIn K mainGlobals "len" = some none)
    (z_zip : PySem.W.nsIn K mainGlobals "zip" = some none)
    (z_range : PySem.W.nsIn K mainGlobals "range" = some none)
    (z_enumerate : PySem.W.nsIn K mainGlobals "enumerate" = some none)
    (z_tuple : PySem.W.nsIn K mainGlobals "tuple" = some none)
    (z_list : PySem.W.nsIn K mainGlobals "list" = some none)
    (z_any : PySem.W.nsIn K mainGlobals "any" = some none)
    (z_all : PySem.W.nsIn K mainGlobals "all" = some none)
    (z_max : PySem.W.nsIn K mainGlobals "max" = some none)
    (z_min : PySem.W.nsIn K mainGlobals "min" = some none)
    (z_abs : PySem.W.nsIn K mainGlobals "abs" = some none)
    (z_sum : PySem.W.nsIn K mainGlobals "sum" = some none)
    (z_int : PySem.W.nsIn K mainGlobals "int" = some none)
    (z_isinstance : PySem.W.nsIn K mainGlobals "isinstance" = some none)
    (z_bool : PySem.W.nsIn K mainGlobals "bool" = some none)
    : ∃ fd : FuncData, (∀ (s : Shared) (v : Value), BindsTo s fd ⟨[v], []⟩ [("_law_script", v)]) ∧ ∀ base : Heap, K.In base → base.Ns mainGlobals mg → FnOk P w K mg base CX0 5 fa fd ["_law_script"] (sp_p_law K) := by
  have e := hfa.symm.trans (PySem.W.mg_of X G a41)
  cases e
  have T : Tx mg := ⟨PySem.W.mg_none_of X G z_len, PySem.W.mg_none_of X G z_zip, PySem.W.mg_none_of X G z_range, PySem.W.mg_none_of X G z_enumerate, PySem.W.mg_none_of X G z_tuple, PySem.W.mg_none_of X G z_list, PySem.W.mg_none_of X G z_any, PySem.W.mg_none_of X G z_all, PySem.W.mg_none_of X G z_max, PySem.W.mg_none_of X G z_min, PySem.W.mg_none_of X G z_abs, PySem.W.mg_none_of X G z_sum, PySem.W.mg_none_of X G z_int, PySem.W.mg_none_of X G z_isinstance, PySem.W.mg_none_of X G z_bool⟩
  refine ⟨PySem.W.fnOf "law" "law" (defArgs s_p_law) (defBody s_p_law) (defScope s_p_law) .none kV41 dc41 pm41 an41 cd41 ct41, fun s v => .of_eq rfl, fun base _ _ => ?_⟩
  have F0 := fun_mk (st := s_p_up) l0 c0 k0
  have D_p_up : Def P w K mg base 1 "up" P_p_up (sp_p_up K) := ⟨⟨_, _, ok_p_up F0 T , PySem.W.mg_of X G a0, k0, F0.binds fun _ _ _ _ _ _ us hl => match us, hl with | [_, _], _ => rfl⟩⟩
  have F1 := fun_mk (st := s_p_left) l1 c1 k1
  have D_p_left : Def P w K mg base 1 "left" P_p_left (sp_p_left K) := ⟨⟨_, _, ok_p_left F1 T , PySem.W.mg_of X G a1, k1, F1.binds fun _ _ _ _ _ _ us hl => match us, hl with | [_, _], _ => rfl⟩⟩
  have F2 := fun_mk (st := s_p_turned) l2 c2 k2
  have D_p_turned : Def P w K mg base 1 "turned" P_p_turned (sp_p_turned K) := ⟨⟨_, _, ok_p_turned F2 T , PySem.W.mg_of X G a2, k2, F2.binds fun _ _ _ _ _ _ us hl => match us, hl with | [_], _ => rfl⟩⟩
  have F3 := fun_mk (st := s_p_unit) l3 c3 k3
  have D_p_unit : Def P w K mg base 1 "unit" P_p_unit (sp_p_unit K) := ⟨⟨_, _, ok_p_unit F3 T , PySem.W.mg_of X G a3, k3, F3.binds fun _ _ _ _ _ _ us hl => match us, hl with | [_, _, _], _ => rfl⟩⟩
  have F4 := fun_mk (st := s_p_better) l4 c4 k4
  have D_p_better : Def P w K mg base 1 "better" P_p_better (sp_p_better K) := ⟨⟨_, _, ok_p_better F4 T , PySem.W.mg_of X G a4, k4, F4.binds fun _ _ _ _ _ _ us hl => match us, hl with | [_, _], _ => rfl⟩⟩
  have F5 := fun_mk (st := s_p_row_width) l5 c5 k5
  have D_p_row_width : Def P w K mg base 1 "row_width" P_p_row_width (sp_p_row_width K) := ⟨⟨_, _, ok_p_row_width F5 T , PySem.W.mg_of X G a5, k5, F5.binds fun _ _ _ _ _ _ us hl => match us, hl with | [_], _ => rfl⟩⟩
  have F6 := fun_mk (st := s_p_shares_sum) l6 c6 k6
  have D_p_shares_sum : Def P w K mg base 1 "shares_sum" P_p_shares_sum (sp_p_shares_sum K) := ⟨⟨_, _, ok_p_shares_sum F6 T , PySem.W.mg_of X G a6, k6, F6.binds fun _ _ _ _ _ _ us hl => match us, hl with | [_, _, _], _ => rfl⟩⟩
  have F7 := fun_mk (st := s_p_all_noughts) l7 c7 k7
  have D_p_all_noughts : Def P w K mg base 1 "all_noughts" P_p_all_noughts (sp_p_all_noughts K) := ⟨⟨_, _, ok_p_all_noughts F7 T , PySem.W.mg_of X G a7, k7, F7.binds fun _ _ _ _ _ _ us hl => match us, hl with | [_], _ => rfl⟩⟩
  have F8 := fun_mk (st := s_l_cell) l8 c8 k8
  have D_l_cell : Def P w K mg base 1 "_law_cell" P_l_cell (sp_l_cell K) := ⟨⟨_, _, ok_l_cell F8 T , PySem.W.mg_of X G a8, k8, F8.binds fun _ _ _ _ _ _ us hl => match us, hl with | [_, _], _ => rfl⟩⟩
  have F9 := fun_mk (st := s_l_draws) l9 c9 k9
  have D_l_draws : Def P w K mg base 1 "_law_draws" P_l_draws (sp_l_draws K) := ⟨⟨_, _, ok_l_draws F9 T , PySem.W.mg_of X G a9, k9, F9.binds fun _ _ _ _ _ _ us hl => match us, hl with | [_, _, _], _ => rfl⟩⟩
  have F10 := fun_mk (st := s_l_total) l10 c10 k10
  have D_l_total : Def P w K mg base 1 "_law_total" P_l_total (sp_l_total K) := ⟨⟨_, _, ok_l_total F10 T , PySem.W.mg_of X G a10, k10, F10.binds fun _ _ _ _ _ _ us hl => match us, hl with | [_, _, _], _ => rfl⟩⟩
  have F11 := fun_mk (st := s_l_left) l11 c11 k11
  have D_l_left : Def P w K mg base 1 "_law_left" P_l_left (sp_l_left K) := ⟨⟨_, _, ok_l_left F11 T , PySem.W.mg_of X G a11, k11, F11.binds fun _ _ _ _ _ _ us hl => match us, hl with | [_, _], _ => rfl⟩⟩
  have F12 := fun_mk (st := s_l_unit) l12 c12 k12
  have D_l_unit : Def P w K mg base 1 "_law_unit" P_l_unit (sp_l_unit K) := ⟨⟨_, _, ok_l_unit F12 T , PySem.W.mg_of X G a12, k12, F12.binds fun _ _ _ _ _ _ us hl => match us, hl with | [_, _, _], _ => rfl⟩⟩
  have F13 := fun_mk (st := s_l_told) l13 c13 k13
  have D_l_told : Def P w K mg base 1 "_law_told" P_l_told (sp_l_told K) := ⟨⟨_, _, ok_l_told F13 T , PySem.W.mg_of X G a13, k13, F13.binds fun _ _ _ _ _ _ us hl => match us, hl with | [_, _], _ => rfl⟩⟩
  have F14 := fun_mk (st := s_l_bent) l14 c14 k14
  have D_l_bent : Def P w K mg base 1 "_law_bent" P_l_bent (sp_l_bent K) := ⟨⟨_, _, ok_l_bent F14 T , PySem.W.mg_of X G a14, k14, F14.binds fun _ _ _ _ _ _ us hl => match us, hl with | [_, _, _, _], _ => rfl⟩⟩
  have F15 := fun_mk (st := s_l_bent_spot) l15 c15 k15
  have D_l_bent_spot : Def P w K mg base 1 "_law_bent_spot" P_l_bent_spot (sp_l_bent_spot K) := ⟨⟨_, _, ok_l_bent_spot F15 T , PySem.W.mg_of X G a15, k15, F15.binds fun _ _ _ _ _ _ us hl => match us, hl with | [_, _, _, _], _ => rfl⟩⟩
  have F16 := fun_mk (st := s_l_bent_plan) l16 c16 k16
  have D_l_bent_plan : Def P w K mg base 1 "_law_bent_plan" P_l_bent_plan (sp_l_bent_plan K) := ⟨⟨_, _, ok_l_bent_plan F16 T , PySem.W.mg_of X G a16, k16, F16.binds fun _ _ _ _ _ _ us hl => match us, hl with | [_, _, _, _], _ => rfl⟩⟩
  have F17 := fun_mk (st := s_p_meets) l17 c17 k17
  have D_p_meets : Def P w K mg base 2 "meets" P_p_meets (sp_p_meets K) := ⟨⟨_, _, ok_p_meets F17 T D_p_left, PySem.W.mg_of X G a17, k17, F17.binds fun _ _ _ _ _ _ us hl => match us, hl with | [_, _], _ => rfl⟩⟩
  have F18 := fun_mk (st := s_p_givens) l18 c18 k18
  have D_p_givens : Def P w K mg base 2 "givens" P_p_givens (sp_p_givens K) := ⟨⟨_, _, ok_p_givens F18 T D_p_unit, PySem.W.mg_of X G a18, k18, F18.binds fun _ _ _ _ _ _ us hl => match us, hl with | [_], _ => rfl⟩⟩
  have F19 := fun_mk (st := s_p_worth) l19 c19 k19
  have D_p_worth : Def P w K mg base 2 "worth" P_p_worth (sp_p_worth K) := ⟨⟨_, _, ok_p_worth F19 T D_p_left, PySem.W.mg_of X G a19, k19, F19.binds fun _ _ _ _ _ _ us hl => match us, hl with | [_, _], _ => rfl⟩⟩
  have F20 := fun_mk (st := s_p_line_row) l20 c20 k20
  have D_p_line_row : Def P w K mg base 2 "line_row" P_p_line_row (sp_p_line_row K) := ⟨⟨_, _, ok_p_line_row F20 T D_p_row_width D_p_shares_sum D_p_up, PySem.W.mg_of X G a20, k20, F20.binds fun _ _ _ _ _ _ us hl => match us, hl with | [_, _, _], _ => rfl⟩⟩
  have F21 := fun_mk (st := s_p_row_shuts) l21 c21 k21
  have D_p_row_shuts : Def P w K mg base 2 "row_shuts" P_p_row_shuts (sp_p_row_shuts K) := ⟨⟨_, _, ok_p_row_shuts F21 T D_p_all_noughts, PySem.W.mg_of X G a21, k21, F21.binds fun _ _ _ _ _ _ us hl => match us, hl with | [_, _], _ => rfl⟩⟩
  have F22 := fun_mk (st := s_p_ray_holds) l22 c22 k22
  have D_p_ray_holds : Def P w K mg base 2 "ray_holds" P_p_ray_holds (sp_p_ray_holds K) := ⟨⟨_, _, ok_p_ray_holds F22 T D_p_left, PySem.W.mg_of X G a22, k22, F22.binds fun _ _ _ _ _ _ us hl => match us, hl with | [_, _, _], _ => rfl⟩⟩
  have F23 := fun_mk (st := s_l_line) l23 c23 k23
  have D_l_line : Def P w K mg base 2 "_law_line" P_l_line (sp_l_line K) := ⟨⟨_, _, ok_l_line F23 T D_l_total, PySem.W.mg_of X G a23, k23, F23.binds fun _ _ _ _ _ _ us hl => match us, hl with | [_, _, _, _], _ => rfl⟩⟩
  have F24 := fun_mk (st := s_l_rows) l24 c24 k24
  have D_l_rows : Def P w K mg base 2 "_law_rows" P_l_rows (sp_l_rows K) := ⟨⟨_, _, ok_l_rows F24 T D_l_draws, PySem.W.mg_of X G a24, k24, F24.binds fun _ _ _ _ _ _ us hl => match us, hl with | [_, _, _, _, _], _ => rfl⟩⟩
  have F25 := fun_mk (st := s_l_givens) l25 c25 k25
  have D_l_givens : Def P w K mg base 2 "_law_givens" P_l_givens (sp_l_givens K) := ⟨⟨_, _, ok_l_givens F25 T D_l_unit, PySem.W.mg_of X G a25, k25, F25.binds fun _ _ _ _ _ _ us hl => match us, hl with | [_], _ => rfl⟩⟩
  have F26 := fun_mk (st := s_l_bounds) l26 c26 k26
  have D_l_bounds : Def P w K mg base 2 "_law_bounds" P_l_bounds (sp_l_bounds K) := ⟨⟨_, _, ok_l_bounds F26 T D_l_draws, PySem.W.mg_of X G a26, k26, F26.binds fun _ _ _ _ _ _ us hl => match us, hl with | [_, _], _ => rfl⟩⟩
  have F27 := fun_mk (st := s_l_tree) l27 c27 k27
  have D_l_tree : Def P w K mg base 2 "_law_tree" P_l_tree (sp_l_tree K) := ⟨⟨_, _, ok_l_tree F27 T D_l_draws, PySem.W.mg_of X G a27, k27, F27.binds fun _ _ _ _ _ _ us hl => match us, hl with | [_, _, _, _], _ => rfl⟩⟩
  have F28 := fun_mk (st := s_l_spot_in) l28 c28 k28
  have D_l_spot_in : Def P w K mg base 2 "_law_spot_in" P_l_spot_in (sp_l_spot_in K) := ⟨⟨_, _, ok_l_spot_in F28 T D_l_draws, PySem.W.mg_of X G a28, k28, F28.binds fun _ _ _ _ _ _ us hl => match us, hl with | [_, _], _ => rfl⟩⟩
  have F29 := fun_mk (st := s_l_free_line) l29 c29 k29
  have D_l_free_line : Def P w K mg base 2 "_law_free_line" P_l_free_line (sp_l_free_line K) := ⟨⟨_, _, ok_l_free_line F29 T D_l_draws, PySem.W.mg_of X G a29, k29, F29.binds fun _ _ _ _ _ _ us hl => match us, hl with | [_, _], _ => rfl⟩⟩
  have F30 := fun_mk (st := s_l_spoilt) l30 c30 k30
  have D_l_spoilt : Def P w K mg base 2 "_law_spoilt" P_l_spoilt (sp_l_spoilt K) := ⟨⟨_, _, ok_l_spoilt F30 T D_l_bent D_l_draws, PySem.W.mg_of X G a30, k30, F30.binds fun _ _ _ _ _ _ us hl => match us, hl with | [_, _, _], _ => rfl⟩⟩
  have F31 := fun_mk (st := s_p_bars) l31 c31 k31
  have D_p_bars : Def P w K mg base 3 "bars" P_p_bars (sp_p_bars K) := ⟨⟨_, _, ok_p_bars F31 T D_p_line_row D_p_row_shuts D_p_row_width D_p_turned, PySem.W.mg_of X G a31, k31, F31.binds fun _ _ _ _ _ _ us hl => match us, hl with | [_, _], _ => rfl⟩⟩
  have F32 := fun_mk (st := s_l_bars) l32 c32 k32
  have D_l_bars : Def P w K mg base 3 "_law_bars" P_l_bars (sp_l_bars K) := ⟨⟨_, _, ok_l_bars F32 T D_l_line, PySem.W.mg_of X G a32, k32, F32.binds fun _ _ _ _ _ _ us hl => match us, hl with | [_, _, _], _ => rfl⟩⟩
  have F33 := fun_mk (st := s_l_none_built) l33 c33 k33
  have D_l_none_built : Def P w K mg base 3 "_law_none_built" P_l_none_built (sp_l_none_built K) := ⟨⟨_, _, ok_l_none_built F33 T D_l_bounds D_l_draws D_l_givens D_l_rows D_l_total D_l_tree, PySem.W.mg_of X G a33, k33, F33.binds fun _ _ _ _ _ _ us hl => match us, hl with | [_, _, _, _], _ => rfl⟩⟩
  have F34 := fun_mk (st := s_l_best_built) l34 c34 k34
  have D_l_best_built : Def P w K mg base 3 "_law_best_built" P_l_best_built (sp_l_best_built K) := ⟨⟨_, _, ok_l_best_built F34 T D_l_bounds D_l_draws D_l_givens D_l_left D_l_rows D_l_spot_in D_l_total D_l_tree, PySem.W.mg_of X G a34, k34, F34.binds fun _ _ _ _ _ _ us hl => match us, hl with | [_, _, _, _], _ => rfl⟩⟩
  have F35 := fun_mk (st := s_l_endless_built) l35 c35 k35
  have D_l_endless_built : Def P w K mg base 3 "_law_endless_built" P_l_endless_built (sp_l_endless_built K) := ⟨⟨_, _, ok_l_endless_built F35 T D_l_bounds D_l_draws D_l_left D_l_rows D_l_spot_in, PySem.W.mg_of X G a35, k35, F35.binds fun _ _ _ _ _ _ us hl => match us, hl with | [_, _, _, _], _ => rfl⟩⟩
  have F36 := fun_mk (st := s_l_wild) l36 c36 k36
  have D_l_wild : Def P w K mg base 3 "_law_wild" P_l_wild (sp_l_wild K) := ⟨⟨_, _, ok_l_wild F36 T D_l_draws D_l_free_line D_l_rows, PySem.W.mg_of X G a36, k36, F36.binds fun _ _ _ _ _ _ us hl => match us, hl with | [_, _, _, _], _ => rfl⟩⟩
  have F37 := fun_mk (st := s_l_bent_parts) l37 c37 k37
  have D_l_bent_parts : Def P w K mg base 3 "_law_bent_parts" P_l_bent_parts (sp_l_bent_parts K) := ⟨⟨_, _, ok_l_bent_parts F37 T D_l_bent_spot D_l_free_line D_l_spoilt, PySem.W.mg_of X G a37, k37, F37.binds fun _ _ _ _ _ _ us hl => match us, hl with | [_, _, _, _, _], _ => rfl⟩⟩
  have F38 := fun_mk (st := s_p_holds) l38 c38 k38
  have D_p_holds : Def P w K mg base 4 "holds" P_p_holds (sp_p_holds K) := ⟨⟨_, _, ok_p_holds F38 T D_p_bars D_p_better D_p_givens D_p_meets D_p_ray_holds D_p_worth, PySem.W.mg_of X G a38, k38, F38.binds fun _ _ _ _ _ _ us hl => match us, hl with | [_, _], _ => rfl⟩⟩
  have F39 := fun_mk (st := s_l_made) l39 c39 k39
  have D_l_made : Def P w K mg base 4 "_law_made" P_l_made (sp_l_made K) := ⟨⟨_, _, ok_l_made F39 T D_l_best_built D_l_endless_built D_l_none_built D_l_wild, PySem.W.mg_of X G a39, k39, F39.binds fun _ _ _ _ _ _ us hl => match us, hl with | [_, _, _, _, _, _], _ => rfl⟩⟩
  have F40 := fun_mk (st := s_l_due) l40 c40 k40
  have D_l_due : Def P w K mg base 4 "_law_due" P_l_due (sp_l_due K) := ⟨⟨_, _, ok_l_due F40 T D_l_bars D_l_givens D_l_left, PySem.W.mg_of X G a40, k40, F40.binds fun _ _ _ _ _ _ us hl => match us, hl with | [_, _, _], _ => rfl⟩⟩
  exact ok_p_law (fun_mk (st := s_p_law) l41 c41 k41) T D_l_bent_parts D_l_bent_plan D_l_cell D_l_draws D_l_due D_l_made D_l_told D_p_holds
end Cy
open PySem PySem.W PyProof.Rows in
set_option maxRecDepth 100000 in
set_option maxHeartbeats 0 in
theorem PySem.Challenge.cw_cutyard_k22_whole_verdicts_read_holds : PySem.Challenge.rw_cutyard_k22_whole_verdicts_read.Holds := by
  w_on; o_law; k_head; (case hw => w_witness2)
  k_fill
  refine L2.walk_of (l := PySem.Challenge.rw_cutyard_k22_whole_verdicts_read) (n := 63) (k := 5) (x := "_law_script") (CX := fun _ => L2.CX0) (sp := fun w => Cy.sp_p_law _) rfl (by decide) rfl ⟨rfl, by decide, by decide⟩ (fun w h Y => PySem.W.kIn_of Y) ?F (fun w H a ns hl _ hS => ⟨H, ns, fun _ _ q => q, ⟨_, _, rfl, ⟨a, rfl, hS⟩, rfl⟩, hl, fun v d F1 H1 _ hv e => by subst e; exact hv⟩) (fun _ _ _ _ _ z => z)
  case F =>
    intro w mg fa h KX G hmg
    refine' Cy.all_mk KX G hmg ?a0 ?l0 ?c0 ?k0 ?a1 ?l1 ?c1 ?k1 ?a2 ?l2 ?c2 ?k2 ?a3 ?l3 ?c3 ?k3 ?a4 ?l4 ?c4 ?k4 ?a5 ?l5 ?c5 ?k5 ?a6 ?l6 ?c6 ?k6 ?a7 ?l7 ?c7 ?k7 ?a8 ?l8 ?c8 ?k8 ?a9 ?l9 ?c9 ?k9 ?a10 ?l10 ?c10 ?k10 ?a11 ?l11 ?c11 ?k11 ?a12 ?l12 ?c12 ?k12 ?a13 ?l13 ?c13 ?k13 ?a14 ?l14 ?c14 ?k14 ?a15 ?l15 ?c15 ?k15 ?a16 ?l16 ?c16 ?k16 ?a17 ?l17 ?c17 ?k17 ?a18 ?l18 ?c18 ?k18 ?a19 ?l19 ?c19 ?k19 ?a20 ?l20 ?c20 ?k20 ?a21 ?l21 ?c21 ?k21 ?a22 ?l22 ?c22 ?k22 ?a23 ?l23 ?c23 ?k23 ?a24 ?l24 ?c24 ?k24 ?a25 ?l25 ?c25 ?k25 ?a26 ?l26 ?c26 ?k26 ?a27 ?l27 ?c27 ?k27 ?a28 ?l28 ?c28 ?k28 ?a29 ?l29 ?c29 ?k29 ?a30 ?l30 ?c30 ?k30 ?a31 ?l31 ?c31 ?k31 ?a32 ?l32 ?c32 ?k32 ?a33 ?l33 ?c33 ?k33 ?a34 ?l34 ?c34 ?k34 ?a35 ?l35 ?c35 ?k35 ?a36 ?l36 ?c36 ?k36 ?a37 ?l37 ?c37 ?k37 ?a38 ?l38 ?c38 ?k38 ?a39 ?l39 ?c39 ?k39 ?a40 ?l40 ?c40 ?k40 ?a41 ?l41 ?c41 ?k41 ?z_len ?z_zip ?z_range ?z_enumerate ?z_tuple ?z_list ?z_any ?z_all ?z_max ?z_min ?z_abs ?z_sum ?z_int ?z_isinstance ?z_bool
    (case a0 => k_is)
    (case l0 => k_is)
    (case c0 => k_is)
    (case k0 => k_is)
    (case a1 => k_is)
    (case l1 => k_is)
    (case c1 => k_is)
    (case k1 => k_is)
    (case a2 => k_is)
    (case l2 => k_is)
    (case c2 => k_is)
    (case k2 => k_is)
    (case a3 => k_is)
    (case l3 => k_is)
    (case c3 => k_is)
    (case k3 => k_is)
    (case a4 => k_is)
    (case l4 => k_is)
    (case c4 => k_is)
    (case k4 => k_is)
    (case a5 => k_is)
    (case l5 => k_is)
    (case c5 => k_is)
    (case k5 => k_is)
    (case a6 => k_is)
    (case l6 => k_is)
    (case c6 => k_is)
    (case k6 => k_is)
    (case a7 => k_is)
    (case l7 => k_is)
    (case c7 => k_is)
    (case k7 => k_is)
    (case a8 => k_is)
    (case l8 => k_is)
    (case c8 => k_is)
    (case k8 => k_is)
    (case a9 => k_is)
    (case l9 => k_is)
    (case c9 => k_is)
    (case k9 => k_is)
    (case a10 => k_is)
    (case l10 => k_is)
    (case c10 => k_is)
    (case k10 => k_is)
    (case a11 => k_is)
    (case l11 => k_is)
    (case c11 => k_is)
    (case k11 => k_is)
    (case a12 => k_is)
    (case l12 => k_is)
    (case c12 => k_is)
    (case k12 => k_is)
    (case a13 => k_is)
    (case l13 => k_is)
    (case c13 => k_is)
    (case k13 => k_is)
    (case a14 => k_is)
    (case l14 => k_is)
    (case c14 => k_is)
    (case k14 => k_is)
    (case a15 => k_is)
    (case l15 => k_is)
    (case c15 => k_is)
    (case k15 => k_is)
    (case a16 => k_is)
    (case l16 => k_is)
    (case c16 => k_is)
    (case k16 => k_is)
    (case a17 => k_is)
    (case l17 => k_is)
    (case c17 => k_is)
    (case k17 => k_is)
    (case a18 => k_is)
    (case l18 => k_is)
    (case c18 => k_is)
    (case k18 => k_is)
    (case a19 => k_is)
    (case l19 => k_is)
    (case c19 => k_is)
    (case k19 => k_is)
    (case a20 => k_is)
    (case l20 => k_is)
    (case c20 => k_is)
    (case k20 => k_is)
    (case a21 => k_is)
    (case l21 => k_is)
    (case c21 => k_is)
    (case k21 => k_is)
    (case a22 => k_is)
    (case l22 => k_is)
    (case c22 => k_is)
    (case k22 => k_is)
    (case a23 => k_is)
    (case l23 => k_is)
    (case c23 => k_is)
    (case k23 => k_is)
    (case a24 => k_is)
    (case l24 => k_is)
    (case c24 => k_is)
    (case k24 => k_is)
    (case a25 => k_is)
    (case l25 => k_is)
    (case c25 => k_is)
    (case k25 => k_is)
    (case a26 => k_is)
    (case l26 => k_is)
    (case c26 => k_is)
    (case k26 => k_is)
    (case a27 => k_is)
    (case l27 => k_is)
    (case c27 => k_is)
    (case k27 => k_is)
    (case a28 => k_is)
    (case l28 => k_is)
    (case c28 => k_is)
    (case k28 => k_is)
    (case a29 => k_is)
    (case l29 => k_is)
    (case c29 => k_is)
    (case k29 => k_is)
    (case a30 => k_is)
    (case l30 => k_is)
    (case c30 => k_is)
    (case k30 => k_is)
    (case a31 => k_is)
    (case l31 => k_is)
    (case c31 => k_is)
    (case k31 => k_is)
    (case a32 => k_is)
    (case l32 => k_is)
    (case c32 => k_is)
    (case k32 => k_is)
    (case a33 => k_is)
    (case l33 => k_is)
    (case c33 => k_is)
    (case k33 => k_is)
    (case a34 => k_is)
    (case l34 => k_is)
    (case c34 => k_is)
    (case k34 => k_is)
    (case a35 => k_is)
    (case l35 => k_is)
    (case c35 => k_is)
    (case k35 => k_is)
    (case a36 => k_is)
    (case l36 => k_is)
    (case c36 => k_is)
    (case k36 => k_is)
    (case a37 => k_is)
    (case l37 => k_is)
    (case c37 => k_is)
    (case k37 => k_is)
    (case a38 => k_is)
    (case l38 => k_is)
    (case c38 => k_is)
    (case k38 => k_is)
    (case a39 => k_is)
    (case l39 => k_is)
    (case c39 => k_is)
    (case k39 => k_is)
    (case a40 => k_is)
    (case l40 => k_is)
    (case c40 => k_is)
    (case k40 => k_is)
    (case a41 => k_is)
    (case l41 => k_is)
    (case c41 => k_is)
    (case k41 => k_is)
    (case z_len => k_is)
    (case z_zip => k_is)
    (case z_range => k_is)
    (case z_enumerate => k_is)
    (case z_tuple => k_is)
    (case z_list => k_is)
    (case z_any => k_is)
    (case z_all => k_is)
    (case z_max => k_is)
    (case z_min => k_is)
    (case z_abs => k_is)
    (case z_sum => k_is)
    (case z_int => k_is)
    (case z_isinstance => k_is)
    (case z_bool => k_is)
