import PyProof.Rows.All
import Wide.All
import OpenK.AllK
import Wide.FinOn
import PySem.Challenge.RW_wiredorders_k66_whole_patterns_in_orders
import HandS.ForMost
import HandS.ForExc
import HandS.HotCalls
import KE.KExcIs
import HandS.ExcIs
import HandS.IsInst
import HandS.EndTab
import KE.KExcSuper
import KE.GoesEnum
import HandS.SetFor
import HandS.Zip
import HandS.TupSets
import HandS.TupAny
import HandS.TupMul
import HandS.TupLen
import HandS.Style
import HandS.Codes
import HandS.Conv
import KE.KNestM
import HandS.NestedK
section
set_option Elab.async false
set_option linter.all false
set_option maxRecDepth 100000
set_option maxHeartbeats 4000000
/-! What stops while an exception is handled: the iterators of tuples, of lists, of zip. -/
namespace Wq
open PySem PySem.Spec PyProof.Rows L2 HotX
section
variable {prog : Program} {w : World} {A : Around} {E : Value → Shared → Prop} {s : Shared}
/-- the handled exception is no record of two fields -/
theorem hot_ne {x1 b : Addr} {h : Heap} {o : Obj} {u v : Value} (hot : HotAt A x1 h) (hb : h.get? b = some o) (hd : o.data = .fields #[u, v]) : x1 ≠ b := fun z => by
  obtain ⟨_, o1, vs, h1, d1, c1⟩ := hot
  rw [z, hb] at h1
  cases h1
  rw [hd] at d1
  cases d1
  simp at c1
theorem hot_keep {x1 : Addr} {h h' : Heap} (hot : HotAt A x1 h) (k : ∀ o, h.get? x1 = some o → h'.get? x1 = some o) : HotAt A x1 h' := by
  obtain ⟨a, o1, vs, h1, d1, c1⟩ := hot
  exact ⟨a, o1, vs, k _ h1, d1, c1⟩
/-- the making and raising of StopIteration -/
theorem stop_hot {α : Type} {x1 : Addr} {Q : α → Shared → Prop} {k : Value → Sem α} (hot : HotAt A x1 s.heap) (hk : k = fun e => raiseNew e)
    (hE : ∀ h' e, (∀ b o, s.heap.get? b = some o → h'.get? b = some o) → (∃ o, h'.get? e = some o ∧ o.cls = .type "StopIteration") → E (.ref e) { s with heap := h' }) :
    wpAny (model prog w) A (newExc (.type "StopIteration") [] >>= k) Q E s := by
  subst hk
  refine wpAny_bind ?_
  simp only [newExc, newTuple]
  refine wpAny_bind (wpAny_newObj_type ?_ (by size_fits))
  refine wpAny_bind (m := firstArgMember _ _) (wpAny_of_eq (a := Value.none) (by first | rfl | (simp only [firstArgMember]; rfl)) ?_)
  refine wpAny_newObj_type ?_ (by size_fits)
  have k2 : ∀ {o1 o2 : Obj} {b : Addr} {o : Obj}, s.heap.get? b = some o → ((s.heap.push o1).push o2).get? b = some o := fun e => Heap.get?_push_of_some _ (Heap.get?_push_of_some _ e)
  have hot2 := fun (o1 o2 : Obj) => hot_keep (h' := (s.heap.push o1).push o2) hot fun o e => k2 e
  have hlt : x1 < s.heap.objs.size := by
    obtain ⟨_, o1, vs, h1, _, _⟩ := hot
    exact Heap.lt_size h1
  refine raiseNew_hot (hot2 _ _) (Nat.ne_of_lt (Nat.lt_of_lt_of_le hlt (by rw [Heap.size_push]; exact Nat.le_succ _))) (Heap.get?_push_size _ rfl) rfl (by first | (simp; done) | (simp; omega) | (simp only [Array.size_append]; simp; omega)) ?_
  refine hE _ _ (fun b o e => ?_) ⟨_, Heap.get?_update_self _ (Heap.get?_push_size _ rfl) rfl, rfl⟩
  rw [Heap.get?_update_other _ _ (Nat.ne_of_gt (Heap.lt_size (Heap.get?_push_of_some _ e)))]
  exact k2 e
/-- the tuple's iterator at its end -/
theorem tupEnd_hot {it t x1 : Addr} {i : Nat} {items} {Q : Option Value → Shared → Prop} (hot : HotAt A x1 s.heap) (hit : IsTupIter s.heap it t i) (ht : IsTup s.heap t items) (hx : items[i]? = none)
    (hQ : ∀ h', Heap.ExtBut it s.heap h' → Q none { s with heap := h' }) : wpAny (model prog w) A (pyNext (.ref it)) Q E s := by
  obtain ⟨o, ho, hc, hd⟩ := id hit
  obtain ⟨ol, hol, _, nl, hdl⟩ := ht
  have hne : x1 ≠ it := hot_ne hot ho hd
  unfold pyNext
  refine wpAny_bind (wpAny_attempt (wpAny_callSpecial?_slot (name := Str.ofString "__next__") hit.typeIs slot_tupleiter_next
    (wpAny_call_entry slot_tupleiter_next hit.typeIs entry_tupleiter_next ?_ (args_tupleiter_next _))))
  show wpAny _ _ (field (.ref it) 0 >>= _) _ _ s
  refine wpAny_bind (wpAny_field ho hd (x := .ref t) rfl ?_)
  show wpAny _ _ (if (Value.ref t == Value.none) = true then _ else _) _ _ s
  rw [if_neg (show ¬ ((Value.ref t == Value.none) = true) from Bool.false_ne_true)]
  show wpAny _ _ (field (.ref it) 1 >>= _) _ _ s
  refine wpAny_bind (wpAny_field ho hd (x := .int i 0) rfl ?_)
  show wpAny _ _ (seqItems? (.ref t) >>= _) _ _ s
  refine wpAny_bind (wpAny_seqItems hol hdl ?_)
  simp only [Int.toNat_natCast, hx]
  refine wpAny_bind (wpAny_rule (wpAny_bind (wpAny_setField ho hd (by simp) ?_)))
  have sb := Heap.SameBut.update (a := it) s.heap (Obj.mapFields (·.setIfInBounds 0 Value.none))
  refine stop_hot (x1 := x1) (s := { s with heap := s.heap.update it (Obj.mapFields (·.setIfInBounds 0 Value.none)) }) (hot_keep hot fun o e => (sb.2 _ hne).trans e) rfl fun h' e k hs => ?_
  obtain ⟨oe, he, hce⟩ := hs
  refine wpAny_bind (wpAny_isInstance (T := "StopIteration") (b := true) ⟨_, he, hce⟩ isSubtype_stop ?_)
  exact wpAny_pure (hQ _ fun b o hb q => k b o ((sb.2 b hb).trans q))
/-- the list's iterator at its end, asked by zip -/
theorem lstEnd_hot {it l x1 : Addr} {i : Nat} {items} {Q : Value → Shared → Prop} (hot : HotAt A x1 s.heap) (hit : s.heap.IsListIter it l i) (hl : s.heap.IsList l items) (hx : items[i]? = none)
    (hE : ∀ h' e, Heap.ExtBut it s.heap h' → (∃ o, h'.get? e = some o ∧ o.cls = .type "StopIteration") → E (.ref e) { s with heap := h' }) : wpAny (model prog w) A (Builtin.SmallTypes.nextOf (.ref it)) Q E s := by
  obtain ⟨o, ho, hc, hd⟩ := id hit
  obtain ⟨ol, hol, _, nl, hdl⟩ := hl
  have hne : x1 ≠ it := hot_ne hot ho hd
  unfold Builtin.SmallTypes.nextOf
  refine wpAny_bind (wpAny_callSpecial?_slot (name := Str.ofString "__next__") hit.typeIs slot_listiter_next
    (wpAny_call_entry slot_listiter_next hit.typeIs entry_listiter_next ?_ (args_listiter_next _)))
  show wpAny _ _ (field (.ref it) 0 >>= _) _ _ s
  refine wpAny_bind (wpAny_field ho hd (x := .ref l) rfl ?_)
  show wpAny _ _ (if (Value.ref l == Value.none) = true then _ else _) _ _ s
  rw [if_neg (show ¬ ((Value.ref l == Value.none) = true) from Bool.false_ne_true)]
  show wpAny _ _ (field (.ref it) 1 >>= _) _ _ s
  refine wpAny_bind (wpAny_field ho hd (x := .int i 0) rfl ?_)
  show wpAny _ _ (seqItems? (.ref l) >>= _) _ _ s
  refine wpAny_bind (wpAny_seqItems hol hdl ?_)
  simp only [Int.toNat_natCast, hx]
  refine wpAny_bind (wpAny_rule (wpAny_bind (wpAny_setField ho hd (by simp) ?_)))
  have sb := Heap.SameBut.update (a := it) s.heap (Obj.mapFields (·.setIfInBounds 0 Value.none))
  refine stop_hot (x1 := x1) (s := { s with heap := s.heap.update it (Obj.mapFields (·.setIfInBounds 0 Value.none)) }) (hot_keep hot fun o e => (sb.2 _ hne).trans e) rfl fun h' e k hs => ?_
  exact hE _ _ (fun b o hb q => k b o ((sb.2 b hb).trans q)) hs
/-- zip at its end, the first list done -/
theorem zipEnd_hot {z TI TO i1 i2 l1 l2 x1 : Addr} {k1 : Nat} {xs : Array Value} {Q : Option Value → Shared → Prop} (hot : HotAt A x1 s.heap) (D : ZipApart z TI TO i1 i2 l1 l2)
    (hz : IsZip s.heap z TI TO .none) (hTI : IsPair s.heap TI (.ref i1) (.ref i2)) (h1 : s.heap.IsListIter i1 l1 k1) (hl1 : s.heap.IsList l1 xs) (hend : xs[k1]? = none)
    (hQ : ∀ h', (∀ c o, c ≠ z → c ≠ i1 → s.heap.get? c = some o → h'.get? c = some o) → Q none { s with heap := h' }) : wpAny (model prog w) A (pyNext (.ref z)) Q E s := by
  have hT : s.TypeIs (.ref z) "zip" := ⟨_, hz, rfl⟩
  have hxz : x1 ≠ z := fun q => by
    obtain ⟨_, o1, vs, e1, d1, c1⟩ := hot
    rw [q, hz] at e1
    cases e1
    cases d1
    simp at c1
  unfold pyNext
  refine wpAny_bind (wpAny_attempt (wpAny_callSpecial?_slot (name := Str.ofString "__next__") hT F.slot_zip_next (wpAny_call_entry F.slot_zip_next hT F.entry_zip_next ?_ (F.args_zip_next_1 _))))
  show wpAny _ _ (field (.ref z) 2 >>= _) _ _ _
  refine wpAny_bind (wpAny_field hz rfl (x := .bool false) rfl ?_)
  show wpAny _ _ (field (.ref z) 3 >>= _) _ _ _
  refine wpAny_bind (wpAny_field hz rfl (x := .ref TI) rfl ?_)
  refine wpAny_bind (wpAny_seqItems hTI rfl ?_)
  show wpAny _ _ (Builtin.SmallTypes.ownedTupleIsFree (.ref z) >>= _) _ _ _
  refine wpAny_bind ?_
  unfold Builtin.SmallTypes.ownedTupleIsFree
  refine wpAny_bind (wpAny_field hz rfl (x := .none) rfl (wpAny_pure ?_))
  simp only [if_true]
  refine wpAny_bind (wpAny_rule ?_)
  refine wpAny_bind (wpAny_field hz rfl (x := .ref TO) rfl ?_)
  refine wpAny_bind (wpAny_setField_rec hz (by simp) fun h₁ hz₁ hs₁ => ?_)
  replace hz₁ : IsZip h₁ z TI TO .ellipsis := hz₁
  refine wpAny_bind ?_
  simp only [List.zipIdx_cons, List.zipIdx_nil, List.forIn_cons, List.forIn_nil]
  refine wpAny_bind (wpAny_bind (wpAny_onRaise ?_))
  show wpAny _ _ (Builtin.SmallTypes.nextOf (.ref i1) >>= _) _ _ _
  refine wpAny_bind (lstEnd_hot (hot_keep (h' := h₁) hot fun o e => hs₁.extBut _ _ hxz e) (h1.extBut hs₁.extBut D.i1z) (hl1.extBut hs₁.extBut D.l1z) hend fun h₂ e hs₂ he => ?_)
  obtain ⟨oe, hoe, hce⟩ := he
  have hz₂ : IsZip h₂ z TI TO .ellipsis := hs₂ _ _ D.i1z.symm hz₁
  have hez : e ≠ z := fun x => by subst x; rw [hz₂] at hoe; cases hoe; simp at hce
  refine wpAny_setField_rec hz₂ (by simp) fun h₃ _ hs₃ => ?_
  refine wpAny_bind (wpAny_isInstance (T := "StopIteration") (b := true) ⟨oe, hs₃.extBut _ _ hez hoe, hce⟩ isSubtype_stop ?_)
  exact wpAny_pure (hQ _ fun c o c1 c3 x => hs₃.extBut _ _ c1 (hs₂ _ _ c3 (hs₁.extBut _ _ c1 x)))
/-- a pair is unpacked -/
theorem unpack_hot {t x1 : Addr} {items : Array Value} {Q : List Value → Shared → Prop} (hot : HotAt A x1 s.heap) (ht : IsTup s.heap t items)
    (hQ : ∀ h', Heap.ExtBut s.heap.objs.size s.heap h' → Q items.toList { s with heap := h' }) : wpAny (model prog w) A (unpackItems (.ref t) items.size none) Q E s := by
  have hlt : t ≠ s.heap.objs.size := by obtain ⟨o, ho, _⟩ := ht; exact Nat.ne_of_lt (Heap.lt_size ho)
  have hx : x1 ≠ s.heap.objs.size := by obtain ⟨_, o1, vs, h1, _, _⟩ := hot; exact Nat.ne_of_lt (Heap.lt_size h1)
  unfold unpackItems
  refine wpAny_bind ?_
  · unfold notIterableAtAll
    refine wpAny_bind (wpAny_specialOf ht.typeIs slot_tuple_iter.lookup ?_)
    refine wpAny_pure ?_
    simp only [Bool.false_eq_true, if_false]
    refine wpAny_bind (wpAny_holding (iter_tuple ht ?_))
    refine wpAny_bind (wpAny_holding (draw_tuple hlt items.size 0 _ _ ⟨_, Heap.get?_push_size _ rfl, rfl, rfl⟩ (ht.push _) (by omega) fun h₁ hit₁ hs₁ => ?_))
    have hall : List.take items.size (List.drop 0 items.toList) = items.toList := by
      rw [List.drop_zero]; exact List.take_of_length_le (by simp)
    rw [hall]
    rw [if_neg (by simp)]
    have ht₁ : IsTup h₁ t items := (ht.push _).extBut hs₁.extBut hlt
    refine wpAny_bind (wpAny_holding (tupEnd_hot (hot_keep (h' := h₁) hot fun o e => hs₁.extBut _ _ hx (Heap.get?_push_of_some _ e)) hit₁ ht₁ (by simp) fun h₂ he₂ => ?_))
    simp only [Option.isSome_none, Bool.false_eq_true, if_false]
    exact wpAny_pure (hQ h₂ fun b o hb e => he₂ b o hb (hs₁.extBut b o hb (Heap.get?_push_of_some _ e)))
end
end Wq
end

section
set_option Elab.async false
set_option linter.all false
set_option maxRecDepth 100000
set_option maxHeartbeats 400000
/-! A comprehension over zip within an except suite. -/
namespace Wq
open PySem PySem.Spec PyProof.Rows L2 L2H HotX
abbrev St := L2.St
/-- pairs of the lists at a and b, as long as the list at a lasts -/
def Itp (K : PySem.W.Frag) (a b : Addr) : It :=
  ⟨fun i H => ∃ (xs ys : List V) (x y : V), SqL K H a xs ∧ SqL K H b ys ∧ xs[i]? = some x ∧ ys[i]? = some y,
    fun i H v H' => ∃ T x y, v = .ref T ∧ H T = none ∧ H' = upd H T (.tup [x, y]) ∧ (∀ xs, SqL K H a xs → xs[i]? = some x) ∧ ∀ ys, SqL K H b ys → ys[i]? = some y,
    fun i H => ∃ xs : List V, SqL K H a xs ∧ xs.length ≤ i⟩
theorem five {z TI TO i1 i2 c : Addr} (h : c ∈ [z, TI, TO, i1, i2]) : c = z ∨ c = TI ∨ c = TO ∨ c = i1 ∨ c = i2 := by simpa using h
theorem turn_pairs {P : Program} {w : World} {K : PySem.W.Frag} {elts : List Expr} {kk : Nat} {tpos : Pos} {a b z TI TO i1 i2 : Addr} (D : ZipApart z TI TO i1 i2 a b) :
    TurnH P w K (.Tuple elts kk tpos) (Itp K a b) [z, TI, TO, i1, i2] z (fun i h => IsZip h z TI TO .none ∧ IsPair h TI (.ref i1) (.ref i2) ∧ (∃ x y, IsPair h TO x y) ∧ h.IsListIter i1 a i ∧ h.IsListIter i2 b i) where
  mem := by simp
  obj := fun i h st c hc => by
    obtain ⟨hz, hTI, ⟨x, y, hTO⟩, ⟨o1, e1, _, d1⟩, ⟨o2, e2, _, d2⟩⟩ := st
    rcases five hc with q | q | q | q | q <;> subst q
    · exact ⟨_, hz, fun v q => nomatch q⟩
    · exact ⟨_, hTI, fun v q => nomatch q⟩
    · exact ⟨_, hTO, fun v q => nomatch q⟩
    · exact ⟨o1, e1, fun v q => by rw [d1] at q; cases q⟩
    · exact ⟨o2, e2, fun v q => by rw [d2] at q; cases q⟩
  keep := fun i h h' st k => by
    obtain ⟨hz, hTI, ⟨x, y, hTO⟩, h1, h2⟩ := st
    exact ⟨k z (by simp) _ hz, k TI (by simp) _ hTI, ⟨x, y, k TO (by simp) _ hTO⟩, h1.at fun o q => k i1 (by simp) o q, h2.at fun o q => k i2 (by simp) o q⟩
  item := by
    intro X hP hw hK _ i pins s σ H E I hf st hg
    subst hP hw hK
    obtain ⟨hz, hTI, ⟨x0, y0, hTO⟩, h1, h2⟩ := st
    obtain ⟨xs, ys, x, y, hqx, hqy, hx, hy⟩ := hg
    obtain ⟨its, rv, p, _⟩ := I.list hqx
    obtain ⟨its2, rv2, p2, _⟩ := I.list hqy
    obtain ⟨u, hu, ru⟩ := rv.get hx
    obtain ⟨u2, hu2, ru2⟩ := rv2.get hy
    have hzl : z < s.heap.objs.size := Heap.lt_size hz
    refine wpAny_pyNext_zip_item D hz hTI hTO h1 h2 p.isList p2.isList (x := u) (y := u2) (by simpa using hu) (by simpa using hu2) fun h' z' TO' h1' h2' hT hsz hk => ?_
    refine ⟨_, rfl, wpAny_letOwnedTupleGo_zip (s := { s with heap := h' }) z' fun h'' z'' sb => ?_⟩
    have hT2 : h''.get? s.heap.objs.size = some { cls := .type "tuple", data := .seq #[u, u2] } := (sb.2 _ (Nat.ne_of_gt hzl)).trans hT
    have I1 : Inv X pins σ (upd H s.heap.objs.size (.tup [x, y])) { s with heap := h'' } := by
      refine I.turnedNew (t' := s.toks) (ch := [z, TI, TO, i1, i2]) (fun c o hb q => ?_) hf (Nat.le_refl _) ⟨by show 2 ≤ sizeLine; decide, [u, u2], .cons ru (.cons ru2 .nil), ⟨_, hT2, rfl, _, rfl⟩⟩
      have n1 : c ≠ z := fun q' => hb (by simp [q'])
      exact (sb.2 c n1).trans (hk c o n1 (fun q' => hb (by simp [q'])) (fun q' => hb (by simp [q'])) (fun q' => hb (by simp [q'])) q)
    refine ⟨.ref s.heap.objs.size, _, I1, rfl, ⟨_, x, y, rfl, I.hok.fresh (Nat.le_refl _), rfl, fun l hl => by rw [I.list_inj hl hqx]; exact hx, fun l hl => by rw [I.list_inj hl hqy]; exact hy⟩, ⟨z'', ?_, ⟨u, u2, ?_⟩, ?_, ?_⟩, fun c hcm => ?_⟩
    · exact (sb.2 _ D.TIz).trans (hk _ _ D.TIz D.TITO D.TIi1 D.TIi2 hTI)
    · exact (sb.2 _ D.TOz).trans TO'
    · exact h1'.at fun o q => (sb.2 _ D.i1z).trans q
    · exact h2'.at fun o q => (sb.2 _ D.i2z).trans q
    · have hlt : c < s.heap.objs.size := by
        obtain ⟨o1, e1, _⟩ := h1
        obtain ⟨o2, e2, _⟩ := h2
        rcases five hcm with q | q | q | q | q <;> rw [q]
        · exact hzl
        · exact Heap.lt_size hTI
        · exact Heap.lt_size hTO
        · exact Heap.lt_size e1
        · exact Heap.lt_size e2
      rw [upd_ne (Nat.ne_of_lt hlt)]
      exact (hf c hcm).1
  done := by
    intro X hP hw hK hot i pins s σ H E I hf st hg
    subst hP hw hK
    obtain ⟨x1, hx1⟩ := hot.at I
    obtain ⟨hz, hTI, _, h1, _⟩ := st
    obtain ⟨xs, hqx, hend⟩ := hg
    obtain ⟨its, rv, p, _⟩ := I.list hqx
    have l1 := rv.length
    refine zipEnd_hot hx1 D hz hTI h1 p.isList (by simp; omega) fun h' hk => ⟨rfl, I.turnedL (t' := s.toks) (ch := [z, TI, TO, i1, i2]) (fun c o hb q => ?_) hf⟩
    exact hk c o (fun q' => hb (by simp [q'])) (fun q' => hb (by simp [q'])) q
  self := fun A i s Q E st h => wpAny_pyIter_zip st.1 h
section
variable {X : Cx}
/-- zip(e, e2) -/
def iPairs (K : PySem.W.Frag) (ta : TA) : TI := fun σ H R => ta σ H fun vs H1 => ∃ a b xs ys, vs = [.ref a, .ref b] ∧ SqL K H1 a xs ∧ SqL K H1 b ys ∧ R (Itp K a b) H1
theorem pi_pairs {e e2 : Expr} {ta : TA} {p pos tpos : Pos} {elts : List Expr} {kk : Nat} (hg : Gl X "zip") (hm : X.mg "zip" = none) (ha : PA X [e, e2] ta)
    (hs : starEach [e, e2] X.env = (false, eval e X.env) :: starEach [e2] X.env := by rfl) (hpl : (backTo pos (starEach [e2] X.env)).any (·.1) = false := by rfl) :
    PIH X (.Tuple elts kk tpos) (.Call (.Name "zip" p) [e, e2] [] pos) (iPairs X.K ta) := by
  refine ⟨fun pins s σ H R I h => ?_⟩
  refine Call_ (ld_blt I hg hm PyProof.Rows.boot_zip (PyProof.Rows.callWith_type1 (thn (ha.run pos pins s σ H _ I h) fun us s1 ⟨vs, H1, I1, r1, q1⟩ => ?_) hs hpl))
  obtain ⟨a, b, xs, ys, ex, hqx, hqy, q⟩ := q1
  subst ex
  cases r1 with
  | cons r rr => cases rr with
    | cons r' rr =>
      cases rr
      cases r
      cases r'
      obtain ⟨its, rv, p1, _⟩ := I1.list hqx
      obtain ⟨its2, rv2, p2, _⟩ := I1.list hqy
      refine call_zip_2 p1.isList p2.isList fun h' hz hTI hTO h1 h2 hsz hk => wpAny_pyIter_zip hz ?_
      refine ⟨s1.heap.objs.size + 4, [s1.heap.objs.size + 4, s1.heap.objs.size + 2, s1.heap.objs.size + 3, s1.heap.objs.size, s1.heap.objs.size + 1], _, _, H1, rfl, I1.kept (t' := s1.toks) hk,
        turn_pairs (PySem.W.ktu_apart s1.heap.objs.size a b p1.lt p2.lt), ⟨hz, hTI, ⟨_, _, hTO⟩, h1, h2⟩, fun c hcm => ?_, q⟩
      have hle : s1.heap.objs.size ≤ c := by
        rcases five hcm with z | z | z | z | z <;> rw [z] <;> first | exact Nat.le_add_right _ _ | exact Nat.le_refl _
      exact I1.fpOk hle (I1.hok.fresh hle)
/-- (a, b) = a pair, within a suite -/
theorem pg_tupH {es : List Expr} {k : Nat} {t : TGs} {n : Nat} {pos : Pos} (hc : HotC X) (h : PGs X es t) (hn : (assignEach es X.env).length = n := by rfl) (hst : (assignEach es X.env).findIdx? (·.1) = none := by rfl) :
    PG X (.Tuple es k pos) (gTup X.K n t) := by
  refine ⟨fun pins s σ H v u Q I r hw => ?_⟩
  obtain ⟨a, xs, e1, hq, hl, hw⟩ := hw
  subst e1
  cases r
  obtain ⟨its, rv, ht, hz⟩ := I.tuple hq
  obtain ⟨x1, hot⟩ := hc.at I
  have hsz : (assignEach es X.env).length = its.toArray.size := by simp [hn, ← hl, rv.length]
  rw [assign_Tuple]
  refine wpAny_bind (wpAny_standAt ?_)
  unfold unpack
  rw [hsz, hst]
  refine wpAny_bind (wpAny_holding (unpack_hot hot ht fun h' hx => ?_))
  have I1 : Inv X pins σ H { s with heap := h' } := I.kept (t' := s.toks) fun b o e => hx b o (Nat.ne_of_lt (Heap.lt_size e)) e
  exact h.run pins _ σ H xs _ Q I1 (by simpa using rv) hw
/-- a comprehension's block that bears the pins -/
abbrev blkH (X : Cx) (s : Shared) (H : Hp) (scope : Scope) (cenv : Env) (fp : List Addr) : Cx := { X.blk s H scope cenv fp with pn := X.pn }
theorem blkH_of {s0 s' : Shared} {H0 H' : Hp} {σ' : St} {scope : Scope} {cenv : Env} {fp : List Addr} (I : Inv (X.blk s0 H0 scope cenv fp) [] σ' H' s')
    (h : ∀ p ∈ X.pn, s'.heap.get? p.1 = some p.2 ∧ H' p.1 = none ∧ p.1 ≠ cenv.locals ∧ p.1 ∉ frs X.stack ∧ ∀ v, p.2.data ≠ .cell v) : Inv (blkH X s0 H0 scope cenv fp) [] σ' H' s' :=
  ⟨⟨I.ok.mod, I.ok.kind, I.ok.glob, I.ok.blt, I.ok.above, I.ok.inj, I.ok.has, I.ok.cab, I.ok.hd, I.ok.frames, I.ok.stk, I.ok.exf, I.ok.bs, I.ok.bsz, I.ok.noex, I.ok.exfs, I.ok.funs, I.ok.frf⟩,
    I.os, I.bare, I.base, I.loc, I.cell, I.free, I.freeC, fun p hp => h p (by simpa using hp), I.hok, I.len⟩
theorem pe_lcH {elt tg iter : Expr} {ifs : List Expr} {scope : Scope} {own : List (Str × Nat)} {pos : Pos} {wi : TI} {g : TG} {tt : TT} {te : TE} (hot : HotC X) (hN : X.N.Nodup) (hi : PIH X tg iter wi) (ok : BlkOk X.N X.env.scope scope own)
    (hg : ∀ (s : Shared) (H : Hp) (C : Addr) (cl : List (Str × Addr)) (fp : List Addr), PG (blkH X s H scope (compEnvC scope cl C X.env) fp) tg g) (ht : ∀ (s : Shared) (H : Hp) (C : Addr) (cl : List (Str × Addr)) (fp : List Addr), PTs (blkH X s H scope (compEnvC scope cl C X.env) fp) ifs tt)
    (he : ∀ (s : Shared) (H : Hp) (C : Addr) (cl : List (Str × Addr)) (fp : List Addr), PE (blkH X s H scope (compEnvC scope cl C X.env) fp) elt te) (hs : ∀ x, foldedSetIterable iter X.env x = pure x := by intro _; rfl) :
    PE X (.ListComp elt [⟨tg, iter, ifs, 0⟩] scope pos) (tLc wi g tt te (own.map (·.2))) := by
  refine ⟨fun pins s σ H Q I h => ?_⟩
  have hfree : ∀ y ∈ scope.names, y.2 = .free → ∃ c, X.env.cells.lookup y.1 = some c := fun y hy e => (ok.free y hy e).elim (fun k => I.ok.has _ (.inl k)) fun k => I.ok.has _ (.inr k)
  rw [eval_ListComp]
  refine wpAny_comprehension_free (use := none) rfl hs (closure_ok hfree) ok.kind (fun y hy e => by rw [ok.uniq y hy, e]) (thn (hi.run pins s σ H _ I h) fun xv s1 hx => thn hx fun itv s2 h2 => ?_)
  obtain ⟨it, fp, tn, J, H2, e, I2, T, st2, f2, q⟩ := h2
  subst e
  refine wpAny_newObj_type (newEnv_comp ?_) (by show 0 ≤ sizeLine; decide)
  generalize hD : s2.heap.objs.size = D
  obtain ⟨W, ⟨m0, w0⟩, turn⟩ := q D (I2.hok.fresh (Nat.le_of_eq hD))
  generalize hs3 : ({ s2 with heap := s2.heap.push { cls := .type "list", data := .seq ([] : List Value).toArray } } : Shared) = s3
  have h3 : s3.heap = s2.heap.push { cls := .type "list", data := .seq ([] : List Value).toArray } := by rw [← hs3]
  have I3 : Inv X pins σ (upd H2 D (.lst [])) s3 := by
    rw [← hs3]
    exact I2.laid (t' := s2.toks) (fun b o e => Heap.get?_push_of_some _ e) (Nat.le_of_eq hD) ⟨Nat.zero_le _, [], 0, .nil, by rw [← hD]; exact Heap.get?_push_size _ rfl⟩
  have f3 : ∀ b ∈ fp, FpOk X pins (upd H2 D (.lst [])) b ∧ b < s3.heap.objs.size := fun b hb => by
    obtain ⟨o, e, _⟩ := T.obj _ _ st2 b hb
    have hlt := Heap.lt_size e
    refine ⟨⟨?_, (f2 b hb).2⟩, by rw [h3, Heap.size_push]; exact Nat.lt_succ_of_lt hlt⟩
    rw [upd_ne (by rw [← hD]; exact Nat.ne_of_lt hlt)]
    exact (f2 b hb).1
  have st3 : tn 0 s3.heap := T.keep _ _ _ st2 fun b _ o e => by rw [h3]; exact Heap.get?_push_of_some _ e
  have I4 := block_start I3 ok hN f3
  have pg := hg s3 (upd H2 D (.lst [])) s3.heap.objs.size (cellsFrom (s3.heap.objs.size + 1) scope.names (cloFrom X.env.cells scope.names [])) fp
  have pt := ht s3 (upd H2 D (.lst [])) s3.heap.objs.size (cellsFrom (s3.heap.objs.size + 1) scope.names (cloFrom X.env.cells scope.names [])) fp
  have pe := he s3 (upd H2 D (.lst [])) s3.heap.objs.size (cellsFrom (s3.heap.objs.size + 1) scope.names (cloFrom X.env.cells scope.names [])) fp
  show codeAny _ _ (.compStart (.ListComp elt [⟨tg, iter, ifs, 0⟩] scope pos) 0 (.ref it) (.ref D) (compEnvC scope (cellsFrom (s3.heap.objs.size + 1) scope.names (cloFrom X.env.cells scope.names [])) s3.heap.objs.size X.env)) (compPost (model X.prog X.w) X.A X.xe none (EP X pins σ Q) (.ref D) s3.heap.objs.size) { s3 with heap := pushCells (s3.heap.push { cls := .type "dict", data := .dict #[] }) scope.names }
  have nfp : ∀ b ∈ fp, (upd H2 D (.lst [])) b = none := fun b hb => (f3 b hb).1.1
  have kp4 : ∀ b o, s3.heap.get? b = some o → (pushCells (s3.heap.push { cls := .type "dict", data := .dict #[] }) scope.names).get? b = some o := fun b o e => pushCells_keeps _ _ _ _ (Heap.get?_push_of_some _ e)
  generalize hce : compEnvC scope (cellsFrom (s3.heap.objs.size + 1) scope.names (cloFrom X.env.cells scope.names [])) s3.heap.objs.size X.env = ce at I4 pg pt pe ⊢
  have cL : ce.locals = s3.heap.objs.size := by subst hce; rfl
  generalize hH3 : upd H2 D (.lst []) = H3 at I3 I4 pg pt pe w0 nfp f3
  generalize hs4 : ({ s3 with heap := pushCells (s3.heap.push { cls := .type "dict", data := .dict #[] }) scope.names } : Shared) = s4 at I4 ⊢
  have kp : ∀ b o, s3.heap.get? b = some o → s4.heap.get? b = some o := fun b o e => by rw [← hs4]; exact kp4 b o e
  have J4 : Inv (blkH X s3 H3 scope ce fp) [] (wipe σ (own.map (·.2))) H3 s4 := blkH_of I4 fun p hp => by
    obtain ⟨z1, z2, z3, z4, z5⟩ := I3.pin p (List.mem_append_left _ hp)
    exact ⟨kp _ _ z1, z2, by rw [cL]; exact Nat.ne_of_lt (Heap.lt_size z1), fun hm => (List.mem_cons.mp (I3.stkSub p.1 hm)).elim z3 z4, z5⟩
  have st4 : tn 0 s4.heap := T.keep _ _ _ st3 fun b _ o e => kp b o e
  have hot' : HotC (blkH X s3 H3 scope ce fp) := by
    obtain ⟨p, h1, h2⟩ := hot
    exact ⟨p, h1, h2⟩
  have stat : ∀ {σ' : St} {H' : Hp} {s' : Shared}, Inv (blkH X s3 H3 scope ce fp) [] σ' H' s' → (∀ b ∈ fp, H' b = none) → ∀ b ∈ fp, FpOk (blkH X s3 H3 scope ce fp) [] H' b := fun {σ' H' s'} I' hn b hb =>
    ⟨hn b hb, (I'.ok.exf b hb).1, I'.ok.exfs b hb, .inl hb, fun x c e => (I'.ok.exf b hb).2 x c e, fun p hp => (f3 b hb).1.2.2.2.2.2 p (List.mem_append_left _ (by simpa using hp))⟩
  have loop : codeAny (model X.prog X.w) X.A (.compLoop (.ListComp elt [⟨tg, iter, ifs, 0⟩] scope pos) 0 (.ref it) (.ref D) ce) (compPost (model X.prog X.w) X.A X.xe none (EP X pins σ Q) (.ref D) s3.heap.objs.size) s4 := by
    refine compLoop_any (fun n s' => ∃ i H', Inv (blkH X s3 H3 scope ce fp) [] (wipe σ (own.map (·.2))) H' s' ∧ tn i s'.heap ∧ (∀ b ∈ fp, H' b = none) ∧ W i n H') ?_ m0 ⟨0, H3, J4, st4, nfp, w0⟩
    rintro n s5 ⟨i, H5, I5, st5, n5, w5⟩
    rcases turn i n H5 w5 with ⟨stop, qq⟩ | ⟨go, Nx, hNx, step⟩
    · refine thnF (T.done (blkH X s3 H3 scope ce fp) rfl rfl rfl hot' i [] s5 _ H5 (fun _ _ => False) I5 (stat I5 n5) st5 stop) fun r s6 ⟨hr, I6⟩ => ?_
      subst hr
      have I7 : Inv X pins σ H5 s6 := I3.call' (ch := fp) I6.os I6.base I6.hok I6.bare fun b hb => ⟨(f3 b hb).1.2.2.2.1, (f3 b hb).1.2.1, (f3 b hb).1.2.2.2.2.1, (f3 b hb).1.2.2.2.2.2⟩
      obtain ⟨m, hn, _⟩ := I6.loc
      have hn : s6.heap.Ns ce.locals m := hn
      have nC : H5 ce.locals = none := I6.free
      rw [cL] at hn nC
      obtain ⟨g0, g1, g2, g3, g4, g5⟩ := I3.fpOk (H' := H5) (Nat.le_refl _) nC
      exact ⟨m, hn, fun h'' sb => ⟨.ref D, H5, I7.turned (t' := s6.toks) (fun b o hb e => (sb.2 b hb).trans e) g0 g1 g3 g4 g5, rfl, qq⟩⟩
    · refine thnF (T.item (blkH X s3 H3 scope ce fp) rfl rfl rfl hot' i [] s5 _ H5 (fun _ _ => False) I5 (stat I5 n5) st5 go) fun r s6 ⟨u, hr, h6⟩ => ?_
      subst hr
      refine thnF h6 fun _ s7 ⟨x, H7, I7, r7, y7, st7, n7⟩ => ?_
      have I7' := I7.pinned (stat I7 n7) (T.obj _ _ st7)
      refine thnF (pg.run _ s7 _ H7 x u _ I7' r7 (step x H7 y7)) fun _ s8 ⟨σ8, H8, I8, hw8, q8⟩ => ?_
      refine thnF (pt.run _ s8 σ8 H8 _ I8 q8) fun b s9 ⟨H9, I9, q9⟩ => ?_
      have fin : ∀ {s' : Shared} {H' : Hp}, Inv (blkH X s3 H3 scope ce fp) ([] ++ pinsAt fp s7.heap) σ8 H' s' → Nx H' → ∃ m, m < n ∧ ∃ i H', Inv (blkH X s3 H3 scope ce fp) [] (wipe σ (own.map (·.2))) H' s' ∧ tn i s'.heap ∧ (∀ b ∈ fp, H' b = none) ∧ W i m H' := fun {s' H'} I' nx => by
        obtain ⟨m', hm, w'⟩ := hNx H' nx
        have pin' : ∀ b ∈ fp, ∀ o, s7.heap.get? b = some o → s'.heap.get? b = some o ∧ H' b = none := fun b hb o e =>
          let z := I'.pin (b, o) (List.mem_append_right _ (List.mem_append_right _ (mem_pinsAt hb e)))
          ⟨z.1, z.2.1⟩
        refine ⟨m', hm, i + 1, H', (I'.unpinned (pins := [])).weak (by rw [← hw8, wipe_length]) (fun j v e => ?_), T.keep _ _ _ st7 fun b hb o e => (pin' b hb o e).1, fun b hb => ?_, w'⟩
        · rw [← hw8] at e
          exact (wipe_some e).1
        · obtain ⟨o, e, _⟩ := T.obj _ _ st7 b hb
          exact (pin' b hb o e).2
      cases b with
      | false =>
        simp only [Bool.false_eq_true, if_false] at q9 ⊢
        exact fin I9 q9
      | true =>
        simp only [if_true] at q9 ⊢
        refine thnF (pe.run _ s9 σ8 H9 _ I9 q9) fun z s10 ⟨yv, H10, I10, r10, acc, hD10, hz10, nx⟩ => ?_
        exact app_ok (X := blkH X s3 H3 scope ce fp) I10 hD10 hz10 r10 fun s11 I11 => fin I11 nx
  exact codeAny_compStart_list loop (T.self X.A 0 _ _ _ st4 loop)
end
end Wq
end

section
set_option Elab.async false
set_option linter.all false
set_option maxRecDepth 100000
set_option maxHeartbeats 1000000
/-! A def that an except suite calls with the caught exception; lambdas whose exceptions bear no context. -/
namespace Wq
open PySem PySem.Spec PyProof.Rows L2 L2H HotX
/-! ### isinstance of the handled exception -/
/-- the exception's own dict, where it has one, is known -/
def DictAt (d : Option Addr) (H : Hp) : Prop := d = none ∨ ∃ dd fs, d = some dd ∧ H dd = some (.xd fs)
/-- isinstance(e, c), e the exception of the class D -/
def rIsX (K : PySem.W.Frag) (D a : Addr) (d : Option Addr) : List V → Hp → VK → Prop := fun xs H Q => ∃ (c : V) (cv : Value) (b : Bool), xs = [.ref a, c] ∧ (∀ u, RelV c u → u = cv) ∧ PySem.W.kitOne K (.ref D) cv = some b ∧ DictAt d H ∧ Q (.bl b) H
theorem call_isX {X : Cx} {a D : Addr} {d : Option Addr} {oe : Obj} (C : ExcC X.K D) (hp : (a, oe) ∈ X.pn) (hz : Zc (.ref D) d oe) (hf : ∃ vs, oe.data = .fields vs) : CallR X (.builtin "isinstance") (rIsX X.K D a d) := by
  intro pins s σ H xs us Q I r h
  obtain ⟨c, cv, b, rfl, hcv, e, hdd, q⟩ := h
  cases r with
  | cons rx rr => cases rr with
    | cons rt rr =>
      cases rr
      cases rx
      have ec := hcv _ rt
      subst ec
      obtain ⟨hget, _⟩ := I.pin (a, oe) (List.mem_append.mpr (.inl hp))
      have hcl : (PySem.W.clsIn X.K D).isSome = true := by
        have z := C.hd
        unfold PySem.W.hasDictIn at z
        cases e2 : PySem.W.clsIn X.K D with
        | none => rw [e2] at z; cases z
        | some _ => rfl
      have fin : ∀ od, PySem.W.InstAt s.heap a oe D od → wpAny (model X.prog X.w) X.A (call (.builtin "isinstance") [.ref a, _]) (EP X pins σ Q) X.xe s := fun od J =>
        PySem.W.kia_one (PySem.W.kitx_exc hcl C.hg C.hk C.hs C.ha C.hn C.ht C.hm) I.kIn J e (fun z => nomatch z) fun tk => ⟨.bl b, H, I.kept (t' := tk) fun _ _ z => z, rfl, q⟩
      obtain ⟨vs, hv⟩ := hf
      obtain ⟨oc, odx, oda, osl⟩ := oe
      obtain ⟨h1, h2⟩ := hz
      dsimp only at h1 h2 hv
      subst h1 h2 hv
      rcases hdd with z | ⟨dd, fs, z, hx⟩
      · subst z
        exact fin none ⟨hget, rfl, rfl, trivial⟩
      · subst z
        obtain ⟨mA, ⟨od, _, _, ho, _⟩, _⟩ := (show ObjOk X.prog X.w H s.heap dd (.xd fs) from I.hok dd _ hx)
        exact fin (some od) ⟨hget, rfl, rfl, ho⟩

/-! ### a def called with the handled exception -/
/-- what the suite knows of its exception -/
structure SuiteE (A : Around) (outer : List Env) (H : Hp) (s : Shared) (a : Addr) (oe : Obj) (cls : Value) (d : Option Addr) : Prop where
  hd : A.handled = some (.ref a)
  zn : L2N.Zn cls d oe
  fl : ∃ vs, oe.data = .fields vs
  pin : PinOk outer H s (a, oe)
theorem hot1_of {A : Around} {a : Addr} {oe : Obj} {cls : Value} {d : Option Addr} (h : A.handled = some (.ref a)) (z : L2N.Zn cls d oe) (f : ∃ vs, oe.data = .fields vs) : Hot1 A (a, oe) := by
  obtain ⟨vs, e⟩ := f
  exact ⟨h, vs, e, z.2.2 vs e⟩
abbrev SpX := Addr → Value → Option Addr → Sp
structure FnE (P : Program) (w : World) (K : PySem.W.Frag) (mg : Str → Option Value) (base : Heap) (k : Nat) (f : Addr) (fd : FuncData) (ps : List Str) (sp : SpX) : Prop where
  len : ∀ a cls d vs H Q E, sp a cls d vs H Q E → vs.length = ps.length
  run : ∀ (A : Around) (outer : List Env) (s : Shared) (H : Hp) (args : Args) (us : List Value) (vs : List V) (Q : VK) (a : Addr) (oe : Obj) (cls : Value) (d : Option Addr), RoomH k A → SuiteE A outer H s a oe cls d → Env0 P w K mg base A outer s H → BindsTo s fd args (ps.zip us) → Vals vs us → sp a cls d vs H Q E0 →
    codeAny (model P w) A (.call (.ref f) args) (CR CX0 outer P w H s Q E0) s
theorem fnE_of {P : Program} {w : World} {K : PySem.W.Frag} {mg : Str → Option Value} {base : Heap} {k : Nat} {x : Str} {st : Stmt} {f : Addr} {fd : FuncData} {N ps : List Str} {sp : SpX} (F : Fun K x x st f fd) (S : FnScope N ps (defScope st))
    (len : ∀ a cls d vs H Q E, sp a cls d vs H Q E → vs.length = ps.length)
    (hbody : ∀ (cdv : Value) (A : Around) (outer : List Env) (s : Shared) (H : Hp) (vs : List V) (Q : VK) (a : Addr) (oe : Obj) (cls : Value) (d : Option Addr), L2N.Zn cls d oe → (∃ vs, oe.data = .fields vs) → Hot1 A (a, oe) → RoomH k (A.deeper (envOfC x (defScope st) s.heap.objs.size f cdv)) → sp a cls d vs H Q E0 →
      ∃ t, PSs (cxH CX0 P w K mg base N x (defScope st) f cdv A outer s H E0 (a, oe)).nox (defBody st) t ∧ t { nx := fun _ H' => Q .non H', rt := Q } (L2.start N vs) H) :
    FnE P w K mg base (k + 1) f fd ps sp := by
  obtain ⟨oc, od, kV, doc, pm, an, cdv, ct, osl, rfl, lk, hcd⟩ := F.ex
  refine ⟨len, fun A outer s H args us vs Q a oe cls d hr se e0 hb r hsp => ?_⟩
  have hl := len _ _ _ _ _ _ _ hsp
  have KX : K.In s.heap := e0.mod.kin.keeps fun b o e => (e0.bs b o e).1
  have lim : s.heap.NoLimit := e0.mod.nolimit.keeps fun b o e => (e0.bs b o e).1
  have hkind : ∀ y ∈ ps.zip us, (defScope st).names.lookup y.1 = some .local ∨ ((defScope st).names.lookup y.1 = some .cell ∧ ((cellsFrom (s.heap.objs.size + 1) (defScope st).names []).lookup y.1).isSome = true) := fun ⟨n, v⟩ hy =>
    (S.par n (List.of_mem_zip hy).1).elim .inl fun q => .inr ⟨q, PySem.W.cellsFrom_some _ _ _ (.inl q)⟩
  refine codeAny_call_function hr.depth (KX _ _ lk) rfl S.co S.gen rfl (PySem.W.codeRec_of KX hcd) (hb _ _ _ _ ?_)
  refine wpAny_newFunctionEnv_cells S.kind hkind fun env he s1 x1 => ?_
  subst he
  refine ⟨lim.keeps x1.toInCall.keep, codeAny_func ?_⟩
  obtain ⟨t, ht, hq⟩ := hbody cdv A outer s H vs Q a oe cls d se.zn se.fl (hot1_of se.hd se.zn se.fl) (hr.deeper _) hsp
  have I : Inv (cxH CX0 P w K mg base N x (defScope st) f cdv A outer s H E0 (a, oe)) [] (L2.start N vs) H s1 := inv_startH S se.pin e0 hl r x1
  refine wpAny_mono (ht.nox.run [] s1 (L2.start N vs) H _ I hq) (fun fl s' hs => ?_) fun e s' hs => hs
  have fin : ∀ {σ' : St} {H' : Hp} {v : V} {u : Value}, Inv (cxH CX0 P w K mg base N x (defScope st) f cdv A outer s H E0 (a, oe)) [] σ' H' s' → RelV v u → Q v H' → CE outer P w H s Q u s' :=
    fun {σ' H' v u} J rv q => ⟨v, H', J.os, J.bare, J.base, J.hok, rv, q⟩
  cases fl with
  | ret u =>
    obtain ⟨v, σ', H', J, rv, q⟩ := hs
    exact fin J rv q
  | next =>
    obtain ⟨σ', H', J, q⟩ := hs
    exact fin (v := V.non) (u := Value.none) J rfl q
  | brk => exact hs.elim fun _ h => h.elim fun _ h => h.2.elim
  | cont => exact hs.elim fun _ h => h.elim fun _ h => h.2.elim
/-- f(e) in the suite, e its exception -/
def tSuite (i : Nat) (a : Addr) (cls : Value) (d : Option Addr) (sp : SpX) : TE := fun σ H Q => σ[i]? = some (some (.ref a)) ∧ sp a cls d [.ref a] H Q E0
theorem pe_callE {X : Cx} {k i : Nat} {f a : Addr} {oe : Obj} {cls : Value} {d : Option Addr} {fd : FuncData} {ps : List Str} {sp : SpX} {x y : Str} {q q2 pos : Pos} {pn : List (Addr × Obj)} (F : FnE X.prog X.w X.K X.mg X.base k f fd ps sp) (hr : Room k X.A)
    (hz : L2N.Zn cls d oe) (hf : ∃ vs, oe.data = .fields vs) (hg : Gl X x) (hm : X.mg x = some (.ref f)) (hk : PySem.W.keepIn X.K (.ref f) = true) (hb : Binds X.K fd ps []) (hN : X.N[i]? = some y) (hv : Vis X.env.scope y)
    (hdb : (x == ("__debug__" : Str)) = false := by decide) (hd2 : (y == ("__debug__" : Str)) = false := by decide) (hcd : (y == ("__classdict__" : Str)) = false := by decide) :
    PE (X.suite a ((a, oe) :: pn)) (.Call (.Name x q) [.Name y q2] [] pos) (tSuite i a cls d sp) := by
  refine ⟨fun pins s σ H Q I h => ?_⟩
  obtain ⟨hs, h⟩ := h
  refine wpAny_Call_Name_kw (ld_glob I hg hm ?_ hdb)
  have ha : PA (X.suite a ((a, oe) :: pn)) [.Name y q2] (tCons (tVar i) tNil) := pa_cons (pe_var (i := i) hN hv hd2 hcd) pa_nil
  refine PySem.W.callWith_K (h₀ := X.base) I.ok.mod.kin hk (thn (ha.run pos pins s σ H (fun vs H1 => vs = [V.ref a] ∧ H1 = H) I ⟨.ref a, hs, rfl, rfl⟩) fun us s1 hh => ?_)
  obtain ⟨vs, H1, I1, r, ev, eH⟩ := hh
  subst ev
  rw [eH] at I1
  refine ⟨I1.kIn, ?_⟩
  have P1 := I1.pin (a, oe) (List.mem_append_left _ List.mem_cons_self)
  have hl : us.length = ps.length := by rw [← r.length]; exact F.len _ _ _ _ _ _ _ h
  have b := hb s1 us I1.kIn (by rw [List.append_nil]; exact hl)
  rw [List.append_nil] at b
  have se : SuiteE (X.A.mark (some (.ref a))) X.stack H s1 a oe cls d := ⟨rfl, hz, hf, P1.1, P1.2.1, fun hm => (List.mem_cons.mp (I1.stkSub a hm)).elim P1.2.2.1 P1.2.2.2.1, P1.2.2.2.2⟩
  refine wpAny_call (codeAny_mono (F.run (X.A.mark (some (.ref a))) X.stack s1 H ⟨us, []⟩ us [.ref a] Q a oe cls d ⟨hr.dp, hr.un⟩ se I1.env0 b r h) fun r s' hq => ?_)
  cases r with
  | error e => exact (show False from hq).elim
  | ok fl =>
    cases fl with
    | ret u => exact I1.after hq
    | next => exact False.elim hq
    | brk => exact False.elim hq
    | cont => exact False.elim hq
end Wq
end

section
set_option Elab.async false
set_option linter.all false
set_option maxRecDepth 100000
set_option maxHeartbeats 1000000
/-! Lambdas whose exceptions bear no context, handed to a def that catches them by name and calls on. -/
namespace Wq
open PySem PySem.Spec PyProof.Rows L2 L2H HotX LamX
/-- the lambda's context, its exceptions told with their context -/
def lamN (X : Cx) (A : Around) (outer : List Env) (s : Shared) (H : Hp) (E : XK) (scope : Scope) (f c' : Addr) : Cx :=
  { lamCx X A outer s H E scope f c' with
    xe := fun e s' => wpAny (model X.prog X.w) (A.deeper (lamEnv X scope s.heap.objs.size f c')) (leaving (lamEnv X scope s.heap.objs.size f c') e) (fun _ s'' => L2N.CX X.prog X.w outer H s E e s'') (fun e' s'' => L2N.CX X.prog X.w outer H s E e' s'') s' }
theorem lamN_takes {X : Cx} {A : Around} {outer : List Env} {s : Shared} {H : Hp} {E : XK} {scope : Scope} {f c' : Addr} : L2N.Takes (lamN X A outer s H E scope f c') (fun cls d _ H => E cls d H) := L2N.takes_of rfl rfl rfl rfl
section
variable {X : Cx} {pins : List (Addr × Obj)} {σ : St} {H HZ : Hp} {s s1 : Shared}
/-- x(), in the def that got the lambda -/
theorem pe_actN {CXg : CXT} {Eg : XK} {Ng : List Str} {qg : Str} {sg : Scope} {g f c' : Addr} {cdg pm ctv : Value} {params : Arguments} {body : Expr} {scope : Scope} {k i : Nat} {a : Str} {pn : List (Addr × Obj)} {xe : Value → Shared → Prop} {W : WX} {tb : XK → TE} {p1 p2 : Pos}
    (I : Inv X pins σ H s) (L : LamS X.env.scope scope) (hf : s.heap.get? f = some (PySem.W.kla_obj "<lambda>" (X.env.qual ++ "<lambda>") params body scope (cloFrom X.env.cells scope.names []) pm c' ctv)) (hfn : H f = none) (hfr : f ∉ frs X.stack)
    (hbind : bindArgs (PySem.W.kla_fn "<lambda>" (X.env.qual ++ "<lambda>") params body scope (cloFrom X.env.cells scope.names []) pm (.ref c') ctv) ⟨[], []⟩ = pure [])
    (tk : L2N.Takes ((cxOf CXg X.prog X.w X.K X.mg X.base Ng qg sg g cdg X.A X.stack s H Eg).tr pn xe) W) (hr : Room (k + 1) (X.A.deeper (envOfC qg sg s.heap.objs.size g cdg)))
    (hbody : ∀ (E : XK) (A : Around) (outer : List Env) (s : Shared) (H : Hp), Room k (A.deeper (lamEnv X scope s.heap.objs.size f c')) → PE (lamN X A outer s H E scope f c') body (tb E))
    (hN : Ng[i]? = some a) (hv : Vis sg a) (hd : (a == ("__debug__" : Str)) = false := by decide) (hcd : (a == ("__classdict__" : Str)) = false := by decide) :
    PE ((cxOf CXg X.prog X.w X.K X.mg X.base Ng qg sg g cdg X.A X.stack s H Eg).tr pn xe) (.Call (.Name a p1) [] [] p2)
      (fun σZ HZ Q => σZ[i]? = some (some (.ref f)) ∧ HZ c' = some (CodeO c' (X.env.qual ++ "<lambda>")) ∧ tb (WE W σZ) σ HZ Q) := by
  refine ⟨fun pinsZ sZ σZ HZ Q IZ h => ?_⟩
  obtain ⟨hs, hc, ht⟩ := h
  refine wpAny_Call_Name_kw (thn ((pe_var (pos := p1) (i := i) hN hv hd hcd).run pinsZ sZ σZ HZ (fun v H1 => v = .ref f ∧ H1 = HZ) IZ ⟨.ref f, hs, rfl, rfl⟩) fun u s1 ⟨v, H1, I1, r1, q1⟩ => ?_)
  obtain ⟨ev, eH⟩ := q1
  subst ev
  rw [eH] at I1
  obtain rfl : u = Value.ref f := r1
  have of1 : s1.heap.get? f = some (PySem.W.kla_obj "<lambda>" (X.env.qual ++ "<lambda>") params body scope (cloFrom X.env.cells scope.names []) pm c' ctv) := I1.base.keep f _ hf hfn hfr (fun z => nomatch (show f ∈ ([] : List Addr) from z))
  refine PySem.W.callWith_F0 ⟨_, _, _, _, of1⟩ ?_
  have un : Un (frs X.stack) [] H HZ s.heap s1.heap := I1.base
  obtain ⟨⟨oc, vs, t, hoc, hdc, hvc⟩, _, _⟩ := I1.hok c' _ hc
  have rc : codeAny (model X.prog X.w) (X.A.deeper (envOfC qg sg s.heap.objs.size g cdg)) (.call (.ref f) ⟨[], []⟩) (CR (L2N.CX X.prog X.w) (envOfC qg sg s.heap.objs.size g cdg :: X.stack) X.prog X.w HZ s1 Q (WE W σZ)) s1 := by
    refine PySem.W.kla_callFunE hr.depth of1 rfl L.co L.gen rfl ⟨c', oc, vs, t, rfl, hoc, hdc, hvc⟩ ?_
    rw [hbind]
    refine wpAny_pure (wpAny_newFunctionEnv (fun y hy => (L.own y hy).2) (fun y hy => absurd hy (by simp)) (fun h₁ hns hsb => ⟨I1.nolimit.fresh _ hsb, ?_⟩) L.kind)
    show codeAny _ _ (.expr body (lamEnv X scope s1.heap.objs.size f c')) _ _
    have kp : ∀ b o, s1.heap.get? b = some o → h₁.get? b = some o := fun b o e => hsb.extBut b o (Nat.ne_of_lt (Heap.lt_size e)) (Heap.get?_push_of_some _ e)
    have J : Inv (lamN X (X.A.deeper (envOfC qg sg s.heap.objs.size g cdg)) (envOfC qg sg s.heap.objs.size g cdg :: X.stack) s1 HZ (WE W σZ) scope f c') [] σ HZ { s1 with heap := h₁, toks := s1.toks + ([] : List (Str × Value)).length } :=
      Inv.wish (lam_start2 (E := WE W σZ) I L I1.env0 hr.hd un hns kp) _
    refine PySem.W.kla_codeExpr (wpAny_mono ((hbody (WE W σZ) _ _ s1 HZ (hr.deeper _)).run [] _ _ HZ Q J ht) (fun v s' hq => ?_) fun e s' hq => hq)
    obtain ⟨w', H', J', rv, q⟩ := hq
    exact ⟨w', H', J'.os, J'.bare, J'.base, J'.hok, rv, q⟩
  refine wpAny_call (codeAny_mono rc fun r s' hq => ?_)
  cases r with
  | error e => exact L2N.passAt tk σZ pinsZ HZ s1 e s' I1 hq
  | ok fl =>
    cases fl with
    | ret u => exact I1.after hq
    | next => exact False.elim hq
    | brk => exact False.elim hq
    | cont => exact False.elim hq
/-- the def that calls what it got -/
def GivesN (X : Cx) (k : Nat) (Ng : List Str) (x : Str) (sg : Scope) (g : Addr) (cdg : Value) (bg : List Stmt) (a : Str) (q : Str) (TT : (XK → Hp → VK → Prop) → Hp → VK → Prop) : Prop :=
  ∀ (f c' : Addr) (s : Shared) (H : Hp) (Q : VK) (tl : XK → Hp → VK → Prop), Room k (X.A.deeper (envOfC x sg s.heap.objs.size g cdg)) →
    (∀ (W : WX) (pn : List (Addr × Obj)) (xe : Value → Shared → Prop) (p1 p2 : Pos), L2N.Takes ((cxOf CX0 X.prog X.w X.K X.mg X.base Ng x sg g cdg X.A X.stack s H E0).tr pn xe) W →
      PE ((cxOf CX0 X.prog X.w X.K X.mg X.base Ng x sg g cdg X.A X.stack s H E0).tr pn xe) (.Call (.Name a p1) [] [] p2) (fun σZ HZ Q => σZ[0]? = some (some (.ref f)) ∧ HZ c' = some (CodeO c' q) ∧ tl (WE W σZ) HZ Q)) →
    H c' = some (CodeO c' q) → TT tl H Q →
    ∃ t, PSs (cxOf CX0 X.prog X.w X.K X.mg X.base Ng x sg g cdg X.A X.stack s H E0).nox bg t ∧ t { nx := fun _ H' => Q .non H', rt := Q } (L2.start Ng [.ref f]) H
end
section
variable {X : Cx}
/-- x(lambda: body) -/
theorem pe_lamN {T : List (Addr × Str)} {TT : (XK → Hp → VK → Prop) → Hp → VK → Prop} {x a : Str} {g c P : Addr} {k : Nat} {st : Stmt} {fdg : FuncData} {Ng : List Str}
    {params : Arguments} {body : Expr} {scope : Scope} {t : XK → TE} {p lpos pos : Pos} (hg : Gl X x) (hm : X.mg x = some (.ref g)) (F : Fun X.K x x st g fdg) (hb : L2.Binds X.K fdg [a] []) (Sg : FnScope Ng [a] (defScope st)) (hNg : Ng[0]? = some a) (hva : Vis (defScope st) a)
    (hG : ∀ cdv, GivesN X (k + 1) Ng x (defScope st) g cdv (defBody st) a (X.env.qual ++ "<lambda>") TT)
    (TB : TabB X.base X.mg c P) (hcode : X.env.code = .ref c) (hmT : (P, X.env.qual ++ "<lambda>") ∈ T) (hu : ∀ p ∈ T, p.1 = P → p.2 = X.env.qual ++ "<lambda>") (hr : Room (k + 2) X.A) (L : LamS X.env.scope scope) (hdef : defaultsOf params X.env = ([], []))
    (hbind : ∀ (q : Str) (cl : List (Str × Addr)) (pm cv ctv : Value), bindArgs (PySem.W.kla_fn "<lambda>" q params body scope cl pm cv ctv) ⟨[], []⟩ = pure [])
    (hbody : ∀ (A : Around) (outer : List Env) (s : Shared) (H : Hp) (E : XK) (f c' : Addr), Room k (A.deeper (lamEnv X scope s.heap.objs.size f c')) → PE (lamN X A outer s H E scope f c') body (t E))
    (hdb : (x == ("__debug__" : Str)) = false := by decide) (hd : (a == ("__debug__" : Str)) = false := by decide) (hcd : (a == ("__classdict__" : Str)) = false := by decide) :
    PE X (.Call (.Name x p) [.Lambda params body scope lpos] [] pos) (tLam T TT t) := by
  obtain ⟨⟨oc, od, kV, doc, pm, an, cdv, ct, osl, efd, lk, hcg⟩, hk⟩ := F
  subst efd
  refine ⟨fun pins s σ H Q I h => ?_⟩
  obtain ⟨hT, h⟩ := h
  refine wpAny_Call_Name_kw (ld_glob I hg hm ?_ hdb)
  refine PySem.W.callWith_K (h₀ := X.base) I.ok.mod.kin hk ?_ (by rfl) (by rfl)
  show wpAny _ _ (spliced ((false, eval (.Lambda params body scope lpos) X.env) :: backTo pos (starEach [] X.env))) _ _ s
  refine Calls.spliced_cons (lam_make2 I TB hcode hmT hu hT hdef (L.has I.ok) fun f c' pm' ctv H1 s' I1 eN T1 hf hfn hfr hco => ?_)
  refine Calls.spliced_nil ⟨I1.kIn, ?_⟩
  have rc : codeAny (model X.prog X.w) X.A (.call (.ref g) ⟨[.ref f], []⟩) (CR CX0 X.stack X.prog X.w H1 s' Q E0) s' := by
    refine run_ofS (N := Ng) (ps := [a]) (us := [.ref f]) (vs := [.ref f]) lk hcg Sg hr I1.env0 (hb s' [.ref f] I1.kIn rfl) (.cons rfl .nil) rfl fun hr' => ?_
    obtain ⟨t', ht', hq'⟩ := hG cdv f c' s' H1 Q (fun E H' Q' => t E σ H' Q') hr' (fun W pn xe p1 p2 tk => pe_actN (tb := t) (i := 0) I1 L hf hfn hfr (hbind _ _ _ _ _) tk hr' (fun E A outer s H hr2 => hbody A outer s H E f c' hr2) hNg hva hd hcd) hco (h H1 eN T1)
    exact ⟨t', ht'.nox, hq'⟩
  refine wpAny_call (codeAny_mono rc fun r s2 hq => ?_)
  cases r with
  | error e => exact (show False from hq).elim
  | ok fl =>
    cases fl with
    | ret u => exact I1.after hq
    | next => exact False.elim hq
    | brk => exact False.elim hq
    | cont => exact False.elim hq
theorem takesN0 {X : Cx} : L2N.Takes X (fun _ _ _ _ => False) := fun _ _ x => by
  obtain ⟨_, _, _, _, _, _, _, _, _, _, _, _, _, _, _, _, z⟩ := x
  exact z.elim
end
end Wq
end

section
set_option Elab.async false
set_option linter.all false
set_option maxRecDepth 100000
set_option maxHeartbeats 1000000
/-! TooMany(limit): an own error over ValueError whose __init__ says super().__init__(..) and stores limit. -/
namespace Wq
open PySem PySem.W PySem.Calls PyProof.Rows PySem.HandSPX PySem.Spec
def tmA : Arguments := { posonlyargs := [], args := [{ arg := "self", annotation := none, pos := ⟨20, 17, 20, 21⟩ }, { arg := "limit", annotation := none, pos := ⟨20, 23, 20, 28⟩ }], vararg := none, kwonlyargs := [], kw_defaults := [], kwarg := none, defaults := [] }
def tmS : Scope := { kind := .function, names := [(PySem.Str.ofString "self", .local), (PySem.Str.ofString "limit", .local), (PySem.Str.ofString "__class__", .free), (PySem.Str.ofString "super", .globalImplicit)], isGenerator := false, isCoroutine := false, more := [] }
def tmB : List Stmt :=
  [.Expr (.Call (.Attribute (.Call (.Name "super" ⟨21, 8, 21, 13⟩) [] [] ⟨21, 8, 21, 15⟩) "__init__" ⟨21, 8, 21, 24⟩) [.Constant (.str "too many") 0 ⟨21, 25, 21, 35⟩] [] ⟨21, 8, 21, 36⟩) ⟨21, 8, 21, 36⟩,
    .Assign [.Attribute (.Name "self" ⟨22, 8, 22, 12⟩) "limit" ⟨22, 8, 22, 18⟩] (.Name "limit" ⟨22, 21, 22, 26⟩) ⟨22, 8, 22, 26⟩]
/-- what the written part says of TooMany, at C, and of its __init__, at fI -/
structure TmTxt (prog : Program) (K : Frag) (mg : Str → Option Value) (C fI : Addr) : Prop where
  gC : mg "TooMany" = some (.ref C)
  gS : mg "super" = none
  cls : ∃ nm q N bs bm sn sub ab col dd k0 k1 k2 k3 k5, K.lookup C = some (excClassObj nm q C N bs bm true sn sub ab col dd k0 k1 k2 k3 k5 "ValueError.__new__") ∧ refsVE bm = true
  sa : findIn K (.ref C) "__setattr__" = some (some (.builtin "object.__setattr__"))
  noN : findIn K (.ref C) "limit" = some none
  iC : findIn K (.ref C) "__init__" = some (some (.ref fI))
  tC : typeIn K (.ref fI) = some (.type "function")
  kC : keepIn K (.ref C) = true
  exC : subIn K (.ref C) (.type "BaseException") = some true
  veC : subIn K (.ref C) (.type "ValueError") = some true
  tyC : typeIn K (.ref C) = some (.type "type")
  mrC : mroIn K C (.ref C) = some true
  nop : nsIn K cStatics "thirdparty.any" = some none
  sup : ks_superIn K C C "__init__" = some (some (.builtin "ValueError.__init__"))
  ini : excInitIn K C [.type "ValueError", .type "Exception", .type "BaseException", .type "object"] "ValueError.__new__" = true
  top : (prog.main.scope.names.lookup ("super" : Str)).isSome = false
  fn : ∃ (oc : Value) (od : Option Addr) (doc pm : Value) (an : Option Addr) (cda cc : Addr) (ct : Value) (osl : Array (Option Value)) (ccl cl : Value) (cdd cld : Option Addr) (vs : Array Value) (ccs csl : Array (Option Value)) (file : Str) (tf : Tok),
    K.lookup fI = some ⟨oc, od, .func (ksFn "__init__" "TooMany.__init__" tmA tmB tmS .none .none doc pm an (.ref cda) ct cc), osl⟩ ∧ codeIn K (.ref cda) "TooMany.__init__" = true ∧
    K.lookup cda = some ⟨ccl, cdd, .fields vs, ccs⟩ ∧ vs[2]? = some (.str file tf) ∧ ((prog.main.file : Str) == file) = true ∧ K.lookup cc = some ⟨cl, cld, .cell (some (.ref C)), csl⟩
structure TmEnd (h h' : Heap) (x C dx t1 : Addr) (v : Value) : Prop where
  keep : ∀ b o, b ≠ x → h.get? b = some o → h'.get? b = some o
  obj : h'.get? x = some { cls := .ref C, dict := some dx, data := .fields #[.ref t1, .none, .none, .none, .bool false, .none] }
  dbig : h.objs.size ≤ dx
  dne : dx ≠ x
  ns : h'.Ns1 dx (fun y => if y = "limit" then some v else none)
structure TmMade (h h' : Heap) (e C d : Addr) (v : Value) : Prop where
  keep : ∀ b o, h.get? b = some o → h'.get? b = some o
  new : h.objs.size ≤ e
  obj : ∃ oe vs, h'.get? e = some oe ∧ oe.cls = .ref C ∧ oe.dict = some d ∧ oe.data = .fields vs ∧ vs[1]? = some .none ∧ vs[2]? = some .none
  dbig : h.objs.size ≤ d
  dne : d ≠ e
  ns : h'.Ns1 d (fun y => if y = "limit" then some v else none)
section
variable {prog : Program} {w : World} {A : Around} {E : Value → Shared → Prop} {R : Result → Shared → Prop} {K : Frag} {mg mb : Str → Option Value} {C fI : Addr}
theorem mw_call {u x t0 C : Addr} {rest : List Value} {Q : Value → Shared → Prop} {hp : Heap} {g : Array GenState} {d : Drawn} {t : Nat} {os : OsState} (X : K.In hp) (q : excInitIn K C [.type "ValueError", .type "Exception", .type "BaseException", .type "object"] "ValueError.__new__" = true)
    (hx : hp.get? x = some (excO C t0)) (hu : hp.get? u = some (kxs_mw "ValueError.__init__" x)) (hz : rest.length ≤ sizeLine)
    (hq : ∀ h' t1, (∀ b o, b ≠ x → hp.get? b = some o → h'.get? b = some o) → h'.get? x = some (excO C t1) → Q .none ⟨h', g, d, t, os⟩) :
    wpAny (model prog w) A (call (.ref u) rest) Q E ⟨hp, g, d, t, os⟩ := by
  obtain ⟨nm, N', qn, bs, bm, hdct, sn, sub, ab, col, dd, k0, k1, k2, k3, k5, hC, hT⟩ := excInit_of X q
  refine wpAny_call (codeAny_of_tree ?_)
  show wpAny _ A.in1 (callAny (.ref u) ⟨rest, []⟩) _ _ _
  simp only [callAny]
  refine wpAny_bind (wpAny_load hu ?_)
  simp only [kxs_mw, show (Value.type "method-wrapper" == Value.type "method" || Value.type "method-wrapper" == Value.type "builtin_function_or_method" || Value.type "method-wrapper" == Value.type "method-wrapper") = true by decide, if_true]
  refine KFB.if_so (by decide) ?_
  refine wpAny_bind (check_bound_init F.excBase_ValueError.toExcCallFacts hC hx rfl ?_)
  refine wpAny_bind (wpAny_pure (wpAny_pure ?_))
  refine ⟨plainId_quiet F.excBase_ValueError.init.plain _, codeAny_builtin F.excBase_ValueError.initEntry ?_⟩
  exact exc_init_tree (cls := .ref C) (t0 := t0) (dv := none) (c2 := .none) (c3 := .none) (b4 := .bool false) hx hz fun h' k e' _ => hq h' _ k e'
theorem tm_init (T : TmTxt prog K mg C fI) {s : Shared} {x t0 : Addr} {v : Value} (X : K.In s.heap) (hg : s.heap.Ns mainGlobals mg) (hb : s.heap.Ns builtinsNs mb) (hbs : mb "super" = some (.type "super")) (hlim : s.heap.NoLimit) (hx : s.heap.get? x = some (excO C t0)) (hnx : K.lookup x = none)
    (hroom : A.depth < recursionLimit) (hq : ∀ h' tk dx t1, TmEnd s.heap h' x C dx t1 v → R (.ok (.ret .none)) { s with heap := h', toks := tk }) :
    codeAny (model prog w) A (.call (.ref fI) ⟨[.ref x, v], []⟩) R s := by
  obtain ⟨oc, od, doc, pm, an, cda, cc, ct, osl, ccl, cl, cdd, cld, vs, ccs, csl, file, tf, lk, hcd, hcode, hvs, hfile, hcell⟩ := T.fn
  obtain ⟨nm, q, N, bs, bm, sn, sub, ab, col, dd, k0, k1, k2, k3, k5, hC, hbm⟩ := T.cls
  have hcl : clsIn K C = some { name := nm, bases := bs, mro := .ref C :: bm, ns := N, qualname := q, hasDict := true, slotNames := sn, subclasses := sub, abstract := ab, collection := col, hasDel := false } := by unfold clsIn; rw [hC] <;> rfl
  refine ks_codeAny_call_defAt (fd := ksFn "__init__" "TooMany.__init__" tmA tmB tmS .none .none doc pm an (.ref cda) ct cc) (body := tmB) (binds := [("self", .ref x), ("limit", v)]) hroom (X _ _ lk) rfl hlim (codeRec_of X hcd) rfl
    (BindsTo.of_eq (by first | rfl | with_unfolding_all rfl)) (by show ∀ y ∈ tmS.names, y.2 ≠ .cell; decide) (by first | decide | (intro y hy; simp at hy; rcases hy with rfl | rfl <;> rfl)) (fun h₀ hns k => ?_) rfl rfl rfl
  obtain ⟨hp, g, d, t, os⟩ := s
  have X₀ : K.In h₀ := X.keeps k
  have hx₀ := k _ _ hx
  refine ks_wpAt_execs_cons (ks_wpAt_Expr_any (ks_wpAt_MethodCall ?_))
  have hD1 := X₀ _ _ hC
  refine ks_wpAt_super_base (env := ksEnv "TooMany.__init__" tmS hp.objs.size fI (.ref cda) cc) (cc := cda) rfl rfl (by decide) rfl (X₀ _ _ lk) rfl rfl rfl (X₀ _ _ hcode) rfl hvs hfile T.top ?_
  refine ks_loadName_global rfl rfl (loadGlobal_builtin (env := ksEnv "TooMany.__init__" tmS hp.objs.size fI (.ref cda) cc) (hg.keeps k) T.gS (hb.keeps k) hbs ⟨rfl, ?_⟩)
  refine wpAny_loadName_free rfl rfl rfl ⟨_, X₀ _ _ hcell, rfl⟩ ?_
  refine wpAny_loadName_local rfl rfl hns (show _ = some (Value.ref x) by first | rfl | with_unfolding_all rfl | kernel_rfl) ?_
  refine ks_wpAny_isType_cls hD1 rfl ⟨rfl, ?_⟩
  refine ks_wpAny_call_super hD1 rfl hx₀ rfl (fun c e => by cases e) (looks_mroIn X₀ T.mrC) fun h₁ e₁ kk₁ => ?_
  have X₁ : K.In h₁ := X₀.keeps kk₁
  have hx₁ := kk₁ _ _ hx₀
  have hxC : x ≠ C := fun z => by rw [z, hC] at hnx; cases hnx
  have J : InstAt h₁ x (excO C t0) C none := ⟨hx₁, rfl, rfl, trivial⟩
  have hsu : alongIn K "__init__" (((Value.ref C :: bm).dropWhile (· != .ref C)).drop 1) = some (some (.builtin "ValueError.__init__")) := by
    have z := T.sup
    unfold ks_superIn at z
    rw [hcl] at z
    exact z
  refine kxs_getMethod kxs_ValueError e₁ (looks_opaque X₁ T.nop) (l₀ := .ref C :: bm) (fun A Q E s k q => wpAny_bind ((looks_clsIn X₁ hcl) A _ E s k (wpAny_pure q))) rfl X₁ hsu (J.type.andThen (looks_subIn X₁ T.veC)) hxC (by decide) ?_
  have hsz1 : h₁.objs.size ≠ x := Nat.ne_of_gt (Heap.lt_size hx₁)
  refine kxs_callWith (i := "ValueError.__init__") (x := x) (by rfl) ?_
  refine evalArgs_plain ?_
  show wpAny _ _ (spliced ((false, eval (.Constant (.str "too many") 0 ⟨21, 25, 21, 35⟩) _) :: backTo ⟨21, 8, 21, 36⟩ (starEach [] _))) _ _ _
  refine Calls.spliced_cons (Calls.Constant_str ?_)
  refine Calls.spliced_nil ?_
  have hu1 : (h₁.push (kxs_mw "ValueError.__init__" x)).get? h₁.objs.size = some (kxs_mw "ValueError.__init__" x) := Heap.get?_push_size _ rfl
  refine ⟨hu1, ?_⟩
  refine mw_call (X₁.keeps fun b o e => Heap.get?_push_of_some _ e) T.ini (Heap.get?_push_of_some _ hx₁) hu1 (by show 1 ≤ sizeLine; decide) fun h₂ t1 kk₂ hx₂ => ?_
  have k2 : ∀ b o, b ≠ x → h₀.get? b = some o → h₂.get? b = some o := fun b o hb e => kk₂ b o hb (Heap.get?_push_of_some _ (kk₁ b o e))
  have X₂ : K.In h₂ := fun a o e => k2 a o (fun z => by rw [z, hnx] at e; cases e) (X₀ a o e)
  have hL : hp.objs.size ≠ x := Nat.ne_of_gt (Heap.lt_size hx)
  have hn₂ : h₂.Ns hp.objs.size (fun y => ([("self", Value.ref x), ("limit", v)] : List (Str × Value)).reverse.lookup y) := by
    obtain ⟨o, es, ep, e, r⟩ := hns
    exact ⟨o, es, ep, k2 _ _ hL e, r⟩
  refine ks_wpAt_execs_cons (ks_wpAt_Assign_Attr ?_)
  refine wpAt_of_wpAny ?_
  refine wpAny_Name (wpAny_loadName_local rfl rfl hn₂ (show _ = some v by first | rfl | with_unfolding_all rfl | kernel_rfl) ?_) (by decide)
  refine wpAny_Name (wpAny_loadName_local rfl rfl hn₂ (show _ = some (Value.ref x) by first | rfl | with_unfolding_all rfl | kernel_rfl) ?_) (by decide)
  refine set_plain X₂ (ox := excO C t1) (od := none) ⟨hx₂, rfl, rfl, trivial⟩ T.sa ?_
  refine exc_osa X₂ hx₂ hcl (show refsVE (.ref C :: bm) = true from hbm) rfl T.noN (fun h₃ tk₃ dx k₃ dn dne hx₃ hn₃ => ?_)
  refine wpAt_of_wpAny (wpAny_execs_nil ?_)
  have s0 : hp.objs.size ≤ h₂.objs.size := by
    obtain ⟨o, es, ep, e, r⟩ := hn₂
    exact Nat.le_of_lt (Heap.lt_size e)
  exact hq h₃ tk₃ dx t1 ⟨fun b o hb e => k₃ b o hb (k2 b o hb (k b o e)), hx₃, Nat.le_trans s0 dn, dne, hn₃⟩
theorem one_fits (v : Value) : [v].length ≤ sizeLine := by
  rw [sizeLine_eq]
  exact (by decide : 1 ≤ 16777216)
theorem tm_made (T : TmTxt prog K mg C fI) {s : Shared} {v : Value} (X : K.In s.heap) (hg : s.heap.Ns mainGlobals mg) (hb : s.heap.Ns builtinsNs mb) (hbs : mb "super" = some (.type "super")) (hlim : s.heap.NoLimit) (hroom : A.depth + 1 < recursionLimit)
    (hq : ∀ h' tk e d, TmMade s.heap h' e C d v → R (.ok (.ret (.ref e))) { s with heap := h', toks := tk }) : codeAny (model prog w) A (.call (.ref C) ⟨[v], []⟩) R s := by
  obtain ⟨nm, q, N, bs, bm, sn, sub, ab, col, dd, k0, k1, k2, k3, k5, hC, hbm⟩ := T.cls
  obtain ⟨hp, g, dr, tk, os⟩ := s
  have k : ∀ b o, hp.get? b = some o → ((hp.push (kdv_tup [v])).push (excO C hp.objs.size)).get? b = some o := fun b o e => Heap.get?_push_of_some _ (Heap.get?_push_of_some _ e)
  have hget : ((hp.push (kdv_tup [v])).push (excO C hp.objs.size)).get? (hp.objs.size + 1) = some (excO C hp.objs.size) := by heap_get
  have hnx : K.lookup (hp.objs.size + 1) = none := by
    cases e : K.lookup (hp.objs.size + 1) with
    | none => rfl
    | some o => exact absurd (Nat.lt_of_succ_lt (Heap.lt_size (show hp.get? (hp.objs.size + 1) = some o from X _ _ e))) (Nat.lt_irrefl _)
  refine call_own F.excBase_ValueError (fun X => refsVE_contains X bm hbm) (X _ _ hC) (looks_findIn X T.iC) (fun self => bind_fn X self T.tC) (one_fits v) ?_
  refine tm_init (s := ⟨(hp.push (kdv_tup [v])).push (excO C hp.objs.size), g, dr, tk, os⟩) T (X.keeps k) (hg.keeps k) (hb.keeps k) hbs (hlim.keeps k) hget hnx hroom fun h' tk' dx t1 M => ?_
  obtain ⟨k', hx, dn, dne, hns⟩ := M
  have old : ∀ b o, hp.get? b = some o → h'.get? b = some o := fun b o e => k' b o (Nat.ne_of_lt (Nat.lt_succ_of_lt (Heap.lt_size e))) (k b o e)
  have z : hp.objs.size ≤ dx := by
    have q := dn
    rw [Heap.size_push, Heap.size_push] at q
    exact Nat.le_trans (Nat.le_trans (Nat.le_succ _) (Nat.le_succ _)) q
  exact ⟨rfl, hq h' tk' (hp.objs.size + 1) dx ⟨old, Nat.le_succ _, ⟨_, _, hx, rfl, rfl, rfl, rfl, rfl⟩, z, dne, hns⟩⟩
end
end Wq
namespace Wq
open PySem PySem.Spec PyProof.Rows L2
theorem relO_lim {v : V} {v' : Value} (r : RelV v v') (f : Str) : RelO (List.lookup f [(("limit" : Str), v)]) (if f = "limit" then some v' else none) := by
  by_cases hw : f = "limit"
  · subst hw
    rw [if_pos rfl, show List.lookup ("limit" : Str) [(("limit" : Str), v)] = some v by simp [List.lookup]]
    exact r
  · have qw : (f == ("limit" : Str)) = false := by simpa using hw
    rw [if_neg hw, show List.lookup f [(("limit" : Str), v)] = none by simp [List.lookup, qw]]
    trivial
section
variable {X : Cx} {C fI : Addr}
/-- TooMany(e) -/
def tMkTm (C : Addr) (ta : TA) : L2.St → Hp → XK → Prop := fun σ H Q => ta σ H fun vs H1 => ∃ v, vs = [v] ∧ ∀ d, H1 d = none → Q (.ref C) (some d) (upd H1 d (.xd [(("limit" : Str), v)]))
theorem pmk_tm {a : Expr} {ta : TA} {p pos : Pos} {k : Nat} (T : TmTxt X.prog X.K X.mg C fI) (hr : Room k X.A) (ha : PA X [a] ta) (hg : Gl X "TooMany" := by rfl)
    (he : starEach (a :: []) X.env = (false, eval a X.env) :: starEach [] X.env := by rfl) (hpl : (backTo pos (starEach [] X.env)).any (·.1) = false := by rfl) :
    L2N.PMk X (.Call (.Name "TooMany" p) [a] [] pos) (tMkTm C ta) := by
  intro pins s σ H Q I h
  refine wpAny_Call_Name_kw (ld_glob I hg T.gC ?_)
  refine PySem.W.callWith_K (h₀ := X.base) I.ok.mod.kin T.kC (thn (ha.run pos pins s σ H _ I h) fun us s1 hh => ?_) he hpl
  obtain ⟨vs, H1, I1, r1, v, ev, q1⟩ := hh
  subst ev
  refine ⟨I1.kIn, ?_⟩
  cases r1 with
  | cons rv rn =>
    rename_i v' us'
    cases rn
    show wpAny _ _ (call (.ref C) [v']) _ _ _
    have hlim := I1.nolimit
    have hgl := I1.mod.glob.keeps I1.bk
    obtain ⟨mb, hb1, hb2⟩ := I1.mod.blt
    have hbk := hb1.keeps I1.bk
    obtain ⟨hp, g, dr, tk, os⟩ := s1
    refine wpAny_call (tm_made T I1.kIn hgl hbk ((hb2 _ (by decide +kernel)).trans (by decide +kernel)) hlim (by have := hr.dp; omega) fun h' tk' e d M => ?_)
    show L2N.MkP X pins σ Q (.ref e) ⟨h', g, dr, tk', os⟩
    obtain ⟨oe, fv, hoe, hc, hd, hdat, h1, h2⟩ := M.obj
    have hns := M.ns
    obtain ⟨G', g1, g2⟩ := restrict h' fun b => decide (b ≠ e)
    have gk : ∀ b, b ≠ e → G'.get? b = h'.get? b := fun b hb => g1 b (decide_eq_true hb)
    have ge : G'.get? e = none := g2 e (by simp)
    have old : ∀ b o, hp.get? b = some o → G'.get? b = some o := fun b o q => (gk b (Nat.ne_of_lt (Nat.lt_of_lt_of_le (Heap.lt_size q) M.new))).trans (M.keep b o q)
    have ob : ObjOk X.prog X.w (upd H1 d (.xd [(("limit" : Str), v)])) G' d (.xd [(("limit" : Str), v)]) := ⟨_, hns.at (fun o q => (gk d M.dne).trans q), fun f => relO_lim rv f⟩
    have J : Inv X pins σ (upd H1 d (.xd [(("limit" : Str), v)])) ⟨G', g, dr, tk', os⟩ := I1.laid (t' := tk') old M.dbig ob
    refine ⟨e, oe, fv, ⟨G', g, dr, tk', os⟩, _, .ref C, some d, rfl, J, fun b o q => ?_, ge, hoe, ⟨hc, hd, fun vs e2 => ?_⟩, hdat, h1, ?_, rfl, I1.bare, raises_own T.exC T.tyC, q1 d (I1.hok.fresh M.dbig)⟩
    · by_cases hb : b = e
      · have q' : G'.get? b = some o := q
        rw [hb, ge] at q'; cases q'
      · exact (gk b hb).symm.trans q
    · rw [hdat] at e2
      cases e2
      exact h2
    · rw [upd_ne (Ne.symm M.dne)]
      exact I1.hok.fresh M.new
end
end Wq
end

section
set_option Elab.async false
set_option linter.all false
set_option maxRecDepth 100000
set_option maxHeartbeats 1000000
/-! enumerate over a tuple. -/
namespace Wq
open PySem PySem.Spec PyProof.Rows L2
section
variable {prog : Program} {w : World} {A : Around} {E : Value → Shared → Prop} {s : Shared}
theorem meets_enumT (t : Addr) (items : Array Value) :
    Meets (Builtin.«enumerate.__new__» ⟨[.type "enumerate", .ref t], []⟩) (fun _ R s => s.heap.IsTuple t items ∧
      R (.ok (.ret (.ref (s.heap.push { cls := .type "tuple_iterator", data := .fields #[.ref t, .int 0 0] }).objs.size))) { s with heap := (s.heap.push { cls := .type "tuple_iterator", data := .fields #[.ref t, .int 0 0] }).push { cls := .type "enumerate", data := .fields #[.none, .bool false, .ref s.heap.objs.size, rawInt 0, .none, .none] } }) :=
  .of_wp fun prog w A R s h => by
    obtain ⟨hp, g, d, tk, os⟩ := s; obtain ⟨h1, h⟩ := h
    have hsub := sub_enumerate
    have q1 : ∀ {A' : Around} {E : Value → Shared → Prop} {Q : Value → Shared → Prop}, Q (.ref hp.objs.size) ⟨hp.push { cls := .type "tuple_iterator", data := .fields #[.ref t, .int 0 0] }, g, d, tk, os⟩ → wpAny (model prog w) A' (pyIter (.ref t)) Q E ⟨hp, g, d, tk, os⟩ :=
      fun q => wpAny_pyIter_tuple h1 q
    wp_walk using q1
    refine wpAny_stack_any fun st => wpAny_pure ?_
    split
    · rename_i c _ _ _ _ _
      cases (c == Value.type "enumerate")
      · wp_walk using q1
        exact ⟨_, rfl, h⟩
      · wp_walk using q1
        exact ⟨_, rfl, h⟩
    · wp_walk using q1
      exact ⟨_, rfl, h⟩
theorem call_enumT {t : Addr} {items : Array Value} {Q : Value → Shared → Prop} (ht : s.heap.IsTuple t items)
    (h : ∀ h', IsEnum h' (s.heap.objs.size + 1) s.heap.objs.size 0 .none → h'.IsTupleIter s.heap.objs.size t 0 →
      (∀ b o, s.heap.get? b = some o → h'.get? b = some o) → Q (.ref (s.heap.objs.size + 1)) { s with heap := h' }) :
    wpAny (model prog w) A (call (.type "enumerate") [.ref t]) Q E s := by
  refine callType_new F.called_enumerate (by decide) (F.typeCall_enumerate_1 _) (F.newCall_enumerate_1 _) (fun obj => F.args_object_init_2 obj _) F.entry_enumerate_new (meets_enumT t items) ⟨ht, ?_⟩
  have hz : (s.heap.push { cls := .type "tuple_iterator", data := .fields #[.ref t, .int 0 0] }).objs.size = s.heap.objs.size + 1 := Heap.size_push ..
  show _ ∧ _
  rw [hz]
  have he : IsEnum ((s.heap.push { cls := .type "tuple_iterator", data := .fields #[.ref t, .int 0 0] }).push { cls := .type "enumerate", data := .fields #[.none, .bool false, .ref s.heap.objs.size, rawInt 0, .none, .none] }) (s.heap.objs.size + 1) s.heap.objs.size 0 .none := by
    have := Heap.get?_push_size (s.heap.push { cls := .type "tuple_iterator", data := .fields #[.ref t, .int 0 0] }) (o := { cls := .type "enumerate", data := .fields #[.none, .bool false, .ref s.heap.objs.size, rawInt 0, .none, .none] }) rfl
    rw [hz] at this; exact this
  exact ⟨⟨_, he, rfl⟩, h _ he ⟨_, Heap.get?_push_of_some _ (Heap.get?_push_size _ rfl), rfl, rfl⟩ fun b o x => Heap.get?_push_of_some _ (Heap.get?_push_of_some _ x)⟩
end
/-- the tuple at a, its items with their numbers in new pairs -/
def IteT (K : PySem.W.Frag) (a : Addr) : It :=
  ⟨fun i H => ∃ (xs : List V) (x : V), SqT K H a xs ∧ xs[i]? = some x,
    fun i H v H' => ∃ T x, v = .ref T ∧ H T = none ∧ H' = upd H T (.tup [.int (i : Nat), x]) ∧ ∀ xs, SqT K H a xs → xs[i]? = some x,
    fun i H => ∃ xs : List V, SqT K H a xs ∧ xs.length ≤ i⟩
theorem tup_is {h : Heap} {a : Addr} {xs : Array Value} (p : IsTup h a xs) : h.IsTuple a xs := by
  obtain ⟨o, ho, hc, n, hd⟩ := p
  exact ⟨o, ho, hc, n, hd⟩
theorem turn_enumT {P : Program} {w : World} {K : PySem.W.Frag} {elts : List Expr} {kk : Nat} {tpos : Pos} (a e it : Addr) (hai : a ≠ it) (hae : a ≠ e) (hei : e ≠ it) :
    Turn P w K (.Tuple elts kk tpos) (IteT K a) [e, it] e (fun i h => (∃ old, IsEnum h e it ((i : Nat) : Int) old) ∧ h.IsTupleIter it a i) where
  mem := by simp
  obj := fun i h st b hb => by
    obtain ⟨⟨old, he⟩, ⟨o, ho, hc, hd⟩⟩ := st
    have e' : b = e ∨ b = it := by simpa using hb
    rcases e' with z | z <;> rw [z]
    · exact ⟨_, he, fun v q => nomatch q⟩
    · exact ⟨o, ho, fun v q => by rw [hd] at q; cases q⟩
  keep := fun i h h' st k => let ⟨⟨old, he⟩, hi⟩ := st; ⟨⟨old, k e (by simp) _ he⟩, hi.at fun o q => k it (by simp) o q⟩
  item := by
    intro X hP hw hK hc i pins s σ H E I hf st hg
    subst hP hw hK
    obtain ⟨⟨old, he⟩, hit⟩ := st
    obtain ⟨xs, x, hq, hx⟩ := hg
    obtain ⟨its, rv, p, hz⟩ := I.tuple hq
    obtain ⟨u, hu, ru⟩ := rv.get hx
    have hel : e < s.heap.objs.size := Heap.lt_size he
    have hil : it < s.heap.objs.size := by obtain ⟨_, q, _⟩ := hit; exact Heap.lt_size q
    have hlt : i < its.toArray.size := by
      obtain ⟨q, _⟩ := List.getElem?_eq_some_iff.mp hu
      simpa using q
    refine wpAny_pyNext_enum_itemD (Draws.tuple (prog := X.prog) (w := X.w) (A := X.A.in1) (I.ok.hd hc) it a hai its.toArray) he ⟨hit, tup_is p⟩ hlt hei (by simp [hei, hae.symm]) fun y h' tk hy ho hst hT hsz hk => ?_
    have ey : y = u := by
      have q : its.toArray[i]? = some y := hy
      rw [List.getElem?_toArray, hu] at q
      exact (Option.some.inj q).symm
    subst ey
    refine ⟨_, rfl, wpAny_letOwnedTupleGo_enum (s := { s with heap := h', toks := tk + 1 }) ho fun h'' he' sb => ?_⟩
    have hT2 : h''.get? s.heap.objs.size = some { cls := .type "tuple", data := .seq #[.int i tk, y] } := (sb.2 _ (Nat.ne_of_gt hel)).trans hT
    have I1 : Inv X pins σ (upd H s.heap.objs.size (.tup [.int (i : Nat), x])) { s with heap := h'', toks := tk + 1 } :=
      I.turnedNew (ch := [e, it]) (fun b ob hb q => (sb.2 b (fun z => hb (by simp [z]))).trans (hk b ob (fun z => hb (by simp [z])) (fun z => hb (by simp [z])) q)) hf (Nat.le_refl _)
        ⟨by show 2 ≤ sizeLine; decide, [.int i tk, y], .cons ⟨_, rfl⟩ (.cons ru .nil), ⟨_, hT2, rfl, _, rfl⟩⟩
    refine ⟨.ref s.heap.objs.size, _, I1, rfl, ⟨_, x, rfl, I.hok.fresh (Nat.le_refl _), rfl, fun ys hy => by rw [I.tuple_inj hy hq]; exact hx⟩, ⟨⟨y, ?_⟩, hst.1.at fun o q => (sb.2 it (Ne.symm hei)).trans q⟩, fun b hb => ?_⟩
    · rw [show ((i + 1 : Nat) : Int) = (i : Int) + 1 by omega]
      exact he'
    · have e' : b = e ∨ b = it := by simpa using hb
      have hb' : b < s.heap.objs.size := by rcases e' with z | z <;> rw [z] <;> assumption
      rw [upd_ne (Nat.ne_of_lt hb')]
      exact (hf b hb).1
  done := by
    intro X hP hw hK hc i pins s σ H E I hf st hg
    subst hP hw hK
    obtain ⟨⟨old, he⟩, hit⟩ := st
    obtain ⟨xs, hq, hx⟩ := hg
    obtain ⟨its, rv, p, hz⟩ := I.tuple hq
    obtain ⟨f0, f1, f2, f3, f4, f5⟩ := hf it (by simp)
    have hl := rv.length
    have hT : s.TypeIs (.ref e) "enumerate" := ⟨_, he, rfl⟩
    unfold pyNext
    refine wpAny_bind (wpAny_attempt (wpAny_callSpecial?_slot (name := Str.ofString "__next__") hT F.slot_enumerate_next (wpAny_call_entry F.slot_enumerate_next hT F.entry_enumerate_next ?_ (F.args_enumerate_next_1 _))))
    show wpAny _ _ (field (.ref e) 2 >>= _) _ _ _
    refine wpAny_bind (wpAny_field he rfl (x := .ref it) rfl ?_)
    refine wpAny_bind (RZ.nextOf_tuple_end (I.ok.hd hc) hit (tup_is p) (by simp; omega) fun h' e1 hs' he1 => ?_)
    obtain ⟨o1, ho1, hc1⟩ := he1
    refine wpAny_bind (wpAny_isInstance (T := "StopIteration") (b := true) ⟨o1, ho1, hc1⟩ isSubtype_stop ?_)
    exact wpAny_pure ⟨rfl, I.turned (t' := s.toks) (fun b o hb q => hs' b o hb q) f0 f1 f3 f4 f5⟩
  self := fun A i s Q E st h => let ⟨⟨_, he⟩, _⟩ := st; wpAny_pyIter_enum he h
def iEnumT (K : PySem.W.Frag) (ta : TA) : TI := fun σ H R => ta σ H fun vs H1 => ∃ a xs, vs = [.ref a] ∧ SqT K H1 a xs ∧ R (IteT K a) H1
theorem pi_enumT {X : Cx} {e : Expr} {ta : TA} {p pos tpos : Pos} {elts : List Expr} {kk : Nat} (hg : Gl X "enumerate") (hm : X.mg "enumerate" = none) (ha : PA X [e] ta) (hs : starEach [e] X.env = [(false, eval e X.env)] := by rfl) :
    PI X (.Tuple elts kk tpos) (.Call (.Name "enumerate" p) [e] [] pos) (iEnumT X.K ta) := by
  refine ⟨fun pins s σ H R I h => ?_⟩
  refine Call_ (ld_blt I hg hm boot_enumerate (PyProof.Rows.callWith_type1 (thn (ha.run pos pins s σ H _ I h) fun us s1 ⟨vs, H1, I1, r1, q1⟩ => ?_) hs rfl))
  obtain ⟨a, xs, e1, hq, q⟩ := q1
  subst e1
  cases r1 with
  | cons r rr =>
    cases rr
    cases r
    obtain ⟨its, rv, p1, _⟩ := I1.tuple hq
    have la : a < s1.heap.objs.size := p1.lt
    refine call_enumT (tup_is p1) fun h' he hit hk => wpAny_pyIter_enum he ?_
    refine ⟨s1.heap.objs.size + 1, [s1.heap.objs.size + 1, s1.heap.objs.size], _, _, H1, rfl, I1.kept (t' := s1.toks) hk, turn_enumT a (s1.heap.objs.size + 1) s1.heap.objs.size (Nat.ne_of_lt la) (Nat.ne_of_lt (Nat.lt_succ_of_lt la)) (Nat.succ_ne_self _), ⟨⟨.none, he⟩, hit⟩, fun b hb => ?_, q⟩
    have e' : b = s1.heap.objs.size + 1 ∨ b = s1.heap.objs.size := by simpa using hb
    have hle : s1.heap.objs.size ≤ b := by rcases e' with z | z <;> rw [z] <;> first | exact Nat.le_succ _ | exact Nat.le_refl _
    exact I1.fpOk hle (I1.hok.fresh hle)
end Wq
end

section
set_option Elab.async false
set_option linter.all false
set_option maxRecDepth 100000
set_option maxHeartbeats 1000000
/-! t[::-1]; len(set(t)); a call of a local that holds one of three defs. -/
namespace Wq
open PySem PySem.Spec PyProof.Rows L2
theorem adjust_rev (n : Nat) : Builtin.Slice.sliceAdjust none none (-1) (n : Int) = ((n : Int) - 1, -1) := by
  unfold Builtin.Slice.sliceAdjust
  simp
theorem places_rev (n : Nat) : Builtin.Slice.slicePlaces ((n : Int) - 1) (-1) (-1) = n := by
  unfold Builtin.Slice.slicePlaces
  simp
  split <;> omega
theorem pick_rev (xs : Array Value) : ((List.range xs.size).filterMap fun (k : Nat) => xs[(((xs.size : Int) - 1) + (k : Int) * (-1)).toNat]?).toArray = xs.toList.reverse.toArray := by
  have e : (List.range xs.size).filterMap (fun (k : Nat) => xs[(((xs.size : Int) - 1) + (k : Int) * (-1)).toNat]?) = ((List.range xs.size).map fun k => xs.size - 1 - k).filterMap (xs[·]?) := by
    rw [List.filterMap_map]
    have e3 : (fun (k : Nat) => xs[(((xs.size : Int) - 1) + (k : Int) * (-1)).toNat]?) = ((fun x => xs[x]?) ∘ fun k => xs.size - 1 - k) := by
      funext k
      have e2 : (((xs.size : Int) - 1) + (k : Int) * (-1)).toNat = xs.size - 1 - k := by omega
      show xs[(((xs.size : Int) - 1) + (k : Int) * (-1)).toNat]? = xs[xs.size - 1 - k]?
      rw [e2]
    rw [e3]
  rw [e, PySem.W.krv_range, List.filterMap_reverse, PySem.W.krv_all]
section
variable {prog : Program} {w : World} {A : Around} {E : Value → Shared → Prop} {s : Shared}
theorem getItem_rev {t sl : Addr} {items : Array Value} {vl vu vs : Value} {Q : Value → Shared → Prop} (ht : IsTup s.heap t items) (hs : s.heap.IsSliceOf sl vl vu vs) (pl : IsPart vl none) (pu : IsPart vu none) (ps : IsPart vs (some (-1)))
    (h : Q (.ref s.heap.objs.size) { s with heap := s.heap.push { cls := .type "tuple", data := .seq items.toList.reverse.toArray } }) (hsz : items.size ≤ sizeLine) : wpAny (model prog w) A (getItem (.ref t) (.ref sl)) Q E s := by
  have htake : sizeOk (.seq items.toList.reverse.toArray) := by
    show items.toList.reverse.toArray.size ≤ sizeLine
    simpa using hsz
  obtain ⟨os, hos, hcs, hds⟩ := id hs
  have hTs : s.TypeIs (.ref sl) "slice" := ⟨os, hos, hcs⟩
  unfold getItem
  try with_reducible refine wpAny_holding ?_
  first | refine wpAny_bind (wpAny_pure ?_) | skip
  refine wpAny_bind (wpAny_sequenceKey ht.typeIs (by decide) ?_)
  refine wpAny_bind (wpAny_callSpecial?_slot (name := Str.ofString "__getitem__") ht.typeIs PyProof.Rows.slot_tuple_getitem
    (wpAny_call_entry PyProof.Rows.slot_tuple_getitem ht.typeIs entry_tuple_getitem ?_ (args_tuple_getitem _ _)))
  show wpAny _ _ (Builtin.Tuple.tupleItemsOf (.ref t) >>= _) _ _ s
  refine wpAny_bind (tupleItemsOf_ ht ?_)
  refine wpAny_bind (wpAny_typeOf hTs ?_)
  rw [if_pos (by decide)]
  have hap : ∀ {A : Around} {E : Value → Shared → Prop} {Q : Int × Int × Nat → Shared → Prop}, Q (((items.size : Nat) : Int) - 1, -1, items.size) s → wpAny (model prog w) A (Builtin.Slice.sliceApplied (.ref sl) (pure ((items.size : Nat) : Int))) Q E s := by
    intro A E Q q
    unfold Builtin.Slice.sliceApplied Builtin.Slice.sliceFields
    refine wpAny_bind (wpAny_bind (wpAny_field hos hds (x := vl) rfl (wpAny_bind (wpAny_field hos hds (x := vu) rfl (wpAny_bind (wpAny_field hos hds (x := vs) rfl (wpAny_pure ?_)))))))
    refine wpAny_bind (HT.slicePart_ ps ?_)
    show wpAny _ _ (if ((-1 : Int) == 0) = true then _ else _) _ _ s
    rw [if_neg (by decide)]
    refine wpAny_bind (HT.slicePart_ pl (wpAny_bind (HT.slicePart_ pu (wpAny_bind (wpAny_pure ?_)))))
    show wpAny _ _ (match Builtin.Slice.sliceAdjust none none (-1) ((items.size : Nat) : Int) with | (lo, hi) => pure (lo, (-1 : Int), Builtin.Slice.slicePlaces lo hi (-1))) _ _ s
    rw [adjust_rev]
    show wpAny _ _ (pure (((items.size : Nat) : Int) - 1, (-1 : Int), Builtin.Slice.slicePlaces (((items.size : Nat) : Int) - 1) (-1) (-1))) _ _ s
    rw [places_rev]
    exact wpAny_pure q
  refine wpAny_bind (hap ?_)
  show wpAny _ _ (if ((((items.size : Nat) : Int) - 1) == 0 && (-1 : Int) == 1 && items.size == items.size) = true then _ else _) _ _ s
  rw [if_neg (by simp), pick_rev]
  first
    | exact wpAny_bind (m := Builtin.Tuple.tupleExact _) (wpAny_newObj_type (wpAny_pure ⟨_, rfl, wpAny_pure h⟩) htake)
    | exact wpAny_bind (m := Builtin.Tuple.tupleExact _) (wpAny_newObj_type (wpAny_bind (wpAny_pure (wpAny_pure ⟨_, rfl, wpAny_pure h⟩))) htake)
    | exact wpAny_bind (wpAny_bind (m := Builtin.Tuple.tupleExact _) (wpAny_newObj_type (wpAny_pure (wpAny_pure ⟨_, rfl, wpAny_pure h⟩)) htake))
    | exact wpAny_bind (wpAny_bind (m := Builtin.Tuple.tupleExact _) (wpAny_newObj_type (wpAny_pure ⟨_, rfl, wpAny_pure h⟩) htake))
end
section
variable {X : Cx}
def tRevT (K : PySem.W.Frag) (te : TE) : TE := fun σ H Q => te σ H fun x H1 => ∃ a xs, x = .ref a ∧ SqT K H1 a xs ∧ ∀ p, H1 p = none → Q (.ref p) (upd H1 p (.tup xs.reverse))
theorem pe_revT {e : Expr} {te : TE} {k : Nat} {p1 p2 p3 pos : Pos} (he : PE X e te) : PE X (.Subscript e (.Slice none none (some (.UnaryOp .USub (.Constant (.int 1) k p1) p2)) p3) pos) (tRevT X.K te) := by
  refine ⟨fun pins s σ H Q I h => ?_⟩
  refine Subscript_ (thn (he.run pins s σ H _ I h) fun v s1 ⟨x, H1, I1, r1, q1⟩ => ?_)
  obtain ⟨a, xs, ex, hx, q⟩ := q1
  subst ex
  cases r1
  have hst : PO X (some (.UnaryOp .USub (.Constant (.int 1) k p1) p2)) (tPart (tUn (rU fun i => .int (-i)) (tC (.int 1)))) := po_some (pe_un un_neg pe_int)
  refine wpAny_Slice (thn (po_none.run pins s1 σ H1 (fun o H2 => o = none ∧ H2 = H1) I1 ⟨rfl, rfl⟩) fun vl s2 ⟨l, H2, I2, pl, el, e2⟩ => ?_)
  subst el e2
  refine thn (po_none.run pins s2 σ H2 (fun o H3 => o = none ∧ H3 = H2) I2 ⟨rfl, rfl⟩) fun vu s3 ⟨u, H3, I3, pu, eu, e3⟩ => ?_
  subst eu e3
  refine thn (hst.run pins s3 σ H3 (fun o H4 => o = some (-1) ∧ H4 = H3) I3 ⟨1, rfl, -1, rfl, rfl, rfl⟩) fun vs s4 ⟨o, H4, I4, ps, eo, e4⟩ => ?_
  subst eo e4
  have I5 : Inv X pins σ H4 { s4 with heap := s4.heap.push { cls := .type "slice", data := .fields #[vl, vu, vs] } } := I4.kept (t' := s4.toks) fun b ob q => Heap.get?_push_of_some _ q
  obtain ⟨its, r, ht, hz⟩ := I5.tuple hx
  have hlen := r.length
  show wpAny (model X.prog X.w) X.A (subscriptTail e (.Slice none none (some (.UnaryOp .USub (.Constant (.int 1) k p1) p2)) p3) (.ref a) (.ref s4.heap.objs.size)) (EP X pins σ Q) X.xe { s4 with heap := s4.heap.push { cls := .type "slice", data := .fields #[vl, vu, vs] } }
  refine tail_any (ops := [.ref a, .ref s4.heap.objs.size]) ht.typeIs (PyProof.Rows.slot_tuple_getitem.lookup) ?_ (by with_unfolding_all rfl)
  refine getItem_rev ht (Heap.IsSliceOf.new _ vl vu vs) pl pu ps ?_ (by rw [List.size_toArray]; omega)
  refine ⟨.ref _, _, I5.laid (t' := s4.toks) (o := .tup xs.reverse) (fun b ob q => Heap.get?_push_of_some _ q) (Nat.le_refl _) ?_, rfl, q _ (I5.hok.fresh (Nat.le_refl _))⟩
  exact ⟨by rw [List.length_reverse]; exact hz, _, r.reverse, ⟨_, Heap.get?_push_size _ rfl, rfl, _, rfl⟩⟩
/-- len(set(t)), t a tuple of ints -/
def tLenSetT (K : PySem.W.Frag) (ta : TE) : TE := fun σ H Q => ta σ H fun x H1 => ∃ (l : Addr) (ns : List Int), x = .ref l ∧ SqT K H1 l (ns.map V.int) ∧ ns.length ≤ 1000 ∧ ∀ out : List Int, out.Nodup → (∀ k, k ∈ out ↔ k ∈ ns) → Q (.int (out.length : Nat)) H1
theorem pe_lenSetT {a : Expr} {ta : TE} {p p2 q pos : Pos} (hg : Gl X "len") (hm : X.mg "len" = none) (hg2 : Gl X "set") (hm2 : X.mg "set" = none) (ha : PE X a ta) (hc : X.calm = true := by rfl)
    (na : starEach [a] X.env = (false, eval a X.env) :: starEach [] X.env := by rfl) : PE X (.Call (.Name "len" p) [.Call (.Name "set" p2) [a] [] q] [] pos) (tLenSetT X.K ta) := by
  refine ⟨fun pins s σ H Q I h => ?_⟩
  refine Call_ (ld_blt I hg hm boot_len ?_)
  refine PyProof.Rows.callWith_builtin1 (PyProof.Rows.args_cons ?_ rfl) rfl rfl
  refine Call_ (ld_blt I hg2 hm2 boot_set ?_)
  refine PyProof.Rows.callWith_type1 (PyProof.Rows.args_cons (thn (ha.run pins s σ H _ I h) fun v s1 ⟨x, H1, I1, r1, q1⟩ => PyProof.Rows.args_nil ?_) na) na rfl
  obtain ⟨l, ns, rfl, hq, hl, q1⟩ := q1
  cases r1
  obtain ⟨its, r, pt, hz⟩ := I1.tuple hq
  have hi : IntsAre its.toArray.toList ns := by simpa using RZ.intsAre_vals r
  refine call_set_tupI ns (I1.ok.hd hc) (tup_is pt) hi (by unfold scanBound; omega) fun h' tk c R1 hcn k => ?_
  refine PyProof.Rows.args_nil ?_
  obtain ⟨o, es, ep, t, ho, hex, hdt, g, nd, hm3, hb, hf, hn, hr, hl2⟩ := R1
  have I2 : Inv X pins σ H1 { s1 with heap := h', toks := tk } := I1.kept fun b o e => k b o e
  have hqq := q1 (es.toList.map keyOf) nd fun j => by
    rw [← hm3 j]
    exact decide_eq_true_iff
  have e : (es.toList.map keyOf).length = es.size := by simp
  rw [e] at hqq
  exact call_len_set ho hex hdt hf (by rw [hn] <;> omega) ⟨.int es.size, H1, I2.tok _, ⟨_, rfl⟩, hqq⟩
/-- a local that holds some known def, called -/
def tCallW (i : Nat) (C : Addr → Sp → Prop) (E : XK) (t : TA) : TE := fun σ H Q => ∃ f sp, σ[i]? = some (some (.ref f)) ∧ C f sp ∧ t σ H fun vs H1 => sp vs H1 Q E
theorem pe_cw {CX : CXT} {i k : Nat} {x : Str} {p pos : Pos} {e : Expr} {es : List Expr} {t : TA} {E : XK} {C : Addr → Sp → Prop} (hC : ∀ f sp, C f sp → ∃ (fd : FuncData) (ps : List Str), FnOk X.prog X.w X.K X.mg X.base CX k f fd ps sp ∧ PySem.W.keepIn X.K (.ref f) = true ∧ Binds X.K fd ps [])
    (hr : Room k X.A) (hx : Passes CX X E) (hN : X.N[i]? = some x) (hv : Vis X.env.scope x) (ha : PA X (e :: es) t) (hd : (x == ("__debug__" : Str)) = false := by decide) (hcd : (x == ("__classdict__" : Str)) = false := by decide)
    (he : starEach (e :: es) X.env = (false, eval e X.env) :: starEach es X.env := by rfl) (hpl : (backTo pos (starEach es X.env)).any (·.1) = false := by rfl) :
    PE X (.Call (.Name x p) (e :: es) [] pos) (tCallW i C E t) := by
  refine ⟨fun pins s σ H Q I h => ?_⟩
  obtain ⟨f, sp, hs, hc, ht⟩ := h
  obtain ⟨fd, ps, F, kp, b⟩ := hC f sp hc
  refine wpAny_Call_Name_kw (thn ((pe_var (pos := p) hN hv hd hcd).run pins s σ H (fun v H1 => v = .ref f ∧ H1 = H) I ⟨.ref f, hs, rfl, rfl⟩) fun u s1 ⟨v, H1, I1, r1, q1⟩ => ?_)
  obtain ⟨ev, eH⟩ := q1
  subst ev
  rw [eH] at I1
  obtain rfl : u = Value.ref f := r1
  refine PySem.W.callWith_K (h₀ := X.base) I1.ok.mod.kin kp (thn (ha.run pos pins s1 σ _ _ I1 ht) fun us s2 ⟨vs, H2, I2, r, q⟩ => ⟨I2.kIn, ?_⟩) he hpl
  exact run_fn F hr b .nil hx I2 r (by rw [List.append_nil]; exact q)
end
end Wq
end

section
set_option linter.all false
/-! Plain law of the claim: spots of a pattern, orders without patterns. No program here. -/
namespace WiM

/-! ### the model -/
/-- may place x follow the places pl of a spot? -/
def goesOn (o p pl : List Nat) (x : Nat) : Bool :=
  (List.range pl.length).all fun s => decide (o.getD (pl.getD s 0) 0 > o.getD x 0) == decide (p.getD s 0 > p.getD pl.length 0)
/-- where the next place begins -/
def firstOf (pl : List Nat) : Nat := match pl.getLast? with
  | none => 0
  | some x => x + 1
def rangeFrom (a n : Nat) : List Nat := (List.range (n - a)).map (a + ·)
def ext1 (n : Nat) (pl : List Nat) : List (List Nat) := (rangeFrom (firstOf pl) n).map fun x => pl ++ [x]
def extend (o p pl : List Nat) : List (List Nat) := ((rangeFrom (firstOf pl) o.length).filter (goesOn o p pl)).map fun x => pl ++ [x]
def lineAt (o p : List Nat) : Nat → List (List Nat)
  | 0 => [[]]
  | j + 1 => (lineAt o p j).flatMap (extend o p)
def allSpots (o p : List Nat) : List (List Nat) := lineAt o p p.length
def holds (o p : List Nat) : Bool := decide (p.length ≤ o.length) && decide (allSpots o p ≠ [])
/-- the law's: all rising places -/
def riseAt (n : Nat) : Nat → List (List Nat)
  | 0 => [[]]
  | j + 1 => (riseAt n j).flatMap (ext1 n)
def rank (xs : List Nat) (x : Nat) : Nat := xs.countP (· < x)
def like (xs p : List Nat) : Bool := decide (xs.map (rank xs) = p)
def lawSpots (o p : List Nat) : List (List Nat) := (riseAt o.length p.length).filter fun pl => like (pl.map fun x => o.getD x 0) p

/-- an order -/
structure Ord (o : List Nat) : Prop where
  nd : o.Nodup
  lt : ∀ x ∈ o, x < o.length

/-! ### iso -/
def iso (o p pl : List Nat) : Prop := ∀ a b, a < b → b < pl.length → (o.getD (pl.getD a 0) 0 > o.getD (pl.getD b 0) 0 ↔ p.getD a 0 > p.getD b 0)
instance isoDec (o p pl : List Nat) : Decidable (iso o p pl) :=
  decidable_of_iff (∀ b, b < pl.length → ∀ a, a < b → (o.getD (pl.getD a 0) 0 > o.getD (pl.getD b 0) 0 ↔ p.getD a 0 > p.getD b 0))
    ⟨fun h a b x y => h b y a x, fun h b y a x => h a b x y⟩

theorem getD_app_lt (l : List Nat) (x i : Nat) (h : i < l.length) : (l ++ [x]).getD i 0 = l.getD i 0 := by
  simp [List.getD_eq_getElem?_getD, List.getElem?_append_left h]
theorem getD_app_eq (l : List Nat) (x : Nat) : (l ++ [x]).getD l.length 0 = x := by
  simp [List.getD_eq_getElem?_getD]

theorem goesOn_iff (o p pl : List Nat) (x : Nat) : goesOn o p pl x = true ↔ ∀ s, s < pl.length → (o.getD (pl.getD s 0) 0 > o.getD x 0 ↔ p.getD s 0 > p.getD pl.length 0) := by
  unfold goesOn
  rw [List.all_eq_true]
  constructor
  · intro h s hs
    have := h s (List.mem_range.mpr hs)
    simpa using this
  · intro h s hs
    have := h s (List.mem_range.mp hs)
    simpa using this

theorem iso_snoc (o p pl : List Nat) (x : Nat) : iso o p (pl ++ [x]) ↔ iso o p pl ∧ goesOn o p pl x = true := by
  rw [goesOn_iff]
  constructor
  · intro h
    refine ⟨fun a b hab hb => ?_, fun s hs => ?_⟩
    · have := h a b hab (by simp; omega)
      rwa [getD_app_lt _ _ _ (by omega), getD_app_lt _ _ _ hb] at this
    · have := h s pl.length hs (by simp)
      rwa [getD_app_lt _ _ _ hs, getD_app_eq] at this
  · rintro ⟨h1, h2⟩ a b hab hb
    have hb' : b < pl.length + 1 := by simpa using hb
    by_cases hbl : b = pl.length
    · subst hbl
      rw [getD_app_lt _ _ _ hab, getD_app_eq]
      exact h2 a hab
    · rw [getD_app_lt _ _ _ (by omega), getD_app_lt _ _ _ (by omega)]
      exact h1 a b hab (by omega)

theorem filter_map_snoc (o p pl : List Nat) (h : iso o p pl) : ∀ l : List Nat,
    (l.map fun x => pl ++ [x]).filter (fun q => decide (iso o p q)) = (l.filter (goesOn o p pl)).map fun x => pl ++ [x]
  | [] => rfl
  | x :: l => by
    have ih := filter_map_snoc o p pl h l
    have e : decide (iso o p (pl ++ [x])) = goesOn o p pl x := by
      by_cases g : goesOn o p pl x = true
      · rw [g]; exact decide_eq_true ((iso_snoc o p pl x).mpr ⟨h, g⟩)
      · have g' : goesOn o p pl x = false := by simpa using g
        rw [g']; exact decide_eq_false fun z => g ((iso_snoc o p pl x).mp z).2
    rw [List.map_cons, List.filter_cons, List.filter_cons, e]
    by_cases g : goesOn o p pl x = true
    · rw [if_pos g, if_pos g, List.map_cons, ih]
    · rw [if_neg g, if_neg g, ih]
theorem filter_map_none (o p pl : List Nat) (h : ¬ iso o p pl) (l : List Nat) : (l.map fun x => pl ++ [x]).filter (fun q => decide (iso o p q)) = [] := by
  rw [List.filter_eq_nil_iff]
  intro q hq
  obtain ⟨x, _, rfl⟩ := List.mem_map.mp hq
  simpa using fun z => h ((iso_snoc o p pl x).mp z).1

theorem flat_filter (o p : List Nat) : ∀ l : List (List Nat), (l.filter fun q => decide (iso o p q)).flatMap (extend o p) = (l.flatMap (ext1 o.length)).filter fun q => decide (iso o p q)
  | [] => rfl
  | pl :: l => by
    have ih := flat_filter o p l
    rw [List.flatMap_cons, List.filter_append, ← ih, List.filter_cons]
    by_cases h : iso o p pl
    · rw [if_pos (decide_eq_true h), List.flatMap_cons]
      congr 1
      exact (filter_map_snoc o p pl h _).symm
    · rw [if_neg (by simpa using h)]
      have : (ext1 o.length pl).filter (fun q => decide (iso o p q)) = [] := filter_map_none o p pl h _
      rw [this, List.nil_append]

theorem line_eq (o p : List Nat) : ∀ j, lineAt o p j = (riseAt o.length j).filter fun q => decide (iso o p q)
  | 0 => by
    have h : iso o p [] := fun a b _ hb => absurd hb (by simp)
    show [[]] = List.filter (fun q => decide (iso o p q)) [[]]
    rw [List.filter_cons, if_pos (decide_eq_true h)]
    rfl
  | j + 1 => by
    show (lineAt o p j).flatMap (extend o p) = _
    rw [line_eq o p j, flat_filter]
    rfl

/-! ### the rising places -/
structure Rise (n k : Nat) (pl : List Nat) : Prop where
  len : pl.length = k
  lt : ∀ i, i < k → pl.getD i 0 < n
  up : ∀ a b, a < b → b < k → pl.getD a 0 < pl.getD b 0

theorem getLast_getD (pl : List Nat) (h : pl ≠ []) : pl.getLast? = some (pl.getD (pl.length - 1) 0) := by
  rw [List.getLast?_eq_getElem?, List.getD_eq_getElem?_getD]
  have : pl.length - 1 < pl.length := by
    have := List.length_pos_iff.mpr h
    omega
  rw [List.getElem?_eq_getElem this]
  rfl
theorem first_le {n k : Nat} {pl : List Nat} (h : Rise n k pl) (x : Nat) : firstOf pl ≤ x ↔ ∀ i, i < k → pl.getD i 0 < x := by
  unfold firstOf
  by_cases hp : pl = []
  · subst hp
    have hk : k = 0 := by rw [← h.len]; rfl
    simp [hk]
  · rw [getLast_getD pl hp]
    have hl := List.length_pos_iff.mpr hp
    have hk : k = pl.length := h.len.symm
    constructor
    · intro hx i hi
      by_cases hi2 : i = pl.length - 1
      · subst hi2; exact hx
      · have := h.up i (pl.length - 1) (by omega) (by omega)
        exact Nat.lt_trans this hx
    · intro hx
      exact hx (pl.length - 1) (by omega)
theorem mem_rangeFrom {a n x : Nat} : x ∈ rangeFrom a n ↔ a ≤ x ∧ x < n := by
  unfold rangeFrom
  rw [List.mem_map]
  constructor
  · rintro ⟨y, hy, rfl⟩
    have := List.mem_range.mp hy
    omega
  · rintro ⟨h1, h2⟩
    exact ⟨x - a, List.mem_range.mpr (by omega), by omega⟩
theorem mem_rise (n : Nat) : ∀ (k : Nat) (pl : List Nat), pl ∈ riseAt n k ↔ Rise n k pl
  | 0, pl => by
    show pl ∈ [[]] ↔ _
    rw [List.mem_singleton]
    constructor
    · rintro rfl
      exact ⟨rfl, fun i h => absurd h (Nat.not_lt_zero _), fun a b _ h => absurd h (Nat.not_lt_zero _)⟩
    · intro h
      exact List.length_eq_zero_iff.mp h.len
  | k + 1, pl => by
    show pl ∈ (riseAt n k).flatMap (ext1 n) ↔ _
    rw [List.mem_flatMap]
    constructor
    · rintro ⟨q, hq, hm⟩
      have hr := (mem_rise n k q).mp hq
      obtain ⟨x, hx, rfl⟩ := List.mem_map.mp hm
      obtain ⟨h1, h2⟩ := mem_rangeFrom.mp hx
      have hf := (first_le hr x).mp h1
      refine ⟨by simp [hr.len], fun i hi => ?_, fun a b hab hb => ?_⟩
      · by_cases hik : i = k
        · have : i = q.length := by rw [hr.len]; exact hik
          rw [this, getD_app_eq]; exact h2
        · rw [getD_app_lt _ _ _ (by rw [hr.len]; omega)]
          exact hr.lt i (by omega)
      · by_cases hbk : b = k
        · have e : b = q.length := by rw [hr.len]; exact hbk
          rw [getD_app_lt _ _ a (by omega), e, getD_app_eq]
          exact hf a (by omega)
        · rw [getD_app_lt _ _ a (by rw [hr.len]; omega), getD_app_lt _ _ b (by rw [hr.len]; omega)]
          exact hr.up a b hab (by omega)
    · intro h
      have hne : pl ≠ [] := fun z => by have := h.len; rw [z] at this; simp at this
      have e : pl = pl.dropLast ++ [pl.getD k 0] := by
        have h0 := List.dropLast_concat_getLast hne
        have h1 : pl.getLast hne = pl.getD k 0 := by
          have := getLast_getD pl hne
          rw [List.getLast?_eq_some_getLast hne] at this
          have h2 := Option.some.inj this
          rw [h2, h.len]
          rfl
        rw [h1] at h0
        exact h0.symm
      have hl : pl.dropLast.length = k := by rw [List.length_dropLast, h.len]; omega
      have gd : ∀ i, i < k → pl.dropLast.getD i 0 = pl.getD i 0 := fun i hi => by
        conv => rhs; rw [e]
        rw [getD_app_lt _ _ _ (by omega)]
      have hr : Rise n k pl.dropLast := ⟨hl, fun i hi => by rw [gd i hi]; exact h.lt i (by omega), fun a b hab hb => by rw [gd a (by omega), gd b hb]; exact h.up a b hab (by omega)⟩
      refine ⟨pl.dropLast, (mem_rise n k _).mpr hr, ?_⟩
      refine List.mem_map.mpr ⟨pl.getD k 0, mem_rangeFrom.mpr ⟨(first_le hr _).mpr fun i hi => ?_, h.lt k (by omega)⟩, e.symm⟩
      rw [gd i hi]
      exact h.up i k hi (by omega)
theorem rise_len {n k : Nat} {pl : List Nat} (h : pl ∈ riseAt n k) : pl.length = k := ((mem_rise n k pl).mp h).len

theorem nodup_rangeFrom (a n : Nat) : (rangeFrom a n).Nodup := by
  unfold rangeFrom
  rw [List.nodup_iff_pairwise_ne, List.pairwise_map]
  exact (List.nodup_range).imp fun h => by omega
theorem nodup_flat {α β : Type} {f : α → List β} : ∀ {l : List α}, l.Nodup → (∀ a ∈ l, (f a).Nodup) → (∀ a ∈ l, ∀ b ∈ l, a ≠ b → ∀ x ∈ f a, x ∉ f b) → (l.flatMap f).Nodup
  | [], _, _, _ => List.nodup_nil
  | a :: l, h, h1, h2 => by
    rw [List.flatMap_cons, List.nodup_append]
    obtain ⟨ha, hl⟩ := List.nodup_cons.mp h
    refine ⟨h1 a List.mem_cons_self, nodup_flat hl (fun b hb => h1 b (List.mem_cons_of_mem _ hb)) (fun b hb c hc => h2 b (List.mem_cons_of_mem _ hb) c (List.mem_cons_of_mem _ hc)), fun x hx y hy e => ?_⟩
    subst e
    obtain ⟨b, hb, hxb⟩ := List.mem_flatMap.mp hy
    exact h2 a List.mem_cons_self b (List.mem_cons_of_mem _ hb) (fun z => ha (z ▸ hb)) x hx hxb
theorem nodup_rise (n : Nat) : ∀ k, (riseAt n k).Nodup
  | 0 => by simp [riseAt]
  | k + 1 => by
    refine nodup_flat (nodup_rise n k) (fun a _ => ?_) (fun a ha b hb hab x hx hxb => ?_)
    · unfold ext1
      rw [List.nodup_iff_pairwise_ne, List.pairwise_map]
      refine (nodup_rangeFrom _ _).imp fun {x y} h e => h ?_
      have := List.append_cancel_left e
      simpa using this
    · obtain ⟨u, _, rfl⟩ := List.mem_map.mp hx
      obtain ⟨v, _, e⟩ := List.mem_map.mp hxb
      have hl : a.length = b.length := by rw [rise_len ha, rise_len hb]
      exact hab (List.append_inj e hl.symm).1.symm

/-! ### ranks -/
theorem getD_mem {l : List Nat} {i : Nat} (h : i < l.length) : l.getD i 0 ∈ l := by
  rw [List.getD_eq_getElem?_getD, List.getElem?_eq_getElem h]
  exact List.getElem_mem h
theorem map_getD (xs : List Nat) : (List.range xs.length).map (fun i => xs.getD i 0) = xs := by
  apply List.ext_getElem
  · simp
  · intro i h1 h2
    simp [List.getD_eq_getElem?_getD, List.getElem?_eq_getElem h2]
theorem rank_ix (xs : List Nat) (x : Nat) : rank xs x = (List.range xs.length).countP fun i => decide (xs.getD i 0 < x) := by
  unfold rank
  conv => lhs; rw [← map_getD xs]
  rw [List.countP_map]
  rfl
theorem nodup_getD {xs : List Nat} (h : xs.Nodup) {i j : Nat} (hi : i < xs.length) (hj : j < xs.length) (e : xs.getD i 0 = xs.getD j 0) : i = j := by
  rw [List.getD_eq_getElem?_getD, List.getD_eq_getElem?_getD, List.getElem?_eq_getElem hi, List.getElem?_eq_getElem hj] at e
  exact (List.getElem_inj h).mp e
theorem rank_lt {xs : List Nat} {x y : Nat} (hx : x ∈ xs) (h : x < y) : rank xs x < rank xs y := by
  unfold rank
  obtain ⟨a, b, rfl⟩ := List.append_of_mem hx
  rw [List.countP_append, List.countP_append, List.countP_cons, List.countP_cons]
  have h1 : a.countP (· < x) ≤ a.countP (· < y) := List.countP_mono_left fun z _ hz => by
    have : z < x := by simpa using hz
    simpa using Nat.lt_trans this h
  have h2 : b.countP (· < x) ≤ b.countP (· < y) := List.countP_mono_left fun z _ hz => by
    have : z < x := by simpa using hz
    simpa using Nat.lt_trans this h
  have e1 : (if (decide (x < x)) = true then 1 else 0) = 0 := by simp
  have e2 : (if (decide (x < y)) = true then 1 else 0) = 1 := by simp [h]
  rw [e1, e2]
  omega
theorem rank_le {xs : List Nat} {x y : Nat} (h : x ≤ y) : rank xs x ≤ rank xs y :=
  List.countP_mono_left fun z _ hz => by
    have : z < x := by simpa using hz
    simpa using Nat.lt_of_lt_of_le this h
theorem countP_range_lt : ∀ (k v : Nat), (List.range k).countP (fun i => decide (i < v)) = min k v
  | 0, v => by simp
  | k + 1, v => by
    rw [List.range_succ, List.countP_append, countP_range_lt k v, List.countP_cons, List.countP_nil]
    by_cases h : k < v
    · simp [h]; omega
    · simp [h]; omega
theorem perm_of_sub : ∀ {a b : List Nat}, a.Nodup → (∀ x ∈ a, x ∈ b) → b.length ≤ a.length → a.Perm b
  | [], b, _, _, h => by
    have : b = [] := List.length_eq_zero_iff.mp (by simpa using h)
    rw [this]
  | x :: a, b, hn, hs, hl => by
    obtain ⟨h1, h2⟩ := List.nodup_cons.mp hn
    have hx : x ∈ b := hs x List.mem_cons_self
    have hp := List.perm_cons_erase hx
    have : a.Perm (b.erase x) := perm_of_sub h2 (fun y hy => (List.mem_erase_of_ne (fun (z : y = x) => h1 (by rw [← z]; exact hy))).mpr (hs y (List.mem_cons_of_mem _ hy))) (by
      rw [List.length_erase_of_mem hx]
      rw [List.length_cons] at hl
      omega)
    exact (this.cons x).trans hp.symm
theorem ord_perm {p : List Nat} (h : Ord p) : p.Perm (List.range p.length) :=
  perm_of_sub h.nd (fun x hx => List.mem_range.mpr (h.lt x hx)) (by simp)
theorem rank_ord {p : List Nat} (h : Ord p) {v : Nat} (hv : v ≤ p.length) : rank p v = v := by
  unfold rank
  rw [(ord_perm h).countP_eq, countP_range_lt]
  omega
theorem ord_mem {p : List Nat} (h : Ord p) {v : Nat} (hv : v < p.length) : v ∈ p := (ord_perm h).mem_iff.mpr (List.mem_range.mpr hv)

/-- the heart: as many smaller ones -/
theorem like_iff {xs p : List Nat} (hx : xs.Nodup) (hp : Ord p) (hl : xs.length = p.length) :
    like xs p = true ↔ ∀ a b, a < b → b < xs.length → (xs.getD a 0 > xs.getD b 0 ↔ p.getD a 0 > p.getD b 0) := by
  unfold like
  rw [decide_eq_true_iff]
  constructor
  · intro h a b hab hb
    have g : ∀ i, i < xs.length → rank xs (xs.getD i 0) = p.getD i 0 := fun i hi => by
      rw [← h]
      simp [List.getD_eq_getElem?_getD, List.getElem?_map, List.getElem?_eq_getElem hi]
    rw [← g a (by omega), ← g b hb]
    constructor
    · intro z
      exact rank_lt (getD_mem hb) z
    · intro z
      by_cases q : xs.getD a 0 > xs.getD b 0
      · exact q
      · have := rank_le (xs := xs) (Nat.le_of_not_lt q)
        omega
  · intro h
    apply List.ext_getElem
    · simp [hl]
    · intro i h1 h2
      have hi : i < xs.length := by simpa using h1
      rw [List.getElem_map]
      have ex : xs[i] = xs.getD i 0 := by simp [List.getD_eq_getElem?_getD, List.getElem?_eq_getElem hi]
      have ep : p[i] = p.getD i 0 := by simp [List.getD_eq_getElem?_getD, List.getElem?_eq_getElem h2]
      rw [ex, ep]
      have e1 : rank p (p.getD i 0) = p.getD i 0 := rank_ord hp (Nat.le_of_lt (hp.lt _ (getD_mem h2)))
      rw [← e1, rank_ix, rank_ix p, hl]
      refine List.countP_congr fun j hj => ?_
      have hj' : j < xs.length := by rw [hl]; exact List.mem_range.mp hj
      have q : (xs.getD j 0 < xs.getD i 0 ↔ p.getD j 0 < p.getD i 0) := by
        rcases Nat.lt_trichotomy j i with z | z | z
        · have q0 := h j i z hi
          have n1 : xs.getD j 0 ≠ xs.getD i 0 := fun e => by have := nodup_getD hx hj' hi e; omega
          have n2 : p.getD j 0 ≠ p.getD i 0 := fun e => by have := nodup_getD hp.nd (by omega) h2 e; omega
          omega
        · subst z; omega
        · have q0 := h i j z hj'
          omega
      show decide (xs.getD j 0 < xs.getD i 0) = true ↔ decide (p.getD j 0 < p.getD i 0) = true
      rw [decide_eq_true_iff, decide_eq_true_iff]
      exact q

/-! ### turned orders -/
def inv (o : List Nat) : List Nat := (List.range o.length).map fun v => o.idxOf v
def about (o : List Nat) : List Nat := o.reverse
def turn (o : List Nat) : List Nat := o.map fun x => o.length - 1 - x
theorem inv_len (o : List Nat) : (inv o).length = o.length := by simp [inv]
end WiM
end

section
set_option Elab.async false
set_option linter.all false
set_option maxRecDepth 100000
set_option maxHeartbeats 1000000
/-! The text by its places; data. -/
namespace Wp
open PySem PySem.Spec PyProof.Rows L2
def topS (i : Nat) : Stmt := PySem.Challenge.pw_wiredorders_k66_whole_patterns_in_orders.main.body.getD i (.Pass ⟨0, 0, 0, 0⟩)
abbrev sIsWhole : Stmt := topS 12
abbrev sFits : Stmt := topS 13
abbrev sOppOf : Stmt := topS 14
abbrev sNeedOrder : Stmt := topS 15
abbrev sNeedMany : Stmt := topS 16
abbrev sNeedFew : Stmt := topS 17
abbrev sOpp : Stmt := topS 18
abbrev sAbout : Stmt := topS 19
abbrev sOver : Stmt := topS 20
abbrev sFitsP : Stmt := topS 22
abbrev sGoes : Stmt := topS 23
abbrev sAllSpots : Stmt := topS 24
abbrev sHolds : Stmt := topS 25
abbrev sGrown : Stmt := topS 26
abbrev sAllW : Stmt := topS 27
abbrev sNeedP : Stmt := topS 28
abbrev sNeedPs : Stmt := topS 29
abbrev sSpots : Stmt := topS 30
abbrev sCount : Stmt := topS 31
abbrev sHas : Stmt := topS 32
abbrev sOrdW : Stmt := topS 33
abbrev sCountW : Stmt := topS 34
abbrev sDrum : Stmt := topS 36
abbrev sRoll : Stmt := topS 37
abbrev sOrder : Stmt := topS 38
abbrev sAll : Stmt := topS 39
abbrev sKnown : Stmt := topS 40
abbrev sNames : Stmt := topS 41
abbrev sError : Stmt := topS 42
abbrev sLSpots : Stmt := topS 43
abbrev sLike : Stmt := topS 44
abbrev sWithout : Stmt := topS 45
abbrev sRefused : Stmt := topS 46
abbrev sLaw : Stmt := topS 47
/-! ### data -/
/-- an order's data -/
def dO (o : List Nat) : PyData := .tuple (o.map fun (n : Nat) => .int (n : Int))
/-- a list, a tuple of orders -/
def dL (os : List (List Nat)) : PyData := .list (os.map dO)
def dT (os : List (List Nat)) : PyData := .tuple (os.map dO)
/-- an order's items as values -/
def vN (o : List Nat) : List V := o.map fun (n : Nat) => V.int (n : Int)
theorem vN_len (o : List Nat) : (vN o).length = o.length := List.length_map ..
theorem vN_get {o : List Nat} {i : Nat} {x : V} (h : (vN o)[i]? = some x) : ∃ n, o[i]? = some n ∧ x = .int (n : Int) := by
  unfold vN at h
  rw [List.getElem?_map] at h
  cases e : o[i]? with
  | none => rw [e] at h; cases h
  | some n => rw [e] at h; cases h; exact ⟨n, rfl, rfl⟩
theorem vN_at {o : List Nat} {i n : Nat} (h : o[i]? = some n) : (vN o)[i]? = some (.int (n : Int)) := by
  unfold vN
  rw [List.getElem?_map, h]
  rfl
theorem vN_app (a b : List Nat) : vN (a ++ b) = vN a ++ vN b := List.map_append ..
section
variable {K : PySem.W.Frag} {H H' : Hp}
/-- tracked tuples and locked things stay -/
theorem seqT {a : Addr} {xs : List V} (e : Same H H') (h : SqT K H a xs) : SqT K H' a xs := by
  rcases h with (h | ⟨o, h⟩) | h
  · exact .inl (.inl (e _ _ h))
  · exact .inl (.inr ⟨o, e _ _ h⟩)
  · exact .inr h
theorem same_upd {p : Addr} {o : HO} (h : H p = none) : Same H (upd H p o) := fun b x e => by
  rw [upd_ne (ne_of_none e h)]
  exact e
mutual
theorem dmono (e : Same H H') : ∀ (d : PyData) (v : V), Dp K H v d → Dp K H' v d
  | .none, _, h => by cases h; exact .non
  | .bool b, _, h => by cases h; exact .bl b
  | .int i, _, h => by cases h; exact .int i
  | .str x, _, h => by cases h; exact .str x
  | .list ds, _, h => by
    cases h with
    | lst h1 h2 => exact .lst (e.seq h1) (dmonos e ds _ h2)
  | .tuple ds, _, h => by
    cases h with
    | tup h1 h2 => exact .tup (seqT e h1) (dmonos e ds _ h2)
  | .dict _, _, h => by cases h
theorem dmonos (e : Same H H') : ∀ (ds : List PyData) (vs : List V), DpAll K H vs ds → DpAll K H' vs ds
  | [], _, h => by cases h; exact .nil
  | d :: ds, _, h => by
    cases h with
    | cons h1 h2 => exact .cons (dmono e d _ h1) (dmonos e ds _ h2)
end
theorem dmn (e : Same H H') {d : PyData} {v : V} (h : Dp K H v d) : Dp K H' v d := dmono e d v h
theorem dmns (e : Same H H') {ds : List PyData} {vs : List V} (h : DpAll K H vs ds) : DpAll K H' vs ds := dmonos e ds vs h
theorem dall_len : ∀ {vs : List V} {ds : List PyData}, DpAll K H vs ds → vs.length = ds.length
  | _, _, .nil => rfl
  | _, _, .cons _ t => by rw [List.length_cons, List.length_cons, dall_len t]
theorem dall_get : ∀ {vs : List V} {ds : List PyData} {i : Nat} {x : V}, DpAll K H vs ds → vs[i]? = some x → ∃ d, ds[i]? = some d ∧ Dp K H x d
  | _, _, _, _, .nil, e => by simp at e
  | _, _, 0, _, .cons r _, e => by simp at e; subst e; exact ⟨_, rfl, r⟩
  | _, _, i + 1, x, .cons _ t, e => by
    obtain ⟨d, h1, h2⟩ := dall_get (i := i) (x := x) t (by simpa using e)
    exact ⟨d, by simpa using h1, h2⟩
theorem dall_app : ∀ {vs ws : List V} {ds es : List PyData}, DpAll K H vs ds → DpAll K H ws es → DpAll K H (vs ++ ws) (ds ++ es)
  | _, _, _, _, .nil, s => s
  | _, _, _, _, .cons r t, s => .cons r (dall_app t s)
theorem dall_ints : ∀ (o : List Nat), DpAll K H (vN o) (o.map fun (n : Nat) => PyData.int (n : Int))
  | [] => .nil
  | n :: o => .cons (.int _) (dall_ints o)
theorem dall_ints_inv : ∀ {o : List Nat} {vs : List V}, DpAll K H vs (o.map fun (n : Nat) => PyData.int (n : Int)) → vs = vN o
  | [], _, h => by cases h; rfl
  | n :: o, _, h => by
    cases h with
    | cons h1 h2 =>
      cases h1
      rw [dall_ints_inv h2]
      rfl
/-- a tuple of ints at an address -/
theorem dO_of {a : Addr} {o : List Nat} (h : SqT K H a (vN o)) : Dp K H (.ref a) (dO o) := .tup h (dall_ints o)
theorem dO_inv {v : V} {o : List Nat} (h : Dp K H v (dO o)) : ∃ a, v = .ref a ∧ SqT K H a (vN o) := by
  unfold dO at h
  cases h with
  | tup h1 h2 => exact ⟨_, rfl, by rw [← dall_ints_inv h2]; exact h1⟩
theorem dL_inv {v : V} {os : List (List Nat)} (h : Dp K H v (dL os)) : ∃ a xs, v = .ref a ∧ SqL K H a xs ∧ DpAll K H xs (os.map dO) := by
  unfold dL at h
  cases h with
  | lst h1 h2 => exact ⟨_, _, rfl, h1, h2⟩
theorem dT_inv {v : V} {os : List (List Nat)} (h : Dp K H v (dT os)) : ∃ a xs, v = .ref a ∧ SqT K H a xs ∧ DpAll K H xs (os.map dO) := by
  unfold dT at h
  cases h with
  | tup h1 h2 => exact ⟨_, _, rfl, h1, h2⟩
/-- the i-th order of a list -/
theorem dOs_get {xs : List V} {os : List (List Nat)} {i : Nat} {x : V} (h : DpAll K H xs (os.map dO)) (e : xs[i]? = some x) : ∃ o, os[i]? = some o ∧ Dp K H x (dO o) := by
  obtain ⟨d, h1, h2⟩ := dall_get h e
  rw [List.getElem?_map] at h1
  cases q : os[i]? with
  | none => rw [q] at h1; cases h1
  | some o => rw [q] at h1; cases h1; exact ⟨o, rfl, h2⟩
end
/-! ### equal data -/
theorem eqvAll_int : ∀ (a b : List Nat), PyData.eqvAll (a.map fun (n : Nat) => PyData.int (n : Int)) (b.map fun (n : Nat) => PyData.int (n : Int)) = decide (a = b)
  | [], [] => by simp [PyData.eqvAll]
  | [], _ :: _ => by simp [PyData.eqvAll]
  | _ :: _, [] => by simp [PyData.eqvAll]
  | x :: a, y :: b => by
    simp only [List.map_cons, PyData.eqvAll, PyData.eqv, eqvAll_int a b]
    by_cases h : x = y
    · subst h
      simp
    · have : ((x : Int) == (y : Int)) = false := by
        rw [beq_eq_false_iff_ne]
        omega
      simp [this, h]
theorem eqv_O (a b : List Nat) : PyData.eqv (dO a) (dO b) = decide (a = b) := by
  unfold dO
  rw [PyData.eqv]
  exact eqvAll_int a b
theorem eqvAll_O : ∀ (a b : List (List Nat)), PyData.eqvAll (a.map dO) (b.map dO) = decide (a = b)
  | [], [] => by simp [PyData.eqvAll]
  | [], _ :: _ => by simp [PyData.eqvAll]
  | _ :: _, [] => by simp [PyData.eqvAll]
  | x :: a, y :: b => by
    simp only [List.map_cons, PyData.eqvAll, eqv_O, eqvAll_O a b]
    by_cases h : x = y
    · subst h
      simp
    · simp [h]
theorem eqv_L (a b : List (List Nat)) : PyData.eqv (dL a) (dL b) = decide (a = b) := by
  unfold dL
  rw [PyData.eqv]
  exact eqvAll_O a b
theorem lay_ints : ∀ o : List Nat, PyData.canLayAll0 (o.map fun (n : Nat) => PyData.int (n : Int)) = true ∧ PyData.depthAll (o.map fun (n : Nat) => PyData.int (n : Int)) = 0
  | [] => ⟨by simp [PyData.canLayAll0], by simp [PyData.depthAll]⟩
  | n :: o => ⟨by simp [PyData.canLayAll0, PyData.canLay0, (lay_ints o).1], by simp [PyData.depthAll, PyData.depth, (lay_ints o).2]⟩
theorem lay_O (o : List Nat) : PyData.canLay0 (dO o) = true ∧ PyData.depth (dO o) = 1 := by
  unfold dO
  constructor
  · rw [PyData.canLay0]; exact (lay_ints o).1
  · rw [PyData.depth, (lay_ints o).2]
theorem lay_Os : ∀ os : List (List Nat), PyData.canLayAll0 (os.map dO) = true ∧ PyData.depthAll (os.map dO) ≤ 1
  | [] => ⟨by simp [PyData.canLayAll0], by simp [PyData.depthAll]⟩
  | o :: os => ⟨by simp [PyData.canLayAll0, (lay_O o).1, (lay_Os os).1], by
      have := (lay_Os os).2
      simp [PyData.depthAll, (lay_O o).2]
      omega⟩
theorem shaped_O (o : List Nat) : SeqAt.shaped (dO o) = true := by
  unfold SeqAt.shaped
  rw [(lay_O o).1, (lay_O o).2]
  rfl
theorem shaped_L (os : List (List Nat)) : SeqAt.shaped (dL os) = true := by
  unfold SeqAt.shaped
  have h1 : PyData.canLay0 (dL os) = true := by
    unfold dL
    rw [PyData.canLay0]
    exact (lay_Os os).1
  have h2 : PyData.depth (dL os) ≤ 64 := by
    unfold dL
    rw [PyData.depth]
    have := (lay_Os os).2
    omega
  rw [h1, decide_eq_true h2]
  rfl
end Wp
end

section
set_option Elab.async false
set_option linter.all false
set_option maxRecDepth 100000
set_option maxHeartbeats 1000000
/-! is_whole, fits_order, fits_pattern. -/
namespace Wp
open PySem PySem.Spec PyProof.Rows L2 Wq
/-- the built-ins that the text names are still those -/
structure Nm (mg : Str → Option Value) : Prop where
  isinst : mg "isinstance" = none
  int : mg "int" = none
  bool : mg "bool" = none
  tuple : mg "tuple" = none
  len : mg "len" = none
  all : mg "all" = none
  set : mg "set" = none
  dict : mg "dict" = none
  enumerate : mg "enumerate" = none
  range : mg "range" = none
  list : mg "list" = none
  any : mg "any" = none
  sorted : mg "sorted" = none
  zip : mg "zip" = none
  ve : mg "ValueError" = none
  things : ∃ t, mg "THINGS" = some (.int 30 t)
/-- a def under its name -/
structure Df (P : Program) (w : World) (K : PySem.W.Frag) (mg : Str → Option Value) (base : Heap) (CX : CXT) (k : Nat) (x : Str) (ps : List Str) (sp : Sp) : Prop where
  ex : ∃ (f : Addr) (fd : FuncData), FnOk P w K mg base CX k f fd ps sp ∧ mg x = some (.ref f) ∧ PySem.W.keepIn K (.ref f) = true ∧ Binds K fd ps []
theorem passN {X : Cx} : Passes (L2N.CX X.prog X.w) X E0 := fun _ _ _ _ _ _ _ h => by
  obtain ⟨_, _, _, _, _, _, _, _, _, _, _, _, z⟩ := h
  exact z.elim
/-- a call's reading -/
def tD (sp : Sp) (E : XK) (t : TA) : TE := fun σ H Q => t σ H fun vs H1 => sp vs H1 Q E
section
variable {X : Cx} {CX : CXT} {k j : Nat} {x : Str} {ps : List Str} {sp : Sp} {p pos : Pos} {e : Expr} {es : List Expr} {t : TA}
/-- f(e, ..), nothing is let out -/
theorem pe_d {E : XK} (F : Df X.prog X.w X.K X.mg X.base CX k x ps sp) (hr : Room j X.A) (hk : k ≤ j) (hg : Gl X x) (hx : Passes CX X E) (ha : PA X (e :: es) t)
    (hdb : (x == ("__debug__" : Str)) = false := by decide) (he : starEach (e :: es) X.env = (false, eval e X.env) :: starEach es X.env := by rfl) (hpl : (backTo pos (starEach es X.env)).any (·.1) = false := by rfl) :
    PE X (.Call (.Name x p) (e :: es) [] pos) (tD sp E t) := by
  obtain ⟨f, fd, F, hm, kp, b⟩ := F.ex
  refine ⟨fun pins s σ H Q I h => (pe_call F (hr.mono hk) hg hm kp b .nil hx ha hdb he hpl).run pins s σ H Q I ?_⟩
  have e2 : (fun (vs : List V) H1 => sp (vs ++ []) H1 Q E) = fun vs H1 => sp vs H1 Q E := by
    funext vs H1
    rw [List.append_nil]
  show t σ H fun vs H1 => sp (vs ++ []) H1 Q E
  rw [e2]
  exact h
/-- f(e, ..), what it raises is wished for at the slots -/
theorem pe_ds {W : WX} (F : Df X.prog X.w X.K X.mg X.base (L2N.CX X.prog X.w) k x ps sp) (hr : Room j X.A) (hk : k ≤ j) (hg : Gl X x) (tk : L2N.Takes X W) (ha : PA X (e :: es) t)
    (hdb : (x == ("__debug__" : Str)) = false := by decide) (he : starEach (e :: es) X.env = (false, eval e X.env) :: starEach es X.env := by rfl) (hpl : (backTo pos (starEach es X.env)).any (·.1) = false := by rfl) :
    PE X (.Call (.Name x p) (e :: es) [] pos) (tCallS sp (WE W) t) := by
  obtain ⟨f, fd, F, hm, kp, b⟩ := F.ex
  exact pe_callS F (hr.mono hk) hg hm kp b (fun σ => L2N.passAt tk σ) ha hdb he hpl
end
/-! ### arguments -/
inductive Arg where
  | non | lst (ds : List PyData) | tup (ns : List Int)
def Arg.d : Arg → PyData
  | .non => .none
  | .lst ds => .list ds
  | .tup ns => .tuple (ns.map .int)
def Arg.small : Arg → Prop
  | .tup ns => ns.length ≤ 1000
  | _ => True
/-- is it an order? -/
def fI (ns : List Int) : Bool := decide (1 ≤ ns.length ∧ ns.length ≤ 30) && (ns.all (fun i => decide (0 ≤ i ∧ i ≤ (ns.length : Int) - 1)) && decide ns.Nodup)
def fO : Arg → Bool
  | .tup ns => fI ns
  | _ => false
def fP : Arg → Bool
  | .tup ns => fI ns && decide (ns.length ≤ 5)
  | _ => false
section
variable {K : PySem.W.Frag} {H H' : Hp}
theorem dall_intsI_inv : ∀ {ns : List Int} {vs : List V}, DpAll K H vs (ns.map PyData.int) → vs = ns.map V.int
  | [], _, h => by cases h; rfl
  | n :: o, _, h => by
    cases h with
    | cons h1 h2 =>
      cases h1
      rw [dall_intsI_inv h2]
      rfl
theorem tup_inv {v : V} {ns : List Int} (h : Dp K H v (Arg.tup ns).d) : ∃ a, v = .ref a ∧ SqT K H a (ns.map V.int) := by
  have h' : Dp K H v (.tuple (ns.map .int)) := h
  cases h' with
  | tup h1 h2 => exact ⟨_, rfl, by rw [← dall_intsI_inv h2]; exact h1⟩
theorem tyT {a : Addr} {xs : List V} (h : SqT K H a xs) : TyX K H (.ref a) (.type "tuple") := by
  rcases h with (h | ⟨o, h⟩) | ⟨o, its, n, h1, h2, _⟩
  · exact .base (.tup h)
  · exact .fTuple h
  · exact .kTuple h1 h2
theorem tyL {a : Addr} {xs : List V} (h : SqL K H a xs) : TyX K H (.ref a) (.type "list") := by
  rcases h with (h | ⟨o, h⟩) | ⟨o, its, n, h1, h2, _⟩
  · exact .base (.lst h)
  · exact .base (.frz h)
  · exact .kList h1 h2
end
theorem kit_tt {K : PySem.W.Frag} : PySem.W.kitOne K (.type "tuple") (.type "tuple") = some true := by first | rfl | exact kit_ty (by decide +kernel) | decide +kernel
theorem kit_lt {K : PySem.W.Frag} : PySem.W.kitOne K (.type "list") (.type "tuple") = some false := by first | rfl | exact kit_ty (by decide +kernel) | decide +kernel
theorem kit_nt {K : PySem.W.Frag} : PySem.W.kitOne K (.type "NoneType") (.type "tuple") = some false := by first | rfl | exact kit_ty (by decide +kernel) | decide +kernel
theorem kit_ii {K : PySem.W.Frag} : PySem.W.kitOne K (.type "int") (.type "int") = some true := by first | rfl | exact kit_ty (by decide +kernel) | decide +kernel
theorem kit_ib {K : PySem.W.Frag} : PySem.W.kitOne K (.type "int") (.type "bool") = some false := by first | rfl | exact kit_ty (by decide +kernel) | decide +kernel
theorem kit_bb {K : PySem.W.Frag} : PySem.W.kitOne K (.type "bool") (.type "bool") = some true := by first | rfl | exact kit_ty (by decide +kernel) | decide +kernel
theorem nodup_len {out ns : List Int} (h : out.Nodup) (hin : ∀ k, k ∈ out ↔ k ∈ ns) : out.length = ns.length ↔ ns.Nodup := by
  constructor
  · intro e
    -- out is a sublist up to order: remove doubles
    have key : ∀ (ns out : List Int), out.Nodup → (∀ k ∈ ns, k ∈ out) → (∀ k ∈ out, k ∈ ns) → out.length ≤ ns.length ∧ (out.length = ns.length → ns.Nodup) := by
      intro ns
      induction ns with
      | nil =>
        intro out hn h1 h2
        cases out with
        | nil => exact ⟨Nat.le_refl _, fun _ => List.nodup_nil⟩
        | cons a r => exact absurd (h2 a List.mem_cons_self) (by simp)
      | cons x ns ih =>
        intro out hn h1 h2
        by_cases hx : x ∈ ns
        · have := (ih out hn (fun k hk => h1 k (List.mem_cons_of_mem _ hk)) (fun k hk => (List.mem_cons.mp (h2 k hk)).elim (fun z => z ▸ hx) id)).1
          exact ⟨by rw [List.length_cons]; omega, fun e => by rw [List.length_cons] at e; omega⟩
        · have hxo : x ∈ out := h1 x List.mem_cons_self
          have hn' : (out.erase x).Nodup := hn.erase x
          have hl : (out.erase x).length = out.length - 1 := List.length_erase_of_mem hxo
          have hp : 0 < out.length := List.length_pos_of_mem hxo
          have z := ih (out.erase x) hn' (fun k hk => (hn.mem_erase_iff).mpr ⟨fun q => hx (q ▸ hk), h1 k (List.mem_cons_of_mem _ hk)⟩) (fun k hk => by
            obtain ⟨k1, k2⟩ := (hn.mem_erase_iff).mp hk
            exact (List.mem_cons.mp (h2 k k2)).elim (fun q => absurd q k1) id)
          refine ⟨by rw [List.length_cons]; omega, fun e => List.nodup_cons.mpr ⟨hx, z.2 (by rw [List.length_cons] at e; omega)⟩⟩
    exact (key ns out h (fun k hk => (hin k).mpr hk) fun k hk => (hin k).mp hk).2 e
  · intro hn
    exact ((List.perm_ext_iff_of_nodup h hn).mpr hin).length_eq
section
variable {P : Program} {w : World} {K : PySem.W.Frag} {mg : Str → Option Value} {base : Heap}
/-! ### is_whole -/
def spWhole : Sp := fun vs H Q _ => ∃ a b c : Int, vs = [.int a, .int b, .int c] ∧ Q (.bl (decide (b ≤ a ∧ a ≤ c))) H
theorem scWhole : FnScope ["value", "low", "high"] ["value", "low", "high"] (defScope sIsWhole) := ⟨rfl, rfl, rfl, by decide +kernel, rfl, by decide +kernel, by decide +kernel⟩
theorem ok_whole {f : Addr} {fd : FuncData} (F : Fun K "is_whole" "is_whole" sIsWhole f fd) (N : Nm mg) : FnOk P w K mg base CX0 1 f fd ["value", "low", "high"] spWhole := by
  refine F.ok scWhole (fun vs H Q E h => ?_) (fun cdv A outer s H vs Q E hr h => ?_)
  · obtain ⟨a, b, c, rfl, _⟩ := h
    rfl
  · obtain ⟨a, b, c, rfl, q⟩ := h
    refine ⟨_, pss_one (ps_ret (pe_and (pe_callB call_isi (by rfl) N.isinst boot_isinstance (pa_cons (pv 0) (pa_cons (pe_bltn (v := .ty "int") (by rfl) N.int boot_int rfl) pa_nil)))
      (pe_and (pe_not (pe_callB call_isi (by rfl) N.isinst boot_isinstance (pa_cons (pv 0) (pa_cons (pe_bltn (v := .ty "bool") (by rfl) N.bool boot_bool rfl) pa_nil))))
        (pe_one (pe_chain op_le op_le (pv 1) (pv 0) (pv 2)))))), ?_⟩
    refine ⟨_, rfl, _, _, _, _, _, rfl, .ty "int", .base (.int a), kit_ii, true, rfl, ?_⟩
    refine iteT ⟨_, rfl, _, _, _, _, _, rfl, .ty "bool", .base (.int a), kit_ib, false, rfl, true, rfl, iteT ?_⟩
    refine ⟨_, rfl, _, rfl, _, _, rfl, rfl, _, rfl, ite2 (fun h1 => ⟨_, rfl, _, _, rfl, rfl, ?_⟩) fun h1 => ?_⟩
    · have e : decide (b ≤ a ∧ a ≤ c) = decide (a ≤ c) := by simp [of_decide_eq_true h1]
      rw [e] at q
      exact q
    · have e : decide (b ≤ a ∧ a ≤ c) = false := by
        have := of_decide_eq_false (by simpa using h1 : decide (b ≤ a) = false)
        simp [this]
      rw [e] at q
      exact q
/-! ### fits_order -/
theorem over {H H1 : Hp} {D : Addr} {o : HO} (hD : H D = none) (s : Same H H1) : Same H (upd H1 D o) := fun b x e => by
  rw [upd_ne (ne_of_none e hD)]
  exact s b x e
theorem thingsE {X : Cx} {pos : Pos} (hg : Gl X "THINGS") (h : ∃ t, X.mg "THINGS" = some (.int 30 t)) : PE X (.Name "THINGS" pos) (tC (.int 30)) := by
  obtain ⟨t, ht⟩ := h
  exact pe_glob hg ht ⟨_, rfl⟩
def tLen (K : PySem.W.Frag) (te : TE) : TE := fun σ H Q => te σ H fun x H1 => ∃ p ys, x = .ref p ∧ (SqL K H1 p ys ∨ SqT K H1 p ys) ∧ Q (.int ys.length) H1
theorem lenE (K : PySem.W.Frag) {X : Cx} {e : Expr} {te : TE} {p pos : Pos} (hg : Gl X "len") (hm : X.mg "len" = none) (he : PE X e te) (hK : X.K = K := by rfl) (hs : starEach (e :: []) X.env = (false, eval e X.env) :: starEach [] X.env := by rfl) (hpl : (backTo pos (starEach [] X.env)).any (·.1) = false := by rfl) :
    PE X (.Call (.Name "len" p) [e] [] pos) (tLen K te) := by
  subst hK
  have q := pe_callB (pos := pos) (p := p) call_len_seq hg hm boot_len (pa_cons he pa_nil (hs := hs)) (he := hs) (hpl := hpl)
  refine ⟨fun pins s σ H Q I h => q.run pins s σ H Q I ?_⟩
  have h' : te σ H fun x H1 => ∃ p ys, x = .ref p ∧ (SqL X.K H1 p ys ∨ SqT X.K H1 p ys) ∧ Q (.int ys.length) H1 := h
  show te σ H fun x H1 => ∃ p ys, [x] = [V.ref p] ∧ (SqL X.K H1 p ys ∨ SqT X.K H1 p ys) ∧ Q (.int ys.length) H1
  have e2 : (fun (x : V) H1 => ∃ p ys, [x] = [V.ref p] ∧ (SqL X.K H1 p ys ∨ SqT X.K H1 p ys) ∧ Q (.int ys.length) H1) = fun x H1 => ∃ p ys, x = .ref p ∧ (SqL X.K H1 p ys ∨ SqT X.K H1 p ys) ∧ Q (.int ys.length) H1 := by
    funext x H1
    simp only [List.cons.injEq, and_true]
  rw [e2]
  exact h'
def spFits (K : PySem.W.Frag) : Sp := fun vs H Q _ => ∃ (v : V) (a : Arg), vs = [v] ∧ Dp K H v a.d ∧ a.small ∧ ∀ H', Same H H' → Q (.bl (fO a)) H'
theorem scFits : FnScope ["value", "thing"] ["value"] (defScope sFits) := ⟨rfl, rfl, rfl, by decide +kernel, rfl, by decide +kernel, by decide +kernel⟩
theorem isT_of {H : Hp} {v : V} {a : Arg} (h : Dp K H v a.d) : ∃ t b, TyX K H v t ∧ PySem.W.kitOne K t (.type "tuple") = some b ∧ (b = true ↔ ∃ ns, a = .tup ns) := by
  cases a with
  | non =>
    have h' : Dp K H v .none := h
    cases h'
    exact ⟨_, false, .base .non, kit_nt, by simp⟩
  | lst ds =>
    have h' : Dp K H v (.list ds) := h
    cases h' with
    | lst h1 h2 => exact ⟨_, false, tyL h1, kit_lt, by simp⟩
  | tup ns =>
    obtain ⟨a, rfl, h1⟩ := tup_inv h
    exact ⟨_, true, tyT h1, kit_tt, by simp⟩
theorem ok_fits {f : Addr} {fd : FuncData} (F : Fun K "fits_order" "fits_order" sFits f fd) (N : Nm mg) (W : Df P w K mg base CX0 1 "is_whole" ["value", "low", "high"] spWhole) : FnOk P w K mg base CX0 2 f fd ["value"] (spFits K) := by
  refine F.ok scFits (fun vs H Q E h => ?_) (fun cdv A outer s H vs Q E hr h => ?_)
  · obtain ⟨v, a, rfl, _⟩ := h
    rfl
  · obtain ⟨v, a, rfl, hd, hsm, q⟩ := h
    refine ⟨_, pss_cons (ps_if (PW.pt (pw_or (pt_not (pt_val (pe_callB call_isi (by rfl) N.isinst boot_isinstance (pa_cons (pv 0) (pa_cons (pe_bltn (v := .ty "tuple") (by rfl) N.tuple boot_tuple rfl) pa_nil)))))
        (pw_or1 (pt_not (pt_chain op_le op_le pe_int (lenE K (by rfl) N.len (pv 0)) (thingsE (by rfl) N.things)))))) (pss_one (ps_ret pe_bl)) pss_nil)
      (pss_cons (ps_if (pt_not (pt_val (pe_callB (cr_all rfl) (by rfl) N.all boot_all (pa_cons
          (pe_lc (own := [("thing", 1)]) (g := gName 1) (tt := tYes) rfl scFits.nd (pi_tup (pv 0)) (blkOk_by (N := ["value", "thing"]) (sc := defScope sFits) (by decide +kernel)) (fun _ _ _ _ _ => pg_name (i := 1) scFits.nd rfl (Or.inl rfl)) (fun _ _ _ _ _ => pts_nil)
            (fun _ _ _ _ _ => by exact pe_d W hr (by decide) (by rfl) pass0 (pa_cons (pv 1) (pa_cons pe_int (pa_cons (pe_op op_sub (by exact lenE K (by rfl) N.len (pv 0)) pe_int) pa_nil))))) pa_nil)))) (pss_one (ps_ret pe_bl)) pss_nil)
      (pss_one (ps_ret (pe_cmpR op_eq (pe_lenSetT (by rfl) N.len (by rfl) N.set (pv 0)) (lenE K (by rfl) N.len (pv 0)) (nomark _))))), ?_⟩
    obtain ⟨t, b, ht, hk, hb⟩ := isT_of hd
    refine ⟨_, rfl, _, _, _, _, _, rfl, .ty "tuple", ht, hk, b, rfl, ?_⟩
    cases b with
    | false =>
      refine iteT (iteT ?_)
      cases a with
      | tup ns => exact absurd (hb.mpr ⟨ns, rfl⟩) (by simp)
      | non => exact q H (Same.refl H)
      | lst ds => exact q H (Same.refl H)
    | true =>
      obtain ⟨ns, rfl⟩ := hb.mp rfl
      obtain ⟨a, rfl, hT⟩ := tup_inv hd
      have hl : (ns.map V.int).length = ns.length := List.length_map ..
      have hsm' : ns.length ≤ 1000 := hsm
      refine iteF ⟨_, rfl, a, _, rfl, .inr hT, _, _, rfl, rfl, _, rfl, ?_⟩
      have qq : ∀ b, fI ns = b → ∀ H', Same H H' → Q (.bl b) H' := fun b e H' s' => by
        have z := q H' s'
        have e2 : fO (.tup ns) = b := e
        rw [e2] at z
        exact z
      refine ite2 (fun h1 => ⟨_, _, rfl, rfl, _, rfl, ?_⟩) fun h1 => ⟨_, rfl, iteT (qq false ?_ H (Same.refl H))⟩
      rotate_left
      · have : ¬ 1 ≤ ns.length := fun z => h1 (decide_eq_true (by rw [hl]; omega))
        unfold fI
        rw [decide_eq_false (by omega), Bool.false_and]
      rw [hl] at h1
      have h1' : 1 ≤ ns.length := by
        have := of_decide_eq_true h1
        omega
      by_cases h2 : ns.length ≤ 30
      rotate_left
      · have e : decide ((((ns.map V.int).length : Nat) : Int) ≤ 30) = false := decide_eq_false (by rw [hl]; omega)
        rw [e]
        refine iteT (qq false ?_ H (Same.refl H))
        unfold fI
        rw [decide_eq_false (by omega), Bool.false_and]
      have e : decide ((((ns.map V.int).length : Nat) : Int) ≤ 30) = true := decide_eq_true (by rw [hl]; omega)
      rw [e]
      refine iteF ?_
      let bs : List Bool := ns.map fun i => decide (0 ≤ i ∧ i ≤ (ns.length : Int) - 1)
      have hbs : bs.length = ns.length := List.length_map ..
      refine ⟨_, rfl, a, rfl, ⟨_, hT⟩, fun D hD => ?_⟩
      refine lc_tup (K := K) (xs := ns.map V.int) (fun i H1 => Same H H1 ∧ H1 D = some (.lst ((bs.take i).map V.bl))) ⟨same_upd hD, by rw [upd_same]; rfl⟩ (fun i H1 _ h => seqT h.1 hT) (fun i x H1 hx h => ?_) fun H1 h => ?_
      · obtain ⟨n, hn, rfl⟩ : ∃ n, ns[i]? = some n ∧ x = .int n := by
          rw [List.getElem?_map] at hx
          cases e : ns[i]? with
          | none => rw [e] at hx; cases hx
          | some n => rw [e] at hx; cases hx; exact ⟨n, rfl, rfl⟩
        have hi : i < ns.length := (List.getElem?_eq_some_iff.mp hn).1
        refine ⟨rfl, ⟨_, rfl, _, rfl, a, _, rfl, .inr (seqT h.1 hT), _, _, rfl, rfl, _, _, _, rfl, _, h.2, ?_, over hD h.1, ?_⟩⟩
        · rw [List.length_map, List.length_take]
          exact small1000 (by omega)
        · rw [upd_same]
          have e3 : bs.take (i + 1) = bs.take i ++ [decide (0 ≤ n ∧ n ≤ (ns.length : Int) - 1)] := by
            rw [List.take_add_one]
            congr 1
            show (bs[i]?).toList = _
            rw [List.getElem?_map, hn]
            rfl
          rw [e3, List.map_append, hl]
          rfl
      · obtain ⟨s1, hD1⟩ := h
        rw [hl, List.take_of_length_le (by omega)] at hD1
        refine ⟨D, bs, rfl, .of hD1, _, rfl, ?_⟩
        cases e4 : bs.all id with
        | false =>
          refine iteT (qq false ?_ H1 s1)
          unfold fI
          have : ns.all (fun i => decide (0 ≤ i ∧ i ≤ (ns.length : Int) - 1)) = false := by
            have z := e4
            rw [show bs.all id = ns.all (fun i => decide (0 ≤ i ∧ i ≤ (ns.length : Int) - 1)) by rw [List.all_map]; rfl] at z
            exact z
          rw [this, Bool.false_and, Bool.and_false]
        | true =>
          refine iteF ⟨_, rfl, a, ns, rfl, seqT s1 hT, hsm', fun out hnd hin => ⟨_, rfl, a, _, rfl, .inr (seqT s1 hT), rfl, ?_⟩⟩
          have hall : ns.all (fun i => decide (0 ≤ i ∧ i ≤ (ns.length : Int) - 1)) = true := by
            have z := e4
            rw [show bs.all id = ns.all (fun i => decide (0 ≤ i ∧ i ≤ (ns.length : Int) - 1)) by rw [List.all_map]; rfl] at z
            exact z
          refine qq _ ?_ H1 s1
          unfold fI
          rw [decide_eq_true ⟨h1', h2⟩, hall, Bool.true_and, Bool.true_and, hl]
          have dd := nodup_len hnd hin
          by_cases hn : ns.Nodup
          · rw [decide_eq_true hn, dd.mpr hn]
            simp
          · rw [decide_eq_false hn]
            have : out.length ≠ ns.length := fun z => hn (dd.mp z)
            refine (decide_eq_false fun z => this ?_).symm
            have z' := V.int.inj z
            omega
end
end Wp
end

section
set_option Elab.async false
set_option linter.all false
set_option maxRecDepth 100000
set_option maxHeartbeats 1000000
/-! fits_pattern, the needs. -/
namespace Wp
open PySem PySem.Spec PyProof.Rows L2 Wq
/-! ### the errors -/
structure Ad where
  (o m n w p ps pl t b : Addr)
inductive Er | ord | many | pat | pats | few
def Ad.at (A : Ad) : Er → Addr
  | .ord => A.o
  | .many => A.m
  | .pat => A.p
  | .pats => A.ps
  | .few => A.t
abbrev veT : List Value := [.type "ValueError", .type "Exception", .type "BaseException", .type "object"]
/-- an own error class without __init__ -/
structure ErC (K : PySem.W.Frag) (mg : Str → Option Value) (x : Str) (C : Addr) : Prop where
  gC : mg x = some (.ref C)
  ex : PySem.W.excIn K C veT "ValueError.__new__" = true
  kC : PySem.W.keepIn K (.ref C) = true
  sb : PySem.W.subIn K (.ref C) (.type "BaseException") = some true
  ty : PySem.W.typeIn K (.ref C) = some (.type "type")
structure Ers (P : Program) (K : PySem.W.Frag) (mg : Str → Option Value) (A : Ad) : Prop where
  o : ErC K mg "InvalidOrder" A.o
  m : ErC K mg "InvalidMany" A.m
  p : ErC K mg "InvalidPattern" A.p
  ps : ErC K mg "InvalidPatterns" A.ps
  t : ∃ fI, TmTxt P K mg A.t fI
def Raise (A : Ad) (er : Er) (H : Hp) (E : XK) : Prop := ∀ H' d, Same H H' → DictAt d H' → E (.ref (A.at er)) d H'
theorem Raise.mono {A : Ad} {er : Er} {H H1 : Hp} {E : XK} (s : Same H H1) (r : Raise A er H E) : Raise A er H1 E := fun H' d s' h => r H' d (s.trans s') h
/-- raise X('..') -/
theorem ps_er {X : Cx} {W : WX} {x m : Str} {C : Addr} {j : Nat} {p p2 pos pos2 : Pos} (F : ErC X.K X.mg x C) (hc : X.calm = true) (tk : L2N.Takes X W) (hg : Gl X x) (hdb : (x == ("__debug__" : Str)) = false := by decide) :
    PS X (.Raise (some (.Call (.Name x p) [.Constant (.str m) j p2] [] pos)) none pos2) (fun _ σ H => W (.ref C) none σ H) :=
  L2N.ps_raise hc tk (L2N.pmk_own PySem.F.excBase_ValueError F.ex F.gC F.kC (raises_own F.sb F.ty) hg hdb)
section
variable {P : Program} {w : World} {K : PySem.W.Frag} {mg : Str → Option Value} {base : Heap} {A : Ad}
theorem okN {x qual : Str} {st : Stmt} {f : Addr} {fd : FuncData} {N ps : List Str} {k : Nat} {sp : Sp} (F : Fun K x qual st f fd) (S : FnScope N ps (defScope st)) (len : ∀ vs H Q E, sp vs H Q E → vs.length = ps.length)
    (hbody : ∀ (cdv : Value) (A : Around) (outer : List Env) (s : Shared) (H : Hp) (vs : List V) (Q : VK) (E : XK), Room k (A.deeper (envOfC qual (defScope st) s.heap.objs.size f cdv)) → sp vs H Q E →
      ∃ t, PSs (cxOf (L2N.CX P w) P w K mg base N qual (defScope st) f cdv A outer s H E) (defBody st) t ∧ t { nx := fun _ H' => Q .non H', rt := Q } (L2.start N vs) H) : FnOk P w K mg base (L2N.CX P w) (k + 1) f fd ps sp := by
  obtain ⟨oc, od, kV, doc, pm, an, cdv, ct, osl, rfl, lk, hcd⟩ := F.ex
  exact fn_of lk hcd S len fun A outer s H vs Q E hr hsp => hbody cdv A outer s H vs Q E hr hsp
/-! ### fits_pattern -/
def spFitsP (K : PySem.W.Frag) : Sp := fun vs H Q _ => ∃ (v : V) (a : Arg), vs = [v] ∧ Dp K H v a.d ∧ a.small ∧ ∀ H', Same H H' → Q (.bl (fP a)) H'
theorem scFitsP : FnScope ["value"] ["value"] (defScope sFitsP) := ⟨rfl, rfl, rfl, by decide +kernel, rfl, by decide +kernel, by decide +kernel⟩
theorem ok_fitsP {f : Addr} {fd : FuncData} (F : Fun K "fits_pattern" "fits_pattern" sFitsP f fd) (N : Nm mg) (D : Df P w K mg base CX0 2 "fits_order" ["value"] (spFits K)) : FnOk P w K mg base CX0 3 f fd ["value"] (spFitsP K) := by
  refine F.ok scFitsP (fun vs H Q E h => ?_) (fun cdv A outer s H vs Q E hr h => ?_)
  · obtain ⟨v, a, rfl, _⟩ := h
    rfl
  · obtain ⟨v, a, rfl, hd, hsm, q⟩ := h
    refine ⟨_, pss_one (ps_ret (pe_and (pe_d D hr (by decide) (by rfl) pass0 (pa_cons (pv 0) pa_nil)) (pe_one (pe_cmpR op_le (lenE K (by rfl) N.len (pv 0)) pe_int (nomark _))))), ?_⟩
    refine ⟨_, rfl, v, a, rfl, hd, hsm, fun H' s' => ⟨_, rfl, ?_⟩⟩
    have qq := q H' s'
    cases e : fO a with
    | false =>
      refine iteF ?_
      have e2 : fP a = false := by
        cases a with
        | tup ns =>
          have e' : fI ns = false := e
          show (fI ns && _) = false
          rw [e', Bool.false_and]
        | non => rfl
        | lst ds => rfl
      rw [e2] at qq
      exact qq
    | true =>
      refine iteT ?_
      cases a with
      | non => cases e
      | lst ds => cases e
      | tup ns =>
        obtain ⟨p, rfl, hT⟩ := tup_inv (dmn s' hd)
        refine ⟨_, rfl, p, _, rfl, .inr hT, _, _, rfl, rfl, ?_⟩
        have e' : fI ns = true := e
        have e2 : fP (.tup ns) = decide ((((ns.map V.int).length : Nat) : Int) ≤ 5) := by
          show (fI ns && decide (ns.length ≤ 5)) = _
          rw [e', Bool.true_and, List.length_map]
          by_cases h : ns.length ≤ 5
          · rw [decide_eq_true h, decide_eq_true (by omega)]
          · rw [decide_eq_false h, decide_eq_false (by omega)]
        rw [e2] at qq
        exact qq
/-! ### need_order, need_many, need_few, need_pattern -/
def spNeedA (K : PySem.W.Frag) (A : Ad) (er : Er) (ok : Arg → Bool) : Sp := fun vs H Q E => ∃ (v : V) (a : Arg), vs = [v] ∧ Dp K H v a.d ∧ a.small ∧ (ok a = false → Raise A er H E) ∧ (ok a = true → ∀ H', Same H H' → Q .non H')
theorem scNeedO : FnScope ["value"] ["value"] (defScope sNeedOrder) := ⟨rfl, rfl, rfl, by decide +kernel, rfl, by decide +kernel, by decide +kernel⟩
theorem ok_needO {f : Addr} {fd : FuncData} (F : Fun K "need_order" "need_order" sNeedOrder f fd) (T : Ers P K mg A) (D : Df P w K mg base CX0 2 "fits_order" ["value"] (spFits K)) : FnOk P w K mg base (L2N.CX P w) 3 f fd ["value"] (spNeedA K A .ord fO) := by
  refine okN F scNeedO (fun vs H Q E h => ?_) (fun cdv A' outer s H vs Q E hr h => ?_)
  · obtain ⟨v, a, rfl, _⟩ := h
    rfl
  · obtain ⟨v, a, rfl, hd, hsm, q1, q2⟩ := h
    refine ⟨_, pss_one (ps_if (pt_not (pt_val (pe_d D hr (by decide) (by rfl) pass0 (pa_cons (pv 0) pa_nil)))) (pss_one (ps_er T.o rfl (L2N.takes_of rfl rfl rfl rfl) (by rfl))) pss_nil), ?_⟩
    refine ⟨_, rfl, v, a, rfl, hd, hsm, fun H' s' => ⟨_, rfl, ?_⟩⟩
    cases e : fO a with
    | false => exact iteT (q1 e H' none s' (.inl rfl))
    | true => exact iteF (q2 e H' s')
theorem scNeedP : FnScope ["value"] ["value"] (defScope sNeedP) := ⟨rfl, rfl, rfl, by decide +kernel, rfl, by decide +kernel, by decide +kernel⟩
theorem ok_needP {f : Addr} {fd : FuncData} (F : Fun K "need_pattern" "need_pattern" sNeedP f fd) (T : Ers P K mg A) (D : Df P w K mg base CX0 3 "fits_pattern" ["value"] (spFitsP K)) : FnOk P w K mg base (L2N.CX P w) 4 f fd ["value"] (spNeedA K A .pat fP) := by
  refine okN F scNeedP (fun vs H Q E h => ?_) (fun cdv A' outer s H vs Q E hr h => ?_)
  · obtain ⟨v, a, rfl, _⟩ := h
    rfl
  · obtain ⟨v, a, rfl, hd, hsm, q1, q2⟩ := h
    refine ⟨_, pss_one (ps_if (pt_not (pt_val (pe_d D hr (by decide) (by rfl) pass0 (pa_cons (pv 0) pa_nil)))) (pss_one (ps_er T.p rfl (L2N.takes_of rfl rfl rfl rfl) (by rfl))) pss_nil), ?_⟩
    refine ⟨_, rfl, v, a, rfl, hd, hsm, fun H' s' => ⟨_, rfl, ?_⟩⟩
    cases e : fP a with
    | false => exact iteT (q1 e H' none s' (.inl rfl))
    | true => exact iteF (q2 e H' s')
def spNeedM (A : Ad) : Sp := fun vs H Q E => ∃ n : Int, vs = [.int n] ∧ (¬ (1 ≤ n ∧ n ≤ 30) → Raise A .many H E) ∧ (1 ≤ n ∧ n ≤ 30 → Q .non H)
theorem scNeedM : FnScope ["value"] ["value"] (defScope sNeedMany) := ⟨rfl, rfl, rfl, by decide +kernel, rfl, by decide +kernel, by decide +kernel⟩
theorem ok_needM {f : Addr} {fd : FuncData} (F : Fun K "need_many" "need_many" sNeedMany f fd) (T : Ers P K mg A) (N : Nm mg) (D : Df P w K mg base CX0 1 "is_whole" ["value", "low", "high"] spWhole) : FnOk P w K mg base (L2N.CX P w) 2 f fd ["value"] (spNeedM A) := by
  refine okN F scNeedM (fun vs H Q E h => ?_) (fun cdv A' outer s H vs Q E hr h => ?_)
  · obtain ⟨n, rfl, _⟩ := h
    rfl
  · obtain ⟨n, rfl, q1, q2⟩ := h
    refine ⟨_, pss_one (ps_if (pt_not (pt_val (pe_d D hr (by decide) (by rfl) pass0 (pa_cons (pv 0) (pa_cons pe_int (pa_cons (thingsE (by rfl) N.things) pa_nil)))))) (pss_one (ps_er T.m rfl (L2N.takes_of rfl rfl rfl rfl) (by rfl))) pss_nil), ?_⟩
    refine ⟨_, rfl, n, 1, 30, rfl, _, rfl, ?_⟩
    by_cases h : 1 ≤ n ∧ n ≤ 30
    · rw [decide_eq_true h]
      exact iteF (q2 h)
    · rw [decide_eq_false h]
      exact iteT (q1 h H none (Same.refl H) (.inl rfl))
def spNeedF (A : Ad) : Sp := fun vs H Q E => ∃ n l : Int, vs = [.int n, .int l] ∧ (l < n → Raise A .few H E) ∧ (n ≤ l → Q .non H)
theorem scNeedF : FnScope ["many", "limit"] ["many", "limit"] (defScope sNeedFew) := ⟨rfl, rfl, rfl, by decide +kernel, rfl, by decide +kernel, by decide +kernel⟩
theorem ok_needF {f : Addr} {fd : FuncData} (F : Fun K "need_few" "need_few" sNeedFew f fd) (T : Ers P K mg A) : FnOk P w K mg base (L2N.CX P w) 2 f fd ["many", "limit"] (spNeedF A) := by
  refine okN F scNeedF (fun vs H Q E h => ?_) (fun cdv A' outer s H vs Q E hr h => ?_)
  · obtain ⟨n, l, rfl, _⟩ := h
    rfl
  · obtain ⟨n, l, rfl, q1, q2⟩ := h
    obtain ⟨fI, TT⟩ := T.t
    refine ⟨_, pss_one (ps_if (pt_cmpR op_gt (pv 0) (pv 1) (nomark _)) (pss_one (L2N.ps_raise rfl (L2N.takes_of rfl rfl rfl rfl) (pmk_tm TT hr (pa_cons (pv 1) pa_nil)))) pss_nil), ?_⟩
    refine ⟨_, rfl, _, rfl, _, _, rfl, rfl, _, rfl, ite2 (fun h1 => ⟨_, rfl, _, rfl, fun d hd => ?_⟩) fun h1 => q2 ?_⟩
    · exact q1 (by simpa using h1) _ _ (same_upd hd) (.inr ⟨d, _, rfl, upd_same⟩)
    · have : ¬ (l < n) := fun z => h1 (decide_eq_true z)
      omega
end
end Wp
end

section
set_option Elab.async false
set_option linter.all false
set_option maxRecDepth 100000
set_option maxHeartbeats 1000000
/-! need_patterns; opposite, turned_about, turned_over. -/
namespace Wp
open PySem PySem.Spec PyProof.Rows L2 Wq
open WiM (Ord inv inv_len)
/-! ### a comprehension over enumerate of a tuple -/
theorem lc_enumT {K : PySem.W.Frag} {a : Addr} {xs : List V} {g : TG} {tt : TT} {te : TE} {vs : List Nat} {σ : L2.St} {H1 : Hp} {D : Addr} {Qd : Hp → Prop} (Pv : Nat → Hp → Prop) (h0 : Pv 0 (upd H1 D (.lst []))) (hl : ∀ i H, i ≤ xs.length → Pv i H → SqT K H a xs)
    (hs : ∀ i x T H, xs[i]? = some x → Pv i H → H T = none → g (.ref T) (wipe σ vs) (upd H T (.tup [.int (i : Nat), x])) fun σ2 H2 => wipe σ2 vs = wipe σ vs ∧ tt σ2 H2 fun b H3 =>
      if b = true then te σ2 H3 fun y H4 => ∃ acc, H4 D = some (.lst acc) ∧ acc.length < sizeLine ∧ Pv (i + 1) (upd H4 D (.lst (acc ++ [y]))) else Pv (i + 1) H3) (hd : ∀ H, Pv xs.length H → Qd H) :
    ∃ W : Nat → Nat → Hp → Prop, (∃ m, W 0 m (upd H1 D (.lst []))) ∧ ∀ i m H, W i m H →
      ((IteT K a).stop i H ∧ Qd H) ∨ ((IteT K a).go i H ∧ ∃ Nx : Hp → Prop, (∀ H', Nx H' → ∃ m', m' < m ∧ W (i + 1) m' H') ∧ ∀ x H', (IteT K a).yld i H x H' → g x (wipe σ vs) H' fun σ2 H2 => wipe σ2 vs = wipe σ vs ∧ tt σ2 H2 fun b H3 =>
        if b = true then te σ2 H3 fun y H4 => ∃ acc, H4 D = some (.lst acc) ∧ acc.length < sizeLine ∧ Nx (upd H4 D (.lst (acc ++ [y]))) else Nx H3) := by
  refine ⟨fun i m H => m = xs.length - i ∧ i ≤ xs.length ∧ Pv i H, ⟨xs.length, by simp, Nat.zero_le _, h0⟩, ?_⟩
  rintro i m H ⟨rfl, hi, p⟩
  have q := hl i H hi p
  by_cases hlt : i < xs.length
  · refine .inr ⟨⟨xs, xs[i], q, List.getElem?_eq_getElem hlt⟩, Pv (i + 1), fun H' h' => ⟨xs.length - (i + 1), by omega, rfl, by omega, h'⟩, fun x H' y => ?_⟩
    obtain ⟨T, x', rfl, hT, rfl, hx⟩ := y
    have e := hx xs q
    exact hs i x' T H e p hT
  · have e : i = xs.length := by omega
    subst e
    exact .inl ⟨⟨xs, q, Nat.le_refl _⟩, hd H p⟩
/-! ### patterns' arguments -/
inductive PArg where
  | non | lst (ds : List PyData) | tup (as : List Arg)
def PArg.d : PArg → PyData
  | .non => .none
  | .lst ds => .list ds
  | .tup as => .tuple (as.map Arg.d)
def PArg.small : PArg → Prop
  | .tup as => as.length ≤ 100 ∧ ∀ a ∈ as, a.small
  | _ => True
def fPs : PArg → Bool
  | .tup as => decide (1 ≤ as.length ∧ as.length ≤ 6) && as.all fP
  | _ => false
section
variable {P : Program} {w : World} {K : PySem.W.Frag} {mg : Str → Option Value} {base : Heap} {A : Ad}
theorem isTP_of {H : Hp} {v : V} {a : PArg} (h : Dp K H v a.d) : ∃ t b, TyX K H v t ∧ PySem.W.kitOne K t (.type "tuple") = some b ∧ (b = true ↔ ∃ as, a = .tup as) := by
  cases a with
  | non =>
    have h' : Dp K H v .none := h
    cases h'
    exact ⟨_, false, .base .non, kit_nt, by simp⟩
  | lst ds =>
    have h' : Dp K H v (.list ds) := h
    cases h' with
    | lst h1 h2 => exact ⟨_, false, tyL h1, kit_lt, by simp⟩
  | tup as =>
    have h' : Dp K H v (.tuple (as.map Arg.d)) := h
    cases h' with
    | tup h1 h2 => exact ⟨_, true, tyT h1, kit_tt, by simp⟩
theorem ptup_inv {H : Hp} {v : V} {as : List Arg} (h : Dp K H v (PArg.tup as).d) : ∃ a xs, v = .ref a ∧ SqT K H a xs ∧ DpAll K H xs (as.map Arg.d) := by
  have h' : Dp K H v (.tuple (as.map Arg.d)) := h
  cases h' with
  | tup h1 h2 => exact ⟨_, _, rfl, h1, h2⟩
theorem args_get {H : Hp} {xs : List V} {as : List Arg} {i : Nat} {x : V} (h : DpAll K H xs (as.map Arg.d)) (e : xs[i]? = some x) : ∃ a, as[i]? = some a ∧ Dp K H x a.d := by
  obtain ⟨d, h1, h2⟩ := dall_get h e
  rw [List.getElem?_map] at h1
  cases q : as[i]? with
  | none => rw [q] at h1; cases h1
  | some o => rw [q] at h1; cases h1; exact ⟨o, rfl, h2⟩
theorem take_snoc {α β : Type} (f : α → β) {l : List α} {i : Nat} {x : α} (h : l[i]? = some x) : (l.map f).take (i + 1) = (l.map f).take i ++ [f x] := by
  rw [List.take_add_one, List.getElem?_map, h]
  rfl
def spNeedPs (K : PySem.W.Frag) (A : Ad) : Sp := fun vs H Q E => ∃ (v : V) (a : PArg), vs = [v] ∧ Dp K H v a.d ∧ a.small ∧ (fPs a = false → Raise A .pats H E) ∧ (fPs a = true → ∀ H', Same H H' → Q .non H')
theorem scNeedPs : FnScope ["value", "one"] ["value"] (defScope sNeedPs) := ⟨rfl, rfl, rfl, by decide +kernel, rfl, by decide +kernel, by decide +kernel⟩
theorem ok_needPs {f : Addr} {fd : FuncData} (F : Fun K "need_patterns" "need_patterns" sNeedPs f fd) (T : Ers P K mg A) (N : Nm mg) (D : Df P w K mg base CX0 3 "fits_pattern" ["value"] (spFitsP K)) : FnOk P w K mg base (L2N.CX P w) 4 f fd ["value"] (spNeedPs K A) := by
  refine okN F scNeedPs (fun vs H Q E h => ?_) (fun cdv A' outer s H vs Q E hr h => ?_)
  · obtain ⟨v, a, rfl, _⟩ := h
    rfl
  · obtain ⟨v, a, rfl, hd, hsm, q1, q2⟩ := h
    refine ⟨_, pss_one (ps_if (PW.pt (pw_or (pt_not (pt_val (pe_callB call_isi (by rfl) N.isinst boot_isinstance (pa_cons (pv 0) (pa_cons (pe_bltn (v := .ty "tuple") (by rfl) N.tuple boot_tuple rfl) pa_nil)))))
        (pw_or (pt_not (pt_chain op_le op_le pe_int (lenE K (by rfl) N.len (pv 0)) pe_int))
        (pw_or1 (pt_not (pt_val (pe_callB (cr_all rfl) (by rfl) N.all boot_all (pa_cons
          (pe_lc (own := [("one", 1)]) (g := gName 1) (tt := tYes) rfl scNeedPs.nd (pi_tup (pv 0)) (blkOk_by (N := ["value", "one"]) (sc := defScope sNeedPs) (by decide +kernel)) (fun _ _ _ _ _ => pg_name (i := 1) scNeedPs.nd rfl (Or.inl rfl)) (fun _ _ _ _ _ => pts_nil)
            (fun _ _ _ _ _ => by exact pe_d D hr (by decide) (by rfl) pass0 (pa_cons (pv 1) pa_nil))) pa_nil))))))))
        (pss_one (ps_er T.ps rfl (L2N.takes_of rfl rfl rfl rfl) (by rfl))) pss_nil), ?_⟩
    obtain ⟨t, b, ht, hk, hb⟩ := isTP_of hd
    refine ⟨_, rfl, _, _, _, _, _, rfl, .ty "tuple", ht, hk, b, rfl, ?_⟩
    cases b with
    | false =>
      refine iteT (iteT ?_)
      cases a with
      | tup as => exact absurd (hb.mpr ⟨as, rfl⟩) (by simp)
      | non => exact q1 rfl H none (Same.refl H) (.inl rfl)
      | lst ds => exact q1 rfl H none (Same.refl H) (.inl rfl)
    | true =>
      obtain ⟨as, rfl⟩ := hb.mp rfl
      obtain ⟨p, xs, rfl, hT, hA⟩ := ptup_inv hd
      have hl : xs.length = as.length := by rw [dall_len hA, List.length_map]
      obtain ⟨hs1, hs2⟩ := hsm
      have no : fPs (.tup as) = false → ∀ H', Same H H' → E (.ref A.ps) none H' := fun e H' s' => q1 e H' none s' (.inl rfl)
      refine iteF ⟨_, rfl, p, _, rfl, .inr hT, _, _, rfl, rfl, _, rfl, ?_⟩
      rw [hl]
      by_cases h1 : 1 ≤ as.length
      rotate_left
      · rw [decide_eq_false (by omega)]
        refine iteF ⟨_, rfl, iteT (iteT (no ?_ H (Same.refl H)))⟩
        show (decide (1 ≤ as.length ∧ as.length ≤ 6) && _) = false
        rw [decide_eq_false (by omega), Bool.false_and]
      rw [decide_eq_true (by omega)]
      refine iteT ⟨_, _, rfl, rfl, _, rfl, ?_⟩
      by_cases h2 : as.length ≤ 6
      rotate_left
      · rw [decide_eq_false (by omega)]
        refine iteT (iteT (no ?_ H (Same.refl H)))
        show (decide (1 ≤ as.length ∧ as.length ≤ 6) && _) = false
        rw [decide_eq_false (by omega), Bool.false_and]
      rw [decide_eq_true (by omega)]
      refine iteF ?_
      have hfp : fPs (.tup as) = (as.map fP).all id := by
        show (decide (1 ≤ as.length ∧ as.length ≤ 6) && as.all fP) = _
        rw [decide_eq_true ⟨h1, h2⟩, Bool.true_and, List.all_map]
        rfl
      refine ⟨_, rfl, p, rfl, ⟨_, hT⟩, fun D hD => ?_⟩
      refine lc_tup (K := K) (xs := xs) (fun i H1 => Same H H1 ∧ H1 D = some (.lst (((as.map fP).take i).map V.bl))) ⟨same_upd hD, by rw [upd_same]; rfl⟩ (fun i H1 _ h => seqT h.1 hT) (fun i x H1 hx h => ?_) fun H1 h => ?_
      · obtain ⟨a, ha, hda⟩ := args_get hA hx
        have hi : i < as.length := (List.getElem?_eq_some_iff.mp ha).1
        refine ⟨rfl, ⟨_, rfl, _, a, rfl, dmn h.1 hda, hs2 a (List.mem_of_getElem? ha), fun H2 s2 => ⟨_, s2 _ _ h.2, ?_, over hD (h.1.trans s2), ?_⟩⟩⟩
        · rw [List.length_map, List.length_take]
          exact small1000 (by omega)
        · rw [upd_same, take_snoc fP ha, List.map_append]
          rfl
      · obtain ⟨s1, hD1⟩ := h
        rw [List.take_of_length_le (by rw [List.length_map]; omega)] at hD1
        refine ⟨D, _, rfl, .of hD1, _, rfl, ?_⟩
        cases e4 : (as.map fP).all id with
        | false => exact iteT (no (by rw [hfp]; exact e4) H1 s1)
        | true => exact iteF (q2 (by rw [hfp]; exact e4) H1 s1)
/-! ### orders as arguments -/
theorem all_nat {o : List Nat} : (o.map fun (n : Nat) => (n : Int)).Nodup ↔ o.Nodup := by
  constructor
  · intro h
    exact (List.pairwise_map.mp h).imp fun {a b} q e => q (by rw [e])
  · intro h
    exact List.pairwise_map.mpr (h.imp fun {a b} q e => q (by omega))
def argO (o : List Nat) : Arg := .tup (o.map fun (n : Nat) => (n : Int))
theorem argO_d (o : List Nat) : (argO o).d = dO o := by
  show PyData.tuple ((o.map fun (n : Nat) => (n : Int)).map PyData.int) = PyData.tuple _
  rw [List.map_map]
  rfl
theorem fO_of {o : List Nat} (h : Ord o) (h1 : 1 ≤ o.length) (h2 : o.length ≤ 30) : fO (argO o) = true := by
  show fI (o.map fun (n : Nat) => (n : Int)) = true
  unfold fI
  rw [List.length_map, decide_eq_true ⟨h1, h2⟩, decide_eq_true (all_nat.mpr h.nd), Bool.true_and, Bool.and_true, List.all_eq_true]
  intro x hx
  obtain ⟨n, hn, rfl⟩ := List.mem_map.mp hx
  have := h.lt n hn
  exact decide_eq_true (by omega)
theorem fP_of {o : List Nat} (h : Ord o) (h1 : 1 ≤ o.length) (h2 : o.length ≤ 5) : fP (argO o) = true := by
  show (fI (o.map fun (n : Nat) => (n : Int)) && decide ((o.map fun (n : Nat) => (n : Int)).length ≤ 5)) = true
  have e : fI (o.map fun (n : Nat) => (n : Int)) = true := fO_of h h1 (by omega)
  rw [e, Bool.true_and, List.length_map, decide_eq_true h2]
theorem smallO {o : List Nat} (h : o.length ≤ 1000) : (argO o).small := by
  show (o.map fun (n : Nat) => (n : Int)).length ≤ 1000
  rw [List.length_map]
  exact h
end
end Wp
end

section
set_option Elab.async false
set_option linter.all false
set_option maxRecDepth 100000
set_option maxHeartbeats 1000000
/-! opposite, turned_about, turned_over. -/
namespace Wp
open PySem PySem.Spec PyProof.Rows L2 Wq
open WiM (Ord inv inv_len turn)
section
variable {P : Program} {w : World} {K : PySem.W.Frag} {mg : Str → Option Value} {base : Heap} {A : Ad}
/-- from an order to a new one -/
def spMap (K : PySem.W.Frag) (g : List Nat → List Nat) : Sp := fun vs H Q _ => ∃ (v : V) (o : List Nat), vs = [v] ∧ Dp K H v (dO o) ∧ Ord o ∧ 1 ≤ o.length ∧ o.length ≤ 30 ∧ ∀ H' p, Same H H' → H' p = some (.tup (vN (g o))) → Q (.ref p) H'
theorem paired_app {α β : Type} {F : α → β → Prop} : ∀ {l1 : List α} {m1 : List β} {l2 : List α} {m2 : List β}, Paired F l1 m1 → Paired F l2 m2 → Paired F (l1 ++ l2) (m1 ++ m2)
  | _, _, _, _, .nil, s => s
  | _, _, _, _, .cons r t, s => .cons r (paired_app t s)
/-! ### opposite_of -/
/-- the pairs of things and places -/
def pairs (o : List Nat) : List (Key × V) := o.zipIdx.map fun q => (Sum.inl (q.1 : Int), V.int (q.2 : Int))
theorem pairs_len (o : List Nat) : (pairs o).length = o.length := by simp [pairs]
theorem pairs_at {o : List Nat} {i n : Nat} (h : o[i]? = some n) : (pairs o)[i]? = some (Sum.inl (n : Int), V.int (i : Int)) := by
  unfold pairs
  rw [List.getElem?_map, List.getElem?_zipIdx, h]
  simp
theorem merge_new : ∀ (more kvs : List (Key × V)), ((kvs ++ more).map (·.1)).Nodup → mergeK kvs more = kvs ++ more
  | [], kvs, _ => by simp [mergeK]
  | p :: more, kvs, h => by
    have hn : valV kvs p.1 = none := by
      cases e : valV kvs p.1 with
      | none => rfl
      | some v =>
        have := valV_in e
        rw [List.map_append, List.nodup_append] at h
        exact absurd rfl (h.2.2 p.1 this p.1 (by simp))
    show mergeK (putK kvs p.1 p.2) more = _
    rw [putK_new _ hn, merge_new more (kvs ++ [(p.1, p.2)]) (by simpa using h)]
    simp
theorem pairs_nodup {o : List Nat} (h : o.Nodup) : ((pairs o).map (·.1)).Nodup := by
  have e : (pairs o).map (·.1) = o.map fun (n : Nat) => (Sum.inl (n : Int) : Key) := by
    apply List.ext_getElem?
    intro i
    rw [List.getElem?_map, List.getElem?_map]
    cases q : o[i]? with
    | none =>
      have : (pairs o)[i]? = none := List.getElem?_eq_none_iff.mpr (by rw [pairs_len]; exact List.getElem?_eq_none_iff.mp q)
      rw [this]
      rfl
    | some n => rw [pairs_at q]; rfl
  rw [e]
  exact List.pairwise_map.mpr (h.imp fun {a b} q z => q (by
    have := Sum.inl.inj z
    omega))
theorem pairs_val {o : List Nat} (h : o.Nodup) {v : Nat} (hv : v ∈ o) : valV (mergeK [] (pairs o)) (Sum.inl (v : Int)) = some (.int (o.idxOf v : Nat)) := by
  rw [merge_new _ _ (by simpa using pairs_nodup h), List.nil_append]
  have hi : o.idxOf v < o.length := List.idxOf_lt_length_of_mem hv
  have e : o[o.idxOf v]? = some v := by rw [List.getElem?_eq_getElem hi, List.getElem_idxOf hi]
  exact val_nodup (pairs_nodup h) _ (List.mem_of_getElem? (pairs_at e))
theorem scOppOf : FnScope ["order", "places", "place", "thing"] ["order"] (defScope sOppOf) := ⟨rfl, rfl, rfl, by decide +kernel, rfl, by decide +kernel, by decide +kernel⟩
theorem ok_oppOf {f : Addr} {fd : FuncData} (F : Fun K "opposite_of" "opposite_of" sOppOf f fd) (N : Nm mg) : FnOk P w K mg base CX0 1 f fd ["order"] (spMap K inv) := by
  refine F.ok scOppOf (fun vs H Q E h => ?_) (fun cdv A' outer s H vs Q E hr h => ?_)
  · obtain ⟨v, a, rfl, _⟩ := h
    rfl
  · obtain ⟨v, o, rfl, hd, hO, h1, h2, q⟩ := h
    obtain ⟨a, rfl, hT⟩ := dO_inv hd
    refine ⟨_, pss_cons (ps_set (i := 1) scOppOf.nd rfl (Or.inr rfl) (pe_callTy (call_dictP rfl) (by rfl) N.dict boot_dict (pa_cons
        (pe_lc (own := [("place", 2), ("thing", 3)]) (g := gTup K 2 (gCons (gName 2) (gCons (gName 3) gNil))) (tt := tYes) rfl scOppOf.nd (pi_enumT (by rfl) N.enumerate (pa_cons (pv 0) pa_nil)) (blkOk_by (N := ["order", "places", "place", "thing"]) (sc := defScope sOppOf) (by decide +kernel))
          (fun _ _ _ _ _ => by exact pg_tup rfl (pgs_cons (pg_name (i := 2) scOppOf.nd rfl (Or.inl rfl)) (pgs_cons (pg_name (i := 3) scOppOf.nd rfl (Or.inl rfl)) pgs_nil))) (fun _ _ _ _ _ => pts_nil)
          (fun _ _ _ _ _ => by exact pe_tup (pa_cons (pv 3) (pa_cons (pv 2) pa_nil)))) pa_nil)))
      (pss_one (ps_ret (pe_callTy call_tuple_of (by rfl) N.tuple boot_tuple (pa_cons
        (pe_lc (own := [("thing", 3)]) (g := gName 3) (tt := tYes) rfl scOppOf.nd (pi_range1 (by rfl) N.range (pa_cons (lenE K (by rfl) N.len (pv 0)) pa_nil)) (blkOk_by (N := ["order", "places", "place", "thing"]) (sc := defScope sOppOf) (by decide +kernel))
          (fun _ _ _ _ _ => pg_name (i := 3) scOppOf.nd rfl (Or.inl rfl)) (fun _ _ _ _ _ => pts_nil)
          (fun _ _ _ _ _ => by exact pe_dget (hu_of hr) (pv 1) (pv 3) (fun _ _ => rfl))) pa_nil)))), ?_⟩
    have hlo : (vN o).length = o.length := vN_len o
    refine ⟨_, rfl, a, _, rfl, hT, fun D hD => ?_⟩
    refine lc_enumT (K := K) (xs := vN o) (fun i H1 => Same H H1 ∧ ∃ ps : List Addr, ps.length = i ∧ H1 D = some (.lst (ps.map V.ref)) ∧ Paired (fun p (kv : Key × V) => SqT K H1 p [kV kv.1, kv.2]) ps ((pairs o).take i)) ⟨same_upd hD, [], rfl, by rw [upd_same]; rfl, by rw [List.take_zero]; exact .nil⟩ (fun i H1 _ h => seqT h.1 hT) (fun i x T H1 hx h hTn => ?_) fun H1 h => ?_
    · obtain ⟨s1, ps, hl, hD1, hP⟩ := h
      obtain ⟨n, hn, rfl⟩ := vN_get hx
      have hi : i < o.length := (List.getElem?_eq_some_iff.mp hn).1
      refine ⟨T, _, rfl, .of upd_same, rfl, _, _, rfl, _, _, rfl, rfl, rfl, ?_⟩
      refine ⟨_, rfl, _, rfl, by show 2 ≤ sizeLine; decide, fun p hp => ?_⟩
      have hDT : D ≠ T := ne_of_none hD1 hTn
      have hDp : D ≠ p := ne_of_none (show (upd H1 T _) D = _ by rw [upd_ne hDT]; exact hD1) hp
      have s2 : Same H1 (upd (upd H1 T (.tup [.int (i : Nat), .int n])) p (.tup [.int n, .int (i : Nat)])) := (same_upd hTn).trans (same_upd hp)
      refine ⟨_, by rw [upd_ne hDp, upd_ne hDT]; exact hD1, by rw [List.length_map]; exact small1000 (by omega), ?_⟩
      have s3 : Same H (upd (upd (upd H1 T (.tup [.int (i : Nat), .int n])) p (.tup [.int n, .int (i : Nat)])) D (.lst (ps.map V.ref ++ [.ref p]))) := over hD (s1.trans s2)
      refine ⟨s3, ps ++ [p], by rw [List.length_append, hl]; rfl, by rw [upd_same, List.map_append]; rfl, ?_⟩
      have tups : ∀ {b : Addr} {xs : List V}, SqT K (upd (upd H1 T (.tup [.int (i : Nat), .int n])) p (.tup [.int n, .int (i : Nat)])) b xs → SqT K (upd (upd (upd H1 T (.tup [.int (i : Nat), .int n])) p (.tup [.int n, .int (i : Nat)])) D (.lst (ps.map V.ref ++ [.ref p]))) b xs := fun {b xs} hb => by
        have nb : ∀ {u : HO}, (upd (upd H1 T (.tup [.int (i : Nat), .int n])) p (.tup [.int n, .int (i : Nat)])) b = some u → u ≠ .lst (ps.map V.ref) → b ≠ D := fun {u} e ne z => by
          rw [z, upd_ne hDp, upd_ne hDT, hD1] at e
          exact ne (Option.some.inj e).symm
        rcases hb with (hb | ⟨ob, hb⟩) | hb
        · exact .inl (.inl (by rw [upd_ne (nb hb (by intro z; cases z))]; exact hb))
        · exact .inl (.inr ⟨ob, by rw [upd_ne (nb hb (by intro z; cases z))]; exact hb⟩)
        · exact .inr hb
      have et : (pairs o).take (i + 1) = (pairs o).take i ++ [(Sum.inl (n : Int), V.int (i : Int))] := by
        rw [List.take_add_one, pairs_at hn]
        rfl
      rw [et]
      exact paired_app (L2.Paired.mapP hP fun b kv h => tups (seqT s2 h)) (.cons (tups (.of upd_same)) .nil)
    · obtain ⟨s1, ps, hl, hD1, hP⟩ := h
      rw [hlo, List.take_of_length_le (by rw [pairs_len]; omega)] at hP
      refine ⟨D, ps, pairs o, rfl, .of hD1, hP, fun p hp => ?_⟩
      have s2 : Same H (upd H1 p (.dK (mergeK [] (pairs o)))) := s1.trans (same_upd hp)
      refine ⟨_, rfl, a, _, rfl, .inr (seqT s2 hT), (o.length : Int), by rw [hlo], by omega, by omega, fun D2 hD2 => ?_⟩
      have hpD : p ≠ D2 := ne_of_none upd_same hD2
      refine lc_range (lo := 0) (n := (o.length : Int).toNat) (fun i H2 => Same (upd H1 p (.dK (mergeK [] (pairs o)))) H2 ∧ H2 D2 = some (.lst (((inv o).take i).map fun (n : Nat) => V.int (n : Int)))) ⟨same_upd hD2, by rw [upd_same]; rfl⟩ (fun i H2 hi h => ?_) fun H2 h => ?_
      · have hi' : i < o.length := by omega
        have hv : i ∈ o := WiM.ord_mem hO hi'
        have ei : (inv o)[i]? = some (o.idxOf i) := by
          unfold inv
          rw [List.getElem?_map, List.getElem?_range hi']
          rfl
        refine ⟨rfl, ⟨_, rfl, _, rfl, p, _, rfl, by
          have z := DGet.k (k := Sum.inl (0 + (i : Int))) (h.1 _ _ upd_same)
          rw [show (0 : Int) + (i : Int) = (i : Int) by omega] at z ⊢
          rw [pairs_val hO.nd hv] at z
          exact z, _, h.2, ?_, ?_, ?_⟩⟩
        · rw [List.length_map, List.length_take, inv_len]
          exact small1000 (by omega)
        · exact over hD2 h.1
        · rw [upd_same, List.take_add_one, ei, List.map_append]
          rfl
      · obtain ⟨s3, hD3⟩ := h
        rw [List.take_of_length_le (by rw [inv_len]; omega)] at hD3
        refine ⟨D2, _, rfl, .inl ⟨.of hD3, fun l hl2 => ?_⟩⟩
        exact q _ _ ((s2.trans s3).trans (same_upd hl2)) upd_same
/-! ### opposite, turned_about, turned_over -/
theorem argD {H : Hp} {v : V} {o : List Nat} (hd : Dp K H v (dO o)) : Dp K H v (argO o).d := by
  rw [argO_d]
  exact hd
theorem noO {o : List Nat} {Z : Prop} (hO : Ord o) (h1 : 1 ≤ o.length) (h2 : o.length ≤ 30) : fO (argO o) = false → Z := fun z => by
  rw [fO_of hO h1 h2] at z
  cases z
theorem noP {o : List Nat} {Z : Prop} (hO : Ord o) (h1 : 1 ≤ o.length) (h2 : o.length ≤ 5) : fP (argO o) = false → Z := fun z => by
  rw [fP_of hO h1 h2] at z
  cases z
theorem scOpp : FnScope ["order"] ["order"] (defScope sOpp) := ⟨rfl, rfl, rfl, by decide +kernel, rfl, by decide +kernel, by decide +kernel⟩
theorem ok_opp {f : Addr} {fd : FuncData} (F : Fun K "opposite" "opposite" sOpp f fd) (D : Df P w K mg base (L2N.CX P w) 3 "need_order" ["value"] (spNeedA K A .ord fO)) (D2 : Df P w K mg base CX0 1 "opposite_of" ["order"] (spMap K inv)) :
    FnOk P w K mg base (L2N.CX P w) 4 f fd ["order"] (spMap K inv) := by
  refine okN F scOpp (fun vs H Q E h => ?_) (fun cdv A' outer s H vs Q E hr h => ?_)
  · obtain ⟨v, a, rfl, _⟩ := h
    rfl
  · obtain ⟨v, o, rfl, hd, hO, h1, h2, q⟩ := h
    refine ⟨_, pss_cons (ps_expr (pe_ds D hr (by decide) (by rfl) (L2N.takes_of rfl rfl rfl rfl) (pa_cons (pv 0) pa_nil))) (pss_one (ps_ret (pe_d D2 hr (by decide) (by rfl) pass0 (pa_cons (pv 0) pa_nil)))), ?_⟩
    refine ⟨_, rfl, v, argO o, rfl, argD hd, smallO (by omega), noO hO h1 h2, fun _ H1 s1 => ?_⟩
    exact ⟨_, rfl, v, o, rfl, dmn s1 hd, hO, h1, h2, fun H' p s' => q H' p (s1.trans s')⟩
theorem scAbout : FnScope ["order"] ["order"] (defScope sAbout) := ⟨rfl, rfl, rfl, by decide +kernel, rfl, by decide +kernel, by decide +kernel⟩
theorem ok_about {f : Addr} {fd : FuncData} (F : Fun K "turned_about" "turned_about" sAbout f fd) (D : Df P w K mg base (L2N.CX P w) 3 "need_order" ["value"] (spNeedA K A .ord fO)) :
    FnOk P w K mg base (L2N.CX P w) 4 f fd ["order"] (spMap K List.reverse) := by
  refine okN F scAbout (fun vs H Q E h => ?_) (fun cdv A' outer s H vs Q E hr h => ?_)
  · obtain ⟨v, a, rfl, _⟩ := h
    rfl
  · obtain ⟨v, o, rfl, hd, hO, h1, h2, q⟩ := h
    refine ⟨_, pss_cons (ps_expr (pe_ds D hr (by decide) (by rfl) (L2N.takes_of rfl rfl rfl rfl) (pa_cons (pv 0) pa_nil))) (pss_one (ps_ret (pe_revT (pv 0)))), ?_⟩
    refine ⟨_, rfl, v, argO o, rfl, argD hd, smallO (by omega), noO hO h1 h2, fun _ H1 s1 => ?_⟩
    obtain ⟨a, rfl, hT⟩ := dO_inv (dmn s1 hd)
    refine ⟨_, rfl, a, _, rfl, hT, fun p hp => q _ _ (s1.trans (same_upd hp)) ?_⟩
    rw [upd_same]
    unfold vN
    rw [List.map_reverse]
theorem scOver : FnScope ["order", "thing"] ["order"] (defScope sOver) := ⟨rfl, rfl, rfl, by decide +kernel, rfl, by decide +kernel, by decide +kernel⟩
theorem ok_over {f : Addr} {fd : FuncData} (F : Fun K "turned_over" "turned_over" sOver f fd) (N : Nm mg) (D : Df P w K mg base (L2N.CX P w) 3 "need_order" ["value"] (spNeedA K A .ord fO)) :
    FnOk P w K mg base (L2N.CX P w) 4 f fd ["order"] (spMap K turn) := by
  refine okN F scOver (fun vs H Q E h => ?_) (fun cdv A' outer s H vs Q E hr h => ?_)
  · obtain ⟨v, a, rfl, _⟩ := h
    rfl
  · obtain ⟨v, o, rfl, hd, hO, h1, h2, q⟩ := h
    refine ⟨_, pss_cons (ps_expr (pe_ds D hr (by decide) (by rfl) (L2N.takes_of rfl rfl rfl rfl) (pa_cons (pv 0) pa_nil))) (pss_one (ps_ret (pe_callTy call_tuple_of (by rfl) N.tuple boot_tuple (pa_cons
        (pe_lc (own := [("thing", 1)]) (g := gName 1) (tt := tYes) rfl scOver.nd (pi_tup (pv 0)) (blkOk_by (N := ["order", "thing"]) (sc := defScope sOver) (by decide +kernel)) (fun _ _ _ _ _ => pg_name (i := 1) scOver.nd rfl (Or.inl rfl)) (fun _ _ _ _ _ => pts_nil)
          (fun _ _ _ _ _ => by exact pe_op op_sub (pe_op op_sub (by exact lenE K (by rfl) N.len (pv 0)) pe_int) (pv 1))) pa_nil)))), ?_⟩
    refine ⟨_, rfl, v, argO o, rfl, argD hd, smallO (by omega), noO hO h1 h2, fun _ H1 s1 => ?_⟩
    obtain ⟨a, rfl, hT⟩ := dO_inv (dmn s1 hd)
    refine ⟨_, rfl, a, rfl, ⟨_, hT⟩, fun D hD => ?_⟩
    refine lc_tup (K := K) (xs := vN o) (fun i H2 => Same H1 H2 ∧ H2 D = some (.lst (((turn o).take i).map fun (n : Nat) => V.int (n : Int)))) ⟨same_upd hD, by rw [upd_same]; rfl⟩ (fun i H2 _ h => seqT h.1 hT) (fun i x H2 hx h => ?_) fun H2 h => ?_
    · obtain ⟨n, hn, rfl⟩ := vN_get hx
      have hi : i < o.length := (List.getElem?_eq_some_iff.mp hn).1
      have hlt := hO.lt n (List.mem_of_getElem? hn)
      refine ⟨rfl, ⟨_, rfl, a, _, rfl, .inr (seqT h.1 hT), _, _, rfl, rfl, _, rfl, _, _, rfl, rfl, _, h.2, ?_, over hD h.1, ?_⟩⟩
      · rw [List.length_map, List.length_take]
        exact small1000 (by omega)
      · rw [upd_same]
        unfold turn
        rw [take_snoc (fun x => o.length - 1 - x) hn, List.map_append, vN_len]
        congr 3
        show [V.int ((o.length : Int) - 1 - (n : Int))] = [V.int ((o.length - 1 - n : Nat) : Int)]
        congr 2
        omega
    · obtain ⟨s3, hD3⟩ := h
      rw [vN_len, List.take_of_length_le (by unfold turn; rw [List.length_map]; omega)] at hD3
      exact ⟨D, _, rfl, .inl ⟨.of hD3, fun l hl2 => q _ _ ((s1.trans s3).trans (same_upd hl2)) upd_same⟩⟩
end
end Wp
end

section
set_option Elab.async false
set_option linter.all false
set_option maxRecDepth 100000
set_option maxHeartbeats 1000000
/-! goes_on, all_spots, holds. -/
namespace Wp
open PySem PySem.Spec PyProof.Rows L2 Wq
open WiM (Ord goesOn firstOf rangeFrom extend lineAt allSpots holds)
/-! ### heaps in which a list is written -/
section
variable {K : PySem.W.Frag} {H H' : Hp}
theorem seqT_over {D a : Addr} {ys zs xs : List V} (hD : H D = some (.lst ys)) (h : SqT K H a xs) : SqT K (upd H D (.lst zs)) a xs := by
  have nb : ∀ {b : Addr} {u : HO}, H b = some u → u ≠ .lst ys → b ≠ D := fun {b u} e ne z => by
    rw [z, hD] at e
    exact ne (Option.some.inj e).symm
  rcases h with (h | ⟨o, h⟩) | h
  · exact .inl (.inl (by rw [upd_ne (nb h (by intro z; cases z))]; exact h))
  · exact .inl (.inr ⟨o, by rw [upd_ne (nb h (by intro z; cases z))]; exact h⟩)
  · exact .inr h
theorem dO_over {D : Addr} {ys zs : List V} {v : V} {o : List Nat} (hD : H D = some (.lst ys)) (h : Dp K H v (dO o)) : Dp K (upd H D (.lst zs)) v (dO o) := by
  obtain ⟨a, rfl, hT⟩ := dO_inv h
  exact dO_of (seqT_over hD hT)
theorem dOs_over {D : Addr} {ys zs : List V} (hD : H D = some (.lst ys)) : ∀ {os : List (List Nat)} {vs : List V}, DpAll K H vs (os.map dO) → DpAll K (upd H D (.lst zs)) vs (os.map dO)
  | [], _, h => by cases h; exact .nil
  | o :: os, _, h => by
    cases h with
    | cons h1 h2 => exact .cons (dO_over hD h1) (dOs_over hD h2)
/-- a list of orders that is ours -/
def LstO (K : PySem.W.Frag) (H : Hp) (l : Addr) (os : List (List Nat)) : Prop := ∃ xs, H l = some (.lst xs) ∧ DpAll K H xs (os.map dO)
theorem LstO.mono {l : Addr} {os : List (List Nat)} (h : LstO K H l os) (s : Same H H') : LstO K H' l os := let ⟨xs, a, b⟩ := h; ⟨xs, s _ _ a, dmns s b⟩
theorem LstO.dp {l : Addr} {os : List (List Nat)} (h : LstO K H l os) : Dp K H (.ref l) (dL os) := let ⟨_, a, b⟩ := h; .lst (.of a) b
theorem lenO {os : List (List Nat)} {xs : List V} (h : DpAll K H xs (os.map dO)) : xs.length = os.length := by rw [dall_len h, List.length_map]
end
/-- t[i], t a tuple -/
def tIx (K : PySem.W.Frag) (ta tb : TE) : TE := tOp (rIxT K) ta tb
theorem ixE (K : PySem.W.Frag) {X : Cx} {a b : Expr} {ta tb : TE} {pos : Pos} (ha : PE X a ta) (hb : PE X b tb) (hK : X.K = K := by rfl) (hs : PlainIx b := by exact fun _ _ => rfl) : PE X (.Subscript a b pos) (tIx K ta tb) := by
  subst hK
  exact pe_ix ix_tup ha hb hs
/-- a + b, tuples -/
def tCat (K : PySem.W.Frag) (ta tb : TE) : TE := tOp (rCatA K) ta tb
theorem catE (K : PySem.W.Frag) {X : Cx} {a b : Expr} {ta tb : TE} {pos : Pos} (ha : PE X a ta) (hb : PE X b tb) (hK : X.K = K := by rfl) : PE X (.BinOp a .Add b pos) (tCat K ta tb) := by
  subst hK
  exact pe_op op_catA ha hb
section
variable {P : Program} {w : World} {K : PySem.W.Frag} {mg : Str → Option Value} {base : Heap} {A : Ad}
theorem getD_some {o : List Nat} {i : Nat} (h : i < o.length) : o[i]? = some (o.getD i 0) := by
  rw [List.getD_eq_getElem?_getD, List.getElem?_eq_getElem h]
  rfl
theorem vN_atD {o : List Nat} {i : Nat} (h : i < o.length) : atI (vN o) (i : Int) = some (.int (o.getD i 0 : Nat)) := atI_nat (vN_at (getD_some h))
def spGoes (K : PySem.W.Frag) : Sp := fun vs H Q _ => ∃ (v1 v2 v4 : V) (x : Nat) (o pl p : List Nat), vs = [v1, v2, .int (x : Int), v4] ∧ Dp K H v1 (dO o) ∧ Dp K H v2 (dO pl) ∧ Dp K H v4 (dO p) ∧ (∀ y ∈ pl, y < o.length) ∧ x < o.length ∧ pl.length < p.length ∧ p.length ≤ 30 ∧
  ∀ H', Same H H' → Q (.bl (goesOn o p pl x)) H'
theorem scGoes : FnScope ["order", "places", "place", "pattern", "at", "spot", "one"] ["order", "places", "place", "pattern"] (defScope sGoes) := ⟨rfl, rfl, rfl, by decide +kernel, rfl, by decide +kernel, by decide +kernel⟩
theorem ok_goes {f : Addr} {fd : FuncData} (F : Fun K "goes_on" "goes_on" sGoes f fd) (N : Nm mg) : FnOk P w K mg base CX0 1 f fd ["order", "places", "place", "pattern"] (spGoes K) := by
  refine F.ok scGoes (fun vs H Q E h => ?_) (fun cdv A' outer s H vs Q E hr h => ?_)
  · obtain ⟨v1, v2, v4, x, o, pl, p, rfl, _⟩ := h
    rfl
  · obtain ⟨v1, v2, v4, x, o, pl, p, rfl, d1, d2, d4, hy, hx, hl, hp, q⟩ := h
    obtain ⟨ao, rfl, T1⟩ := dO_inv d1
    obtain ⟨al, rfl, T2⟩ := dO_inv d2
    obtain ⟨ap, rfl, T4⟩ := dO_inv d4
    refine ⟨_, pss_cons (ps_set (i := 4) scGoes.nd rfl (Or.inr rfl) (lenE K (by rfl) N.len (pv 1)))
      (pss_one (ps_ret (pe_callB (cr_all rfl) (by rfl) N.all boot_all (pa_cons
        (pe_lc (own := [("spot", 5), ("one", 6)]) (g := gTup K 2 (gCons (gName 5) (gCons (gName 6) gNil))) (tt := tYes) rfl scGoes.nd (pi_enumT (by rfl) N.enumerate (pa_cons (pv 1) pa_nil)) (blkOk_by (N := ["order", "places", "place", "pattern", "at", "spot", "one"]) (sc := defScope sGoes) (by decide +kernel))
          (fun _ _ _ _ _ => by exact pg_tup rfl (pgs_cons (pg_name (i := 5) scGoes.nd rfl (Or.inl rfl)) (pgs_cons (pg_name (i := 6) scGoes.nd rfl (Or.inl rfl)) pgs_nil))) (fun _ _ _ _ _ => pts_nil)
          (fun _ _ _ _ _ => by exact pe_cmpR op_eq (pe_cmpR op_gt (by exact ixE K (pv 0) (pv 6)) (by exact ixE K (pv 0) (pv 2)) (nomark _)) (pe_cmpR op_gt (by exact ixE K (pv 3) (pv 5)) (by exact ixE K (pv 3) (pv 4)) (nomark _)) (nomark _))) pa_nil)))), ?_⟩
    refine ⟨_, rfl, al, _, rfl, .inr T2, ?_⟩
    rw [vN_len]
    let bs : List Bool := (List.range pl.length).map fun s => decide (o.getD (pl.getD s 0) 0 > o.getD x 0) == decide (p.getD s 0 > p.getD pl.length 0)
    refine ⟨_, rfl, al, _, rfl, T2, fun D hD => ?_⟩
    refine lc_enumT (K := K) (xs := vN pl) (fun i H1 => Same H H1 ∧ H1 D = some (.lst ((bs.take i).map V.bl))) ⟨same_upd hD, by rw [upd_same]; rfl⟩ (fun i H1 _ h => seqT h.1 T2) (fun i x1 T H1 hx1 h hTn => ?_) fun H1 h => ?_
    · obtain ⟨s1, hD1⟩ := h
      obtain ⟨n, hn, rfl⟩ := vN_get hx1
      have hi : i < pl.length := (List.getElem?_eq_some_iff.mp hn).1
      have hn' : pl.getD i 0 = n := by
        have := getD_some hi
        rw [hn] at this
        exact (Option.some.inj this).symm
      have hno : n < o.length := hy n (List.mem_of_getElem? hn)
      have s2 : Same H (upd H1 T (.tup [.int (i : Nat), .int n])) := s1.trans (same_upd hTn)
      refine ⟨T, _, rfl, .of upd_same, rfl, _, _, rfl, _, _, rfl, rfl, rfl, ?_⟩
      refine ⟨_, rfl, _, rfl, ao, _, _, _, rfl, rfl, seqT s2 T1, vN_atD hno, _, rfl, _, rfl, ao, _, _, _, rfl, rfl, seqT s2 T1, vN_atD hx, _, _, rfl, rfl, ?_⟩
      refine ⟨_, rfl, _, rfl, ap, _, _, _, rfl, rfl, seqT s2 T4, vN_atD (by omega), _, rfl, _, rfl, ap, _, _, _, rfl, rfl, seqT s2 T4, vN_atD hl, _, _, rfl, rfl, ?_⟩
      have hDT : D ≠ T := ne_of_none hD1 hTn
      refine ⟨rfl, _, by rw [upd_ne hDT]; exact hD1, ?_, over hD s2, ?_⟩
      · rw [List.length_map, List.length_take]
        exact small1000 (by omega)
      · rw [upd_same, take_snoc (fun s => decide (o.getD (pl.getD s 0) 0 > o.getD x 0) == decide (p.getD s 0 > p.getD pl.length 0)) (List.getElem?_range hi), List.map_append]
        congr 3
        rw [hn']
        show [V.bl (decide (V.bl (decide (((o.getD x 0 : Nat) : Int) < ((o.getD n 0 : Nat) : Int))) = V.bl (decide (((p.getD pl.length 0 : Nat) : Int) < ((p.getD i 0 : Nat) : Int)))))] = [V.bl (decide (o.getD n 0 > o.getD x 0) == decide (p.getD i 0 > p.getD pl.length 0))]
        congr 2
        have e1 : decide (((o.getD x 0 : Nat) : Int) < ((o.getD n 0 : Nat) : Int)) = decide (o.getD n 0 > o.getD x 0) := by
          rw [decide_eq_decide]
          omega
        have e2 : decide (((p.getD pl.length 0 : Nat) : Int) < ((p.getD i 0 : Nat) : Int)) = decide (p.getD i 0 > p.getD pl.length 0) := by
          rw [decide_eq_decide]
          omega
        rw [e1, e2]
        generalize decide (o.getD n 0 > o.getD x 0) = u
        generalize decide (p.getD i 0 > p.getD pl.length 0) = v
        cases u <;> cases v <;> rfl
    · obtain ⟨s1, hD1⟩ := h
      rw [vN_len, List.take_of_length_le (by simp [bs])] at hD1
      refine ⟨D, bs, rfl, .of hD1, ?_⟩
      have z := q H1 s1
      have e : goesOn o p pl x = bs.all id := by
        unfold goesOn
        rw [List.all_map]
        rfl
      rw [e] at z
      exact z
end
end Wp
end

section
set_option linter.all false
/-! Plain: sizes of the lines of spots. -/
namespace WiM
theorem mem_getD {l : List Nat} {y : Nat} (h : y ∈ l) : ∃ i, i < l.length ∧ l.getD i 0 = y := by
  obtain ⟨i, hi, e⟩ := List.getElem_of_mem h
  exact ⟨i, hi, by rw [List.getD_eq_getElem?_getD, List.getElem?_eq_getElem hi]; exact e⟩
theorem mem_line {o p : List Nat} {j : Nat} {pl : List Nat} (h : pl ∈ lineAt o p j) : pl.length = j ∧ ∀ y ∈ pl, y < o.length := by
  rw [line_eq] at h
  have hr := (mem_rise o.length j pl).mp (List.mem_filter.mp h).1
  refine ⟨hr.len, fun y hy => ?_⟩
  obtain ⟨i, hi, e⟩ := mem_getD hy
  rw [← e]
  exact hr.lt i (by rw [hr.len] at hi; exact hi)
theorem extend_len (o p pl : List Nat) : (extend o p pl).length ≤ o.length := by
  unfold extend
  rw [List.length_map]
  refine Nat.le_trans (List.length_filter_le _ _) ?_
  unfold rangeFrom
  rw [List.length_map, List.length_range]
  omega
theorem flat_len {α β : Type} {f : α → List β} {n : Nat} (h : ∀ a, (f a).length ≤ n) : ∀ l : List α, (l.flatMap f).length ≤ l.length * n
  | [] => by simp
  | a :: l => by
    rw [List.flatMap_cons, List.length_append, List.length_cons, Nat.add_mul, Nat.one_mul]
    have h1 := flat_len h l
    have h2 := h a
    omega
theorem line_len (o p : List Nat) : ∀ j, (lineAt o p j).length ≤ o.length ^ j
  | 0 => by simp [lineAt]
  | j + 1 => by
    show ((lineAt o p j).flatMap (extend o p)).length ≤ _
    refine Nat.le_trans (flat_len (extend_len o p) _) ?_
    rw [Nat.pow_succ]
    exact Nat.mul_le_mul_right _ (line_len o p j)
theorem pow_le {n j k m : Nat} (h : n ^ k ≤ m) (hn : 1 ≤ n) (hj : j ≤ k) : n ^ j ≤ m := Nat.le_trans (Nat.pow_le_pow_right hn hj) h
theorem flat_take {α β : Type} (f : α → List β) {l : List α} {i : Nat} {x : α} (h : l[i]? = some x) : (l.take (i + 1)).flatMap f = (l.take i).flatMap f ++ f x := by
  rw [List.take_add_one, h, List.flatMap_append]
  simp
theorem flat_take_len {α β : Type} {f : α → List β} {n : Nat} (h : ∀ a, (f a).length ≤ n) (l : List α) (i : Nat) : ((l.take i).flatMap f).length ≤ l.length * n := by
  refine Nat.le_trans (flat_len h _) ?_
  refine Nat.mul_le_mul_right _ ?_
  rw [List.length_take]
  omega
/-- the filter of a run, one more -/
theorem filter_take {l : List Nat} {f : Nat → Bool} {i x : Nat} (h : l[i]? = some x) : (l.take (i + 1)).filter f = if f x = true then (l.take i).filter f ++ [x] else (l.take i).filter f := by
  rw [List.take_add_one, h, List.filter_append]
  cases e : f x with
  | true => simp [e]
  | false => simp [e]
theorem first_eq (pl : List Nat) : firstOf pl = if pl = [] then 0 else pl.getD (pl.length - 1) 0 + 1 := by
  unfold firstOf
  by_cases h : pl = []
  · subst h
    rfl
  · rw [getLast_getD pl h, if_neg h]
theorem range_len (a n : Nat) : (rangeFrom a n).length = n - a := by simp [rangeFrom]
end WiM
end

section
set_option Elab.async false
set_option linter.all false
set_option maxRecDepth 100000
set_option maxHeartbeats 1000000
/-! all_spots. -/
namespace Wp
open PySem PySem.Spec PyProof.Rows L2 Wq
open WiM (Ord goesOn firstOf rangeFrom extend lineAt allSpots holds)
section
variable {P : Program} {w : World} {K : PySem.W.Frag} {mg : Str → Option Value} {base : Heap} {A : Ad}
def spAllSpots (K : PySem.W.Frag) : Sp := fun vs H Q _ => ∃ (v1 v2 : V) (o p : List Nat), vs = [v1, v2] ∧ Dp K H v1 (dO o) ∧ Dp K H v2 (dO p) ∧ 1 ≤ o.length ∧ o.length ≤ 1000 ∧ p.length ≤ 30 ∧ o.length ^ p.length ≤ 1000000 ∧
  ∀ H' l, Same H H' → LstO K H' l (allSpots o p) → Q (.ref l) H'
theorem scAllSpots : FnScope ["order", "pattern", "line", "turn", "later", "places", "first", "some", "place"] ["order", "pattern"] (defScope sAllSpots) := ⟨rfl, rfl, rfl, by decide +kernel, rfl, by decide +kernel, by decide +kernel⟩
theorem rgV_of {a n : Nat} : rgV (a : Int) (n : Int) = vN (rangeFrom a n) := by
  unfold rgV vN rangeFrom
  rw [List.map_map, show ((n : Int) - (a : Int)).toNat = n - a by omega]
  apply List.map_congr_left
  intro i _
  show V.int ((a : Int) + (i : Int)) = V.int ((a + i : Nat) : Int)
  congr 1
theorem last_at {pl : List Nat} (h : pl ≠ []) : atI (vN pl) (-1) = some (.int (pl.getD (pl.length - 1) 0 : Nat)) := by
  have hl : pl = pl.dropLast ++ [pl.getLast h] := (List.dropLast_concat_getLast h).symm
  have e : vN pl = vN pl.dropLast ++ [.int (pl.getLast h : Nat)] := by
    conv => lhs; rw [hl]
    rw [vN_app]
    rfl
  have hp := List.length_pos_iff.mpr h
  have e2 : pl.getLast h = pl.getD (pl.length - 1) 0 := by
    rw [List.getLast_eq_getElem, List.getD_eq_getElem?_getD, List.getElem?_eq_getElem (by omega)]
    rfl
  rw [e, ← e2]
  exact atI_last _ _
theorem ok_allSpots {f : Addr} {fd : FuncData} (F : Fun K "all_spots" "all_spots" sAllSpots f fd) (N : Nm mg) (G : Df P w K mg base CX0 1 "goes_on" ["order", "places", "place", "pattern"] (spGoes K)) :
    FnOk P w K mg base CX0 2 f fd ["order", "pattern"] (spAllSpots K) := by
  refine F.ok scAllSpots (fun vs H Q E h => ?_) (fun cdv A' outer s H vs Q E hr h => ?_)
  · obtain ⟨v1, v2, o, p, rfl, _⟩ := h
    rfl
  · obtain ⟨v1, v2, o, p, rfl, d1, d2, h1, h1000, h30, hpow, q⟩ := h
    obtain ⟨ao, rfl, T1⟩ := dO_inv d1
    obtain ⟨ap, rfl, T2⟩ := dO_inv d2
    refine ⟨_, pss_cons (ps_set (i := 2) scAllSpots.nd rfl (Or.inl rfl) (pe_lst (pa_cons (pe_tup pa_nil) pa_nil)))
      (pss_cons (ps_for PassesOwn.never rfl (pi_tup (pv 1)) (pg_name (i := 3) scAllSpots.nd rfl (Or.inl rfl))
        (pss_cons (ps_set (i := 4) scAllSpots.nd rfl (Or.inl rfl) (pe_lst pa_nil))
        (pss_cons (ps_for PassesOwn.never rfl (pi_list (pv 2)) (pg_name (i := 5) scAllSpots.nd rfl (Or.inr rfl))
          (C8.pss_cut (ps_set (i := 6) scAllSpots.nd rfl (Or.inl rfl) (pe_ifExp (pt_cmpR (op_neD hr.units) (pv 5) (pe_tup pa_nil) (nomark _)) (pe_op op_add (ixE K (pv 5) (pe_un un_neg pe_int)) pe_int) pe_int))
          (pss_cons (ps_set (i := 7) scAllSpots.nd rfl (Or.inl rfl) (pe_listRg rfl (by rfl) N.list (prg_2 (by rfl) N.range (pv 6) (lenE K (by rfl) N.len (pv 0)))))
          (pss_one (ps_set (i := 4) scAllSpots.nd rfl (Or.inl rfl) (pe_op op_cat (pv 4)
            (pe_lc (own := [("place", 8)]) (g := gName 8) (tt := tB (tD (spGoes K) E0 (tCons (tVar 0) (tCons (tVar 5) (tCons (tVar 8) (tCons (tVar 1) tNil)))))) rfl scAllSpots.nd (pi_list (pv 7)) (blkOk_by (N := ["order", "pattern", "line", "turn", "later", "places", "first", "some", "place"]) (sc := defScope sAllSpots) (by decide +kernel))
              (fun _ _ _ _ _ => pg_name (i := 8) scAllSpots.nd rfl (Or.inl rfl)) (fun _ _ _ _ _ => by exact pts_one (pt_val (by exact pe_d G hr (by decide) (by rfl) pass0 (pa_cons (pv 0) (pa_cons (pv 5) (pa_cons (pv 8) (pa_cons (pv 1) pa_nil)))))))
              (fun _ _ _ _ _ => by exact catE K (pv 5) (pe_tup (pa_cons (pv 8) pa_nil))))))))))
        (pss_one (ps_set (i := 2) scAllSpots.nd rfl (Or.inl rfl) (pv 4))))))
      (pss_one (ps_ret (pv 2)))), ?_⟩
    refine ⟨Nat.zero_le _, fun t0 ht0 => ⟨by show 1 ≤ sizeLine; decide, fun l0 hl0 => ?_⟩⟩
    have s0 : Same H (upd (upd H t0 (.tup [])) l0 (.lst [.ref t0])) := (same_upd ht0).trans (same_upd hl0)
    refine ⟨_, rfl, ap, rfl, ⟨_, seqT s0 T2⟩, ?_⟩
    refine for_tup (K := K) (xs := vN p) (fun j σ H1 => ∃ (l : Addr) (y3 y4 y5 y6 y7 y8 : Option V), σ = [some (.ref ao), some (.ref ap), some (.ref l), y3, y4, y5, y6, y7, y8] ∧ Same H H1 ∧ LstO K H1 l (lineAt o p j)) ?_ (fun j σ H1 _ h => ?_) (fun j x σ H1 hx h => ?_) (fun σ H1 h => ?_)
    · refine ⟨l0, none, none, none, none, none, none, rfl, s0, [.ref t0], upd_same, .cons (dO_of (o := []) ?_) .nil⟩
      exact .of (by rw [upd_ne (ne_of_none upd_same hl0)]; exact upd_same)
    · obtain ⟨l, y3, y4, y5, y6, y7, y8, _, s1, _⟩ := h
      exact seqT s1 T2
    · obtain ⟨l, y3, y4, y5, y6, y7, y8, rfl, s1, hL⟩ := h
      obtain ⟨n, hn, rfl⟩ := vN_get hx
      have hj : j < p.length := (List.getElem?_eq_some_iff.mp hn).1
      refine ⟨Nat.zero_le _, fun m0 hm0 => ?_⟩
      have s2 : Same H (upd H1 m0 (.lst [])) := s1.trans (same_upd hm0)
      obtain ⟨xs, hxs, hA⟩ := hL.mono (same_upd (o := .lst []) hm0)
      have hlen : xs.length = (lineAt o p j).length := lenO hA
      have cap : (lineAt o p j).length * o.length ≤ 1000000 := by
        refine Nat.le_trans (Nat.mul_le_mul_right _ (WiM.line_len o p j)) ?_
        rw [← Nat.pow_succ]
        exact WiM.pow_le hpow h1 hj
      refine ⟨_, rfl, l, rfl, ⟨_, .of hxs⟩, ?_⟩
      refine for_list (K := K) (xs := xs) (fun i σ H2 => ∃ (m : Addr) (z5 z6 z7 z8 : Option V), σ = [some (.ref ao), some (.ref ap), some (.ref l), some (.int n), some (.ref m), z5, z6, z7, z8] ∧ Same H H2 ∧ H2 l = some (.lst xs) ∧ DpAll K H2 xs ((lineAt o p j).map dO) ∧ LstO K H2 m (((lineAt o p j).take i).flatMap (extend o p)))
        ⟨m0, y5, y6, y7, y8, rfl, s2, hxs, hA, [], upd_same, .nil⟩ (fun i σ H2 _ h => ?_) (fun i x σ H2 hx2 h => ?_) (fun σ H2 h => ?_)
      · obtain ⟨m, z5, z6, z7, z8, _, _, hl2, _⟩ := h
        exact .of hl2
      · obtain ⟨m, z5, z6, z7, z8, rfl, s3, hl2, hA2, hM⟩ := h
        obtain ⟨pl, hpl, dpl⟩ := dOs_get hA2 hx2
        obtain ⟨apl, rfl, T5⟩ := dO_inv dpl
        have hi : i < (lineAt o p j).length := (List.getElem?_eq_some_iff.mp hpl).1
        obtain ⟨hplen, hplt⟩ := WiM.mem_line (List.mem_of_getElem? hpl)
        refine ⟨fun σ' H3 => σ' = [some (.ref ao), some (.ref ap), some (.ref l), some (.int n), some (.ref m), some (.ref apl), some (.int (firstOf pl : Nat)), z7, z8] ∧ Same H2 H3, ?_, fun σ' H3 hm => ?_⟩
        · refine ⟨_, rfl, Nat.zero_le _, fun te hte => ?_⟩
          have s4 : Same H2 (upd H2 te (.tup [])) := same_upd hte
          refine ⟨dO pl, dO [], dmn s4 dpl, dO_of (o := []) (.of upd_same), shaped_O _, shaped_O _, _, rfl, ?_⟩
          rw [eqv_O]
          by_cases hp0 : pl = []
          · rw [decide_eq_true hp0]
            refine iteF ⟨?_, s4⟩
            subst hp0
            rfl
          · rw [decide_eq_false hp0]
            refine iteT ⟨_, rfl, 1, rfl, apl, _, _, _, rfl, rfl, seqT s4 T5, last_at hp0, _, _, rfl, rfl, ?_, s4⟩
            rw [WiM.first_eq, if_neg hp0]
            rfl
        · obtain ⟨rfl, s5⟩ := hm
          have s6 : Same H H3 := s3.trans s5
          refine ⟨_, rfl, _, rfl, ao, _, rfl, .inr (seqT s6 T1), ?_⟩
          rw [vN_len]
          have hfi : firstOf pl ≤ o.length := by
            rw [WiM.first_eq]
            split
            · exact Nat.zero_le _
            · rename_i hne
              have := List.length_pos_iff.mpr hne
              have := hplt _ (WiM.getD_mem (l := pl) (i := pl.length - 1) (by omega))
              omega
          refine ⟨_, _, rfl, rfl, ⟨by omega, by omega, by omega, by omega, by omega⟩, fun r hr7 => ?_⟩
          rw [rgV_of]
          have s7 : Same H2 (upd H3 r (.lst (vN (rangeFrom (firstOf pl) o.length)))) := s5.trans (same_upd hr7)
          have s8 : Same H (upd H3 r (.lst (vN (rangeFrom (firstOf pl) o.length)))) := s3.trans s7
          refine ⟨_, rfl, _, rfl, r, rfl, ⟨_, .of upd_same⟩, fun D hD => ?_⟩
          obtain ⟨xm, hm1, hm2⟩ := hM.mono s7
          refine lc_list (K := K) (xs := vN (rangeFrom (firstOf pl) o.length)) (fun k H4 => Same (upd H3 r (.lst (vN (rangeFrom (firstOf pl) o.length)))) H4 ∧ LstO K H4 D ((((rangeFrom (firstOf pl) o.length).take k).filter (goesOn o p pl)).map fun x => pl ++ [x]))
            ⟨same_upd hD, [], upd_same, .nil⟩ (fun k H4 _ h => .of (h.1 _ _ upd_same)) (fun k x H4 hx4 h => ?_) (fun H4 h => ?_)
          · obtain ⟨s9, xd, hd1, hd2⟩ := h
            obtain ⟨y, hy, rfl⟩ := vN_get hx4
            have hyr := WiM.mem_rangeFrom.mp (List.mem_of_getElem? hy)
            refine ⟨rfl, _, rfl, _, rfl, _, rfl, _, rfl, _, _, _, y, o, pl, p, rfl, dmn (s8.trans s9) d1, dmn (s7.trans s9) dpl, dmn (s8.trans s9) d2, hplt, hyr.2, by omega, h30, fun H5 s10 => ⟨_, rfl, ?_⟩⟩
            have hd1' := s10 _ _ hd1
            rw [WiM.filter_take hy]
            cases hg : goesOn o p pl y with
            | false =>
              refine iteF ⟨s9.trans s10, ?_⟩
              rw [if_neg (by decide)]
              exact ⟨xd, hd1', dmns s10 hd2⟩
            | true =>
              have s11 := (s7.trans s9).trans s10
              refine iteT ⟨_, rfl, _, rfl, by show 1 ≤ sizeLine; decide, fun tp htp => ?_⟩
              have s12 : Same H5 (upd H5 tp (.tup [.int y])) := same_upd htp
              have T5' : SqT K (upd H5 tp (.tup [.int y])) apl (vN pl) := seqT (s11.trans s12) T5
              have hlD : xd.length ≤ 1000 := by
                have e1 := lenO hd2
                have e2 : ((rangeFrom (firstOf pl) o.length).take k).length ≤ o.length := by
                  rw [List.length_take, WiM.range_len]
                  omega
                have e3 := List.length_filter_le (goesOn o p pl) ((rangeFrom (firstOf pl) o.length).take k)
                rw [e1, List.length_map]
                omega
              have hd3 : (upd H5 tp (.tup [.int y])) D = some (.lst xd) := s12 _ _ hd1'
              have fin : ∀ (a : Addr) (H6 : Hp), Same (upd H5 tp (.tup [.int y])) H6 → SqT K H6 a (vN (pl ++ [y])) → ∃ acc, H6 D = some (.lst acc) ∧ acc.length < sizeLine ∧ Same (upd H3 r (.lst (vN (rangeFrom (firstOf pl) o.length)))) (upd H6 D (.lst (acc ++ [.ref a]))) ∧
                  LstO K (upd H6 D (.lst (acc ++ [.ref a]))) D ((((rangeFrom (firstOf pl) o.length).take k).filter (goesOn o p pl) ++ [y]).map fun x => pl ++ [x]) := fun a H6 s13 hT => by
                have hd4 := s13 _ _ hd3
                refine ⟨xd, hd4, small1000 hlD, over hD (((s9.trans s10).trans s12).trans s13), xd ++ [.ref a], upd_same, ?_⟩
                rw [List.map_append, List.map_append]
                exact dall_app (dOs_over hd4 (dmns ((s10.trans s12).trans s13) hd2)) (.cons (dO_over hd4 (dO_of hT)) .nil)
              refine ⟨apl, tp, _, _, rfl, rfl, T5', .of upd_same, ?_, fun e => ?_, fun _ e => absurd e (by simp), fun _ _ p2 hp2 => ?_⟩
              · rw [vN_len]
                show pl.length + 1 ≤ sizeLine
                rw [hplen]
                exact Nat.le_of_lt (small1000 (by omega))
              · have e' : pl = [] := List.map_eq_nil_iff.mp e
                rw [if_pos rfl]
                refine fin tp _ (Same.refl _) ?_
                rw [e']
                exact .of upd_same
              · rw [if_pos rfl]
                refine fin p2 _ (same_upd hp2) ?_
                rw [vN_app]
                exact .of upd_same
          · obtain ⟨s9, xd, hd1, hd2⟩ := h
            rw [vN_len, List.take_of_length_le (Nat.le_refl _)] at hd2
            have hm1' := s9 _ _ hm1
            refine ⟨m, D, xm, xd, rfl, rfl, hm1', hd1, ?_, fun m2 hm3 => ?_⟩
            · rw [lenO hm2, lenO hd2]
              have e1 := WiM.flat_take (extend o p) hpl
              have e2 := WiM.flat_take_len (WiM.extend_len o p) (lineAt o p j) (i + 1)
              rw [e1, List.length_append] at e2
              have e3 : (extend o p pl).length = (((rangeFrom (firstOf pl) o.length).filter (goesOn o p pl)).map fun x => pl ++ [x]).length := rfl
              rw [← e3, sizeLine_eq]
              omega
            · have s13 : Same H2 (upd H4 m2 (.lst (xm ++ xd))) := (s7.trans s9).trans (same_upd hm3)
              refine ⟨m2, _, _, _, _, rfl, s3.trans s13, s13 _ _ hl2, dmns s13 hA2, xm ++ xd, upd_same, ?_⟩
              rw [WiM.flat_take (extend o p) hpl, List.map_append]
              exact dall_app (dmns (s9.trans (same_upd hm3)) hm2) (dmns (same_upd hm3) hd2)
      · obtain ⟨m, z5, z6, z7, z8, rfl, s3, hl2, hA2, hM⟩ := h
        refine ⟨_, rfl, m, _, _, _, _, _, _, rfl, s3, ?_⟩
        rw [hlen, List.take_of_length_le (Nat.le_refl _)] at hM
        exact hM
    · obtain ⟨l, y3, y4, y5, y6, y7, y8, rfl, s1, hL⟩ := h
      rw [vN_len] at hL
      exact ⟨_, rfl, q _ _ s1 hL⟩
end
end Wp
end

section
set_option linter.all false
/-! Plain: orders without patterns, grown. -/
namespace WiM
def insAt (o : List Nat) (q : Nat) : List Nat := o.take q ++ [o.length] ++ o.drop q
def ok (ps : List (List Nat)) (x : List Nat) : Bool := !ps.any fun p => holds x p
def grown1 (ps : List (List Nat)) (o : List Nat) : List (List Nat) := ((List.range (o.length + 1)).map (insAt o)).filter (ok ps)
def grown (ps : List (List Nat)) (os : List (List Nat)) : List (List Nat) := os.flatMap (grown1 ps)
def gAt (ps : List (List Nat)) : Nat → List (List Nat)
  | 0 => [[]]
  | j + 1 => grown ps (gAt ps j)
theorem ins_len (o : List Nat) (q : Nat) : (insAt o q).length = o.length + 1 := by
  unfold insAt
  rw [List.length_append, List.length_append, List.length_take, List.length_drop, List.length_singleton]
  omega
theorem gAt_len {ps : List (List Nat)} : ∀ {j : Nat} {o : List Nat}, o ∈ gAt ps j → o.length = j
  | 0, o, h => by
    have : o = [] := by simpa [gAt] using h
    rw [this]
    rfl
  | j + 1, o, h => by
    obtain ⟨u, hu, hm⟩ := List.mem_flatMap.mp h
    obtain ⟨hm, _⟩ := List.mem_filter.mp hm
    obtain ⟨q, _, rfl⟩ := List.mem_map.mp hm
    rw [ins_len, gAt_len hu]
theorem grown1_len (ps : List (List Nat)) (o : List Nat) : (grown1 ps o).length ≤ o.length + 1 := by
  unfold grown1
  refine Nat.le_trans (List.length_filter_le _ _) ?_
  rw [List.length_map, List.length_range]
  exact Nat.le_refl _
theorem grown_len {ps os : List (List Nat)} {m : Nat} (h : ∀ o ∈ os, o.length = m) : (grown ps os).length ≤ os.length * (m + 1) := by
  induction os with
  | nil => simp [grown]
  | cons o os ih =>
    have h1 := ih fun x hx => h x (List.mem_cons_of_mem _ hx)
    have h2 := grown1_len ps o
    have h3 := h o List.mem_cons_self
    show ((o :: os).flatMap (grown1 ps)).length ≤ _
    rw [List.flatMap_cons, List.length_append, List.length_cons, Nat.add_mul, Nat.one_mul]
    have h4 : (os.flatMap (grown1 ps)).length = (grown ps os).length := rfl
    omega
theorem gAt_size (ps : List (List Nat)) : ∀ j, j ≤ 7 → (gAt ps j).length ≤ 8 ^ j
  | 0, _ => by simp [gAt]
  | j + 1, h => by
    have h1 := grown_len (ps := ps) (os := gAt ps j) (m := j) fun o ho => gAt_len ho
    have h2 := gAt_size ps j (by omega)
    show (grown ps (gAt ps j)).length ≤ _
    refine Nat.le_trans h1 ?_
    rw [Nat.pow_succ]
    exact Nat.mul_le_mul h2 (by omega)
theorem take_flat_le {α β : Type} (f : α → List β) (l : List α) (i : Nat) : ((l.take i).flatMap f).length ≤ (l.flatMap f).length := by
  conv => rhs; rw [← List.take_append_drop i l, List.flatMap_append, List.length_append]
  omega
theorem filter_take' {α : Type} {l : List α} {f : α → Bool} {i : Nat} {x : α} (h : l[i]? = some x) : (l.take (i + 1)).filter f = if f x = true then (l.take i).filter f ++ [x] else (l.take i).filter f := by
  rw [List.take_add_one, h, List.filter_append]
  cases e : f x with
  | true => simp [e]
  | false => simp [e]
theorem range_map_at {β : Type} (f : Nat → β) {n i : Nat} (h : i < n) : ((List.range n).map f)[i]? = some (f i) := by
  rw [List.getElem?_map, List.getElem?_range h]
  rfl
end WiM
end

section
set_option Elab.async false
set_option linter.all false
set_option maxRecDepth 100000
set_option maxHeartbeats 1000000
/-! holds, grown_without. -/
namespace Wp
open PySem PySem.Spec PyProof.Rows L2 Wq
open WiM (Ord allSpots holds insAt grown1 grown gAt)
section
variable {P : Program} {w : World} {K : PySem.W.Frag} {mg : Str → Option Value} {base : Heap} {A : Ad}
/-! ### holds -/
def spHolds (K : PySem.W.Frag) : Sp := fun vs H Q _ => ∃ (v1 v2 : V) (o p : List Nat), vs = [v1, v2] ∧ Dp K H v1 (dO o) ∧ Dp K H v2 (dO p) ∧ 1 ≤ o.length ∧ o.length ≤ 1000 ∧ p.length ≤ 30 ∧ o.length ^ p.length ≤ 1000000 ∧ ∀ H', Same H H' → Q (.bl (holds o p)) H'
theorem scHolds : FnScope ["order", "pattern"] ["order", "pattern"] (defScope sHolds) := ⟨rfl, rfl, rfl, by decide +kernel, rfl, by decide +kernel, by decide +kernel⟩
theorem ok_holds {f : Addr} {fd : FuncData} (F : Fun K "holds" "holds" sHolds f fd) (N : Nm mg) (G : Df P w K mg base CX0 2 "all_spots" ["order", "pattern"] (spAllSpots K)) : FnOk P w K mg base CX0 3 f fd ["order", "pattern"] (spHolds K) := by
  refine F.ok scHolds (fun vs H Q E h => ?_) (fun cdv A' outer s H vs Q E hr h => ?_)
  · obtain ⟨v1, v2, o, p, rfl, _⟩ := h
    rfl
  · obtain ⟨v1, v2, o, p, rfl, d1, d2, h1, h1000, h30, hpow, q⟩ := h
    obtain ⟨ao, rfl, T1⟩ := dO_inv d1
    obtain ⟨ap, rfl, T2⟩ := dO_inv d2
    refine ⟨_, pss_one (ps_ret (pe_and (pe_cmpR op_le (lenE K (by rfl) N.len (pv 1)) (lenE K (by rfl) N.len (pv 0)) (nomark _)) (pe_one (pe_cmpR (op_neD hr.units) (pe_d G hr (by decide) (by rfl) pass0 (pa_cons (pv 0) (pa_cons (pv 1) pa_nil))) (pe_lst pa_nil) (nomark _))))), ?_⟩
    refine ⟨_, rfl, ap, _, rfl, .inr T2, _, rfl, ao, _, rfl, .inr T1, _, _, rfl, rfl, _, rfl, ?_⟩
    rw [vN_len, vN_len]
    by_cases hl : p.length ≤ o.length
    · rw [decide_eq_true (by omega)]
      refine iteT ⟨_, rfl, _, rfl, _, _, o, p, rfl, d1, d2, h1, h1000, h30, hpow, fun H1 l s1 hL => ⟨Nat.zero_le _, fun e he => ?_⟩⟩
      refine ⟨dL (allSpots o p), dL [], (hL.mono (same_upd he)).dp, .lst (.of upd_same) .nil, shaped_L _, shaped_L _, ?_⟩
      rw [eqv_L]
      have z := q _ (s1.trans (same_upd (o := .lst []) he))
      have e2 : holds o p = !decide (allSpots o p = []) := by
        unfold holds
        rw [decide_eq_true hl, Bool.true_and]
        by_cases h : allSpots o p = []
        · rw [decide_eq_true h, decide_eq_false (not_not_intro h)]
          rfl
        · rw [decide_eq_false h, decide_eq_true h]
          rfl
      rw [e2] at z
      exact z
    · rw [decide_eq_false (by omega)]
      refine iteF ?_
      have z := q H (Same.refl H)
      have e2 : holds o p = false := by
        unfold holds
        rw [decide_eq_false hl, Bool.false_and]
      rw [e2] at z
      exact z
/-! ### slices and sums of tuples -/
theorem cut_take {o : List Nat} {q : Nat} (h : q ≤ o.length) : cutV (vN o) none (some (q : Int)) = vN (o.take q) := by
  unfold cutV
  rw [HT.sIx_none, HT.sIx_nat, vN_len, List.drop_zero, Nat.sub_zero, Nat.min_eq_left h]
  unfold vN
  rw [List.map_take]
theorem cut_drop {o : List Nat} {q : Nat} (h : q ≤ o.length) : cutV (vN o) (some (q : Int)) none = vN (o.drop q) := by
  unfold cutV
  rw [HT.sIx_none, HT.sIx_nat, vN_len, Nat.min_eq_left h]
  unfold vN
  rw [← List.map_drop, List.take_of_length_le (by rw [List.length_map, List.length_drop]; exact Nat.le_refl _)]
theorem slA_any {H : Hp} {a : Addr} {xs : List V} {lo hi : Option Int} {Q : VK} (hT : SqT K H a xs) (q : ∀ b H', Same H H' → SqT K H' b (cutV xs lo hi) → Q (.ref b) H') : rSlA K (.ref a) lo hi H Q := by
  refine ⟨a, xs, rfl, hT, fun hw => ?_, fun _ p hp => q p _ (same_upd hp) (.of upd_same)⟩
  have e : cutV xs lo hi = xs := by
    unfold cutV
    rw [hw.1, hw.2, List.drop_zero, Nat.sub_zero, List.take_length]
  exact q a H (Same.refl H) (by rw [e]; exact hT)
theorem catA_any {H : Hp} {a b : Addr} {xs ys : List V} {Q : VK} (h1 : SqT K H a xs) (h2 : SqT K H b ys) (hz : xs.length + ys.length ≤ sizeLine) (q : ∀ c H', Same H H' → SqT K H' c (xs ++ ys) → Q (.ref c) H') : rCatA K (.ref a) (.ref b) H Q := by
  refine ⟨a, b, xs, ys, rfl, rfl, h1, h2, hz, fun e => ?_, fun _ e => ?_, fun _ _ p hp => q p _ (same_upd hp) (.of upd_same)⟩
  · exact q b H (Same.refl H) (by rw [e, List.nil_append]; exact h2)
  · exact q a H (Same.refl H) (by rw [e, List.append_nil]; exact h1)
/-! ### grown_without -/
def spGrown (K : PySem.W.Frag) : Sp := fun vs H Q _ => ∃ (v1 v2 : V) (os ps : List (List Nat)) (m : Nat), vs = [v1, v2] ∧ Dp K H v1 (dL os) ∧ Dp K H v2 (dT ps) ∧ (∀ o ∈ os, o.length = m) ∧ m ≤ 6 ∧ (∀ p ∈ ps, p.length ≤ 5) ∧ ps.length ≤ 100 ∧ os.length * (m + 1) ≤ 10000000 ∧
  ∀ H' l, Same H H' → LstO K H' l (grown ps os) → Q (.ref l) H'
theorem scGrown : FnScope ["some", "patterns", "found", "order", "place", "later", "pattern"] ["some", "patterns"] (defScope sGrown) := ⟨rfl, rfl, rfl, by decide +kernel, rfl, by decide +kernel, by decide +kernel⟩
theorem ok_grown {f : Addr} {fd : FuncData} (F : Fun K "grown_without" "grown_without" sGrown f fd) (N : Nm mg) (G : Df P w K mg base CX0 3 "holds" ["order", "pattern"] (spHolds K)) : FnOk P w K mg base CX0 4 f fd ["some", "patterns"] (spGrown K) := by
  refine F.ok scGrown (fun vs H Q E h => ?_) (fun cdv A' outer s H vs Q E hr h => ?_)
  · obtain ⟨v1, v2, os, ps, m, rfl, _⟩ := h
    rfl
  · obtain ⟨v1, v2, os, ps, m, rfl, d1, d2, hm, hm6, hp5, hps, hcap, q⟩ := h
    obtain ⟨as, xs, rfl, L1, A1⟩ := dL_inv d1
    obtain ⟨ap, ws, rfl, T2, A2⟩ := dT_inv d2
    refine ⟨_, pss_cons (ps_set (i := 2) scGrown.nd rfl (Or.inl rfl) (pe_lst pa_nil))
      (pss_cons (ps_for PassesOwn.never rfl (pi_list (pv 0)) (pg_name (i := 3) scGrown.nd rfl (Or.inl rfl))
        (pss_one (ps_for PassesOwn.never rfl (pi_range1 (by rfl) N.range (pa_cons (pe_op op_add (lenE K (by rfl) N.len (pv 3)) pe_int) pa_nil)) (pg_name (i := 4) scGrown.nd rfl (Or.inl rfl))
          (pss_cons (ps_set (i := 5) scGrown.nd rfl (Or.inr rfl) (catE K (catE K (pe_slice sl_tupA (pv 3) po_none (po_some (pv 4))) (pe_tup (pa_cons (lenE K (by rfl) N.len (pv 3)) pa_nil))) (pe_slice sl_tupA (pv 3) (po_some (pv 4)) po_none)))
          (pss_one (ps_if (pt_not (pt_val (pe_callB (cr_any rfl) (by rfl) N.any boot_any (pa_cons
              (pe_lc (own := [("pattern", 6)]) (g := gName 6) (tt := tYes) rfl scGrown.nd (pi_tup (pv 1)) (blkOk_by (N := ["some", "patterns", "found", "order", "place", "later", "pattern"]) (sc := defScope sGrown) (by decide +kernel)) (fun _ _ _ _ _ => pg_name (i := 6) scGrown.nd rfl (Or.inl rfl)) (fun _ _ _ _ _ => pts_nil)
                (fun _ _ _ _ _ => by exact pe_d G hr (by decide) (by rfl) pass0 (pa_cons (pv 5) (pa_cons (pv 6) pa_nil)))) pa_nil))))
            (pss_one (ps_expr (pe_bm PySem.F.plainAttrs_list PySem.F.slot_list_append PySem.F.type_list_append mt_append (pv 2) (pa_cons (pv 5) pa_nil)))) pss_nil))))))
      (pss_one (ps_ret (pv 2)))), ?_⟩
    have cap0 : (grown ps os).length ≤ 10000000 := Nat.le_trans (WiM.grown_len hm) hcap
    refine ⟨Nat.zero_le _, fun f0 hf0 => ?_⟩
    have s0 : Same H (upd H f0 (.lst [])) := same_upd hf0
    refine ⟨_, rfl, as, rfl, ⟨_, s0.seq L1⟩, ?_⟩
    refine for_list (K := K) (xs := xs) (fun i σ H1 => ∃ y3 y4 y5 y6 : Option V, σ = [some (.ref as), some (.ref ap), some (.ref f0), y3, y4, y5, y6] ∧ Same H H1 ∧ LstO K H1 f0 ((os.take i).flatMap (grown1 ps)))
      ⟨none, none, none, none, rfl, s0, [], upd_same, .nil⟩ (fun i σ H1 _ h => ?_) (fun i x σ H1 hx h => ?_) (fun σ H1 h => ?_)
    · obtain ⟨_, _, _, _, _, s1, _⟩ := h
      exact s1.seq L1
    · obtain ⟨y3, y4, y5, y6, rfl, s1, hL⟩ := h
      obtain ⟨o, ho, dO1⟩ := dOs_get (dmns s1 A1) hx
      obtain ⟨ao, rfl, TO⟩ := dO_inv dO1
      have hom : o.length = m := hm o (List.mem_of_getElem? ho)
      refine ⟨_, rfl, ao, _, rfl, .inr TO, _, _, rfl, rfl, (o.length : Int) + 1, by rw [vN_len], by omega, by omega, ?_⟩
      refine for_range (lo := 0) (n := ((o.length : Int) + 1).toNat) (fun q σ H2 => ∃ z4 z5 z6 : Option V, σ = [some (.ref as), some (.ref ap), some (.ref f0), some (.ref ao), z4, z5, z6] ∧ Same H H2 ∧ SqT K H2 ao (vN o) ∧ LstO K H2 f0 ((os.take i).flatMap (grown1 ps) ++ (((List.range (o.length + 1)).map (insAt o)).take q).filter (WiM.ok ps)))
        ⟨y4, y5, y6, rfl, s1, TO, by rw [List.take_zero, List.filter_nil, List.append_nil]; exact hL⟩ (fun q σ H2 hq h => ?_) (fun σ H2 h => ?_)
      · obtain ⟨z4, z5, z6, rfl, s2, TO2, hL2⟩ := h
        have hq' : q ≤ o.length := by omega
        -- order[:place] + (len(order),) + order[place:]
        refine ⟨_, rfl, _, rfl, _, rfl, ?_⟩
        rw [show (0 : Int) + (q : Int) = (q : Int) by omega]
        refine slA_any TO2 fun b1 H3 s3 B1 => ?_
        rw [cut_take hq'] at B1
        refine ⟨_, rfl, ao, _, rfl, .inr (seqT s3 TO2), by show 1 ≤ sizeLine; decide, fun t1 ht1 => ?_⟩
        rw [vN_len]
        have s4 := s3.trans (same_upd (o := .tup [.int (o.length : Int)]) ht1)
        refine catA_any (xs := vN (o.take q)) (ys := vN [o.length]) (seqT (same_upd ht1) B1) (.of upd_same) ?_ fun b2 H4 s5 B2 => ?_
        · rw [vN_len, vN_len, List.length_take]
          exact Nat.le_of_lt (small1000 (by simp; omega))
        rw [← vN_app] at B2
        refine ⟨_, rfl, _, rfl, _, rfl, ?_⟩
        have s6 := s4.trans s5
        delta tNoPart
        show rSlA K (.ref ao) (some (q : Int)) none H4 _
        refine slA_any (seqT s6 TO2) fun b3 H5 s7 B3 => ?_
        rw [cut_drop hq'] at B3
        refine catA_any (seqT s7 B2) B3 ?_ fun b4 H6 s8 B4 => ?_
        · rw [vN_len, vN_len, List.length_append, List.length_take, List.length_drop]
          exact Nat.le_of_lt (small1000 (by simp; omega))
        rw [← vN_app] at B4
        have s9 : Same H2 H6 := (s6.trans s7).trans s8
        have hlen : (insAt o q).length = m + 1 := by rw [WiM.ins_len, hom]
        -- any(holds ..)
        have T2' : SqT K H6 ap ws := seqT (s2.trans s9) T2
        refine ⟨_, rfl, ap, rfl, ⟨_, T2'⟩, fun D hD => ?_⟩
        refine lc_tup (K := K) (xs := ws) (fun k H7 => Same H6 H7 ∧ H7 D = some (.lst (((ps.map (holds (insAt o q))).take k).map V.bl))) ⟨same_upd hD, by rw [upd_same]; rfl⟩ (fun k H7 _ h => seqT h.1 T2') (fun k x H7 hx7 h => ?_) (fun H7 h => ?_)
        · obtain ⟨s10, hD7⟩ := h
          obtain ⟨p, hp, dp⟩ := dOs_get (dmns ((s2.trans s9).trans s10) A2) hx7
          have hk : k < ps.length := (List.getElem?_eq_some_iff.mp hp).1
          have hpl := hp5 p (List.mem_of_getElem? hp)
          refine ⟨rfl, ⟨_, rfl, _, rfl, _, _, insAt o q, p, rfl, dO_of (seqT s10 B4), dp, by omega, by omega, by omega, ?_, fun H8 s11 => ⟨_, s11 _ _ hD7, ?_, over hD (s10.trans s11), ?_⟩⟩⟩
          · rw [hlen]
            refine Nat.le_trans (Nat.pow_le_pow_left (show m + 1 ≤ 7 by omega) _) (Nat.le_trans (Nat.pow_le_pow_right (by decide) hpl) (by decide))
          · rw [List.length_map, List.length_take]
            exact small1000 (by omega)
          · rw [upd_same, take_snoc (holds (insAt o q)) hp, List.map_append]
            rfl
        · obtain ⟨s10, hD7⟩ := h
          have hwl : ws.length = ps.length := lenO A2
          rw [hwl, List.take_of_length_le (by rw [List.length_map]; exact Nat.le_refl _)] at hD7
          refine ⟨D, _, rfl, .of hD7, _, rfl, ?_⟩
          have s11 : Same H2 H7 := s9.trans s10
          have hL3 := hL2.mono s11
          have hok : WiM.ok ps (insAt o q) = !(ps.map (holds (insAt o q))).any id := by
            unfold WiM.ok
            rw [List.any_map]
            rfl
          have eat := WiM.filter_take' (f := WiM.ok ps) (WiM.range_map_at (insAt o) (show q < o.length + 1 by omega))
          cases ea : (ps.map (holds (insAt o q))).any id with
          | true =>
            have e : WiM.ok ps (insAt o q) = false := by rw [hok, ea]; rfl
            refine iteF ⟨_, _, _, rfl, s2.trans s11, seqT s11 TO2, ?_⟩
            rw [eat, e, if_neg (by decide)]
            exact hL3
          | false =>
            have e : WiM.ok ps (insAt o q) = true := by rw [hok, ea]; rfl
            obtain ⟨xf, hf1, hf2⟩ := hL3
            refine iteT ⟨_, rfl, .inl ⟨rfl, _, .of hf1⟩, _, rfl, f0, xf, _, rfl, rfl, hf1, ?_, ?_⟩
            · have e1 := lenO hf2
              have e2 := WiM.take_flat_le (grown1 ps) os (i + 1)
              rw [WiM.flat_take (grown1 ps) ho, List.length_append] at e2
              have e3 : ((((List.range (o.length + 1)).map (insAt o)).take q).filter (WiM.ok ps)).length ≤ (grown1 ps o).length := by
                unfold grown1
                exact ((List.take_sublist _ _).filter _).length_le
              rw [e1, List.length_append, sizeLine_eq]
              have e4 : (os.flatMap (grown1 ps)).length = (grown ps os).length := rfl
              omega
            · have s12 : Same H (upd H7 f0 (.lst (xf ++ [.ref b4]))) := over hf0 (s2.trans s11)
              refine ⟨_, _, _, rfl, s12, seqT_over hf1 (seqT s11 TO2), xf ++ [.ref b4], upd_same, ?_⟩
              rw [eat, e, if_pos rfl, ← List.append_assoc, List.map_append]
              exact dall_app (dOs_over hf1 hf2) (.cons (dO_over hf1 (dO_of (seqT s10 B4))) .nil)
      · obtain ⟨z4, z5, z6, rfl, s2, TO2, hL2⟩ := h
        refine ⟨_, _, _, _, rfl, s2, ?_⟩
        rw [WiM.flat_take (grown1 ps) ho]
        rw [List.take_of_length_le (l := (List.range (o.length + 1)).map (insAt o)) (by rw [List.length_map, List.length_range]; omega)] at hL2
        exact hL2
    · obtain ⟨y3, y4, y5, y6, rfl, s1, hL⟩ := h
      rw [lenO A1, List.take_of_length_le (Nat.le_refl _)] at hL
      exact ⟨_, rfl, q _ _ s1 hL⟩
end
end Wp
end

section
set_option Elab.async false
set_option linter.all false
set_option maxRecDepth 100000
set_option maxHeartbeats 1000000
/-! all_without. -/
namespace WiM
theorem gAt_lt {ps : List (List Nat)} : ∀ {j : Nat} {o : List Nat}, o ∈ gAt ps j → ∀ x ∈ o, x < j
  | 0, o, h => by
    have : o = [] := by simpa [gAt] using h
    rw [this]
    exact fun x hx => absurd hx (by simp)
  | j + 1, o, h => by
    obtain ⟨u, hu, hm⟩ := List.mem_flatMap.mp h
    obtain ⟨hm, _⟩ := List.mem_filter.mp hm
    obtain ⟨q, _, rfl⟩ := List.mem_map.mp hm
    have ih := gAt_lt hu
    have hl := gAt_len hu
    intro x hx
    unfold insAt at hx
    rw [List.mem_append, List.mem_append, List.mem_singleton] at hx
    rcases hx with (hx | hx) | hx
    · have := ih x (List.mem_of_mem_take hx)
      omega
    · omega
    · have := ih x (List.mem_of_mem_drop hx)
      omega
end WiM
namespace Wp
open PySem PySem.Spec PyProof.Rows L2 Wq
open WiM (Ord allSpots holds insAt grown1 grown gAt)
/-- an order's code -/
def cd (o : List Nat) : Int := TS.code 8 (o.map fun (n : Nat) => (n : Int))
theorem vN_ints (o : List Nat) : vN o = (o.map fun (n : Nat) => (n : Int)).map V.int := by
  unfold vN
  rw [List.map_map]
  rfl
theorem dp_perm {K : PySem.W.Frag} {H : Hp} {ys xs : List V} (p : ys.Perm xs) : ∀ {os : List (List Nat)}, DpAll K H xs (os.map dO) → ∃ us : List (List Nat), us.Perm os ∧ DpAll K H ys (us.map dO) := by
  induction p with
  | nil => exact fun {os} h => ⟨os, .refl _, h⟩
  | cons x p ih =>
    intro os h
    cases os with
    | nil => cases h
    | cons o os =>
      cases h with
      | cons h1 h2 =>
        obtain ⟨us, p2, h3⟩ := ih h2
        exact ⟨o :: us, p2.cons o, .cons h1 h3⟩
  | swap x y l =>
    intro os h
    cases os with
    | nil => cases h
    | cons o os =>
      cases h with
      | cons h1 h2 =>
        cases os with
        | nil => cases h2
        | cons o2 os =>
          cases h2 with
          | cons h2 h3 => exact ⟨o2 :: o :: os, List.Perm.swap _ _ _, .cons h2 (.cons h1 h3)⟩
  | trans p q ih1 ih2 =>
    intro os h
    obtain ⟨us, p1, h1⟩ := ih2 h
    obtain ⟨ws, p2, h2⟩ := ih1 h1
    exact ⟨ws, p2.trans p1, h2⟩
theorem pw_dp {K : PySem.W.Frag} {H : Hp} : ∀ {ys : List V} {us : List (List Nat)}, DpAll K H ys (us.map dO) →
    ys.Pairwise (fun x y => ∀ n m, TupI K H x n → TupI K H y m → TS.code 8 n ≤ TS.code 8 m) → us.Pairwise fun a b => cd a ≤ cd b
  | _, [], _, _ => List.Pairwise.nil
  | _, o :: us, h, hp => by
    cases h with
    | cons h1 h2 =>
      obtain ⟨p1, p2⟩ := List.pairwise_cons.mp hp
      refine List.pairwise_cons.mpr ⟨fun b hb => ?_, pw_dp h2 p2⟩
      obtain ⟨i, hi, e⟩ := List.getElem_of_mem hb
      obtain ⟨a1, e1, t1⟩ := dO_inv h1
      have hlen := lenO h2
      have hx := List.getElem?_eq_getElem (by rw [hlen]; exact hi)
      obtain ⟨o2, ho2, h3⟩ := dOs_get h2 hx
      rw [List.getElem?_eq_getElem hi] at ho2
      have e2 : b = o2 := by rw [← e]; exact Option.some.inj ho2
      obtain ⟨a2, e3, t2⟩ := dO_inv h3
      rw [e2]
      exact p1 _ (List.getElem_mem _) _ _ ⟨a1, e1, by rw [← vN_ints]; exact t1⟩ ⟨a2, e3, by rw [← vN_ints]; exact t2⟩
section
variable {P : Program} {w : World} {K : PySem.W.Frag} {mg : Str → Option Value} {base : Heap} {A : Ad}
def spAllW (K : PySem.W.Frag) : Sp := fun vs H Q _ => ∃ (v2 : V) (m : Nat) (ps : List (List Nat)), vs = [.int (m : Int), v2] ∧ Dp K H v2 (dT ps) ∧ 1 ≤ m ∧ m ≤ 7 ∧ (∀ p ∈ ps, p.length ≤ 5) ∧ ps.length ≤ 100 ∧ (gAt ps m).length < 64 ∧
  ∀ H' l (us : List (List Nat)), Same H H' → LstO K H' l us → us.Perm (gAt ps m) → (us.Pairwise fun a b => cd a ≤ cd b) → Q (.ref l) H'
theorem scAllW : FnScope ["many", "patterns", "some", "turn"] ["many", "patterns"] (defScope sAllW) := ⟨rfl, rfl, rfl, by decide +kernel, rfl, by decide +kernel, by decide +kernel⟩
theorem sortE (K : PySem.W.Frag) {X : Cx} {d : Nat} {B : Int} {e : Expr} {t : TE} {p pos : Pos} (hd : 1 ≤ d) (hg : Gl X "sorted") (hm : X.mg "sorted" = none) (he : PE X e t) (hK : X.K = K := by rfl)
    (hs : starEach [e] X.env = (false, eval e X.env) :: starEach [] X.env := by rfl) : PE X (.Call (.Name "sorted" p) [e] [] pos) (tCB (rSortU K d B) (tCons t tNil)) := by
  subst hK
  exact pe_callB (cr_sortT hd) hg hm rfl (pa_cons (hs := hs) he pa_nil) (by decide) (by decide) (he := hs) (hpl := rfl)
theorem ok_allW {f : Addr} {fd : FuncData} (F : Fun K "all_without" "all_without" sAllW f fd) (N : Nm mg) (G : Df P w K mg base CX0 4 "grown_without" ["some", "patterns"] (spGrown K)) : FnOk P w K mg base CX0 5 f fd ["many", "patterns"] (spAllW K) := by
  refine F.ok scAllW (fun vs H Q E h => ?_) (fun cdv A' outer s H vs Q E hr h => ?_)
  · obtain ⟨v2, m, ps, rfl, _⟩ := h
    rfl
  · obtain ⟨v2, m, ps, rfl, d2, h1, h7, hp5, hps, h64, q⟩ := h
    refine ⟨_, pss_cons (ps_set (i := 2) scAllW.nd rfl (Or.inl rfl) (pe_lst (pa_cons (pe_tup pa_nil) pa_nil)))
      (pss_cons (ps_for PassesOwn.never rfl (pi_range1 (by rfl) N.range (pa_cons (pv 0) pa_nil)) (pg_name (i := 3) scAllW.nd rfl (Or.inl rfl))
        (pss_one (ps_set (i := 2) scAllW.nd rfl (Or.inl rfl) (pe_d G hr (by decide) (by rfl) pass0 (pa_cons (pv 2) (pa_cons (pv 1) pa_nil))))))
      (pss_one (ps_ret (sortE K (d := m) (B := 8) h1 (by rfl) N.sorted (pv 2))))), ?_⟩
    refine ⟨Nat.zero_le _, fun t0 ht0 => ⟨by show 1 ≤ sizeLine; decide, fun l0 hl0 => ?_⟩⟩
    have s0 : Same H (upd (upd H t0 (.tup [])) l0 (.lst [.ref t0])) := (same_upd ht0).trans (same_upd hl0)
    refine ⟨_, rfl, (m : Int), rfl, by omega, by omega, ?_⟩
    refine for_range (lo := 0) (n := (m : Int).toNat) (fun j σ H1 => ∃ (l : Addr) (y3 : Option V), σ = [some (.int (m : Int)), some v2, some (.ref l), y3] ∧ Same H H1 ∧ LstO K H1 l (gAt ps j))
      ⟨l0, none, rfl, s0, [.ref t0], upd_same, .cons (dO_of (o := []) (.of (by rw [upd_ne (ne_of_none upd_same hl0)]; exact upd_same))) .nil⟩ (fun j σ H1 hj h => ?_) (fun σ H1 h => ?_)
    · obtain ⟨l, y3, rfl, s1, hL⟩ := h
      refine ⟨_, rfl, _, rfl, _, _, gAt ps j, ps, j, rfl, hL.dp, dmn s1 d2, fun o ho => WiM.gAt_len ho, by omega, hp5, hps, ?_, fun H2 l2 s2 hL2 => ⟨l2, _, rfl, s1.trans s2, hL2⟩⟩
      refine Nat.le_trans (Nat.mul_le_mul (WiM.gAt_size ps j (by omega)) (show j + 1 ≤ 8 by omega)) ?_
      rw [← Nat.pow_succ]
      exact Nat.le_trans (Nat.pow_le_pow_right (by decide) (show j + 1 ≤ 7 by omega)) (by decide)
    · obtain ⟨l, y3, rfl, s1, xs, hl, hA⟩ := h
      rw [show (m : Int).toNat = m by omega] at hA
      refine ⟨_, rfl, l, xs, rfl, .of hl, by rw [lenO hA]; exact h64, fun x hx => ?_, fun ys p hp hw hn => ?_⟩
      · obtain ⟨i, hi⟩ := List.mem_iff_getElem?.mp hx
        obtain ⟨o, ho, dO1⟩ := dOs_get hA hi
        obtain ⟨a, rfl, hT⟩ := dO_inv dO1
        have hm := List.mem_of_getElem? ho
        refine ⟨o.map fun (n : Nat) => (n : Int), ⟨a, rfl, by rw [← vN_ints]; exact hT⟩, by rw [List.length_map]; exact WiM.gAt_len hm, fun z hz => ?_⟩
        obtain ⟨n, hn, rfl⟩ := List.mem_map.mp hz
        have := WiM.gAt_lt hm n hn
        omega
      · obtain ⟨us, pu, hU⟩ := dp_perm hp hA
        refine q _ p us (s1.trans (same_upd hn)) ⟨ys, upd_same, dmns (same_upd hn) hU⟩ pu (pw_dp hU hw)
end
end Wp
end

section
set_option Elab.async false
set_option linter.all false
set_option maxRecDepth 100000
set_option maxHeartbeats 1000000
/-! spots, count_spots, has_pattern, orders_without, count_without. -/
namespace Wp
open PySem PySem.Spec PyProof.Rows L2 Wq
open WiM (Ord allSpots holds insAt grown1 grown gAt)
theorem fI_inv {ns : List Int} (h : fI ns = true) : ∃ o : List Nat, ns = (o.map fun (n : Nat) => (n : Int)) ∧ Ord o ∧ 1 ≤ o.length ∧ o.length ≤ 30 := by
  unfold fI at h
  rw [Bool.and_eq_true, Bool.and_eq_true] at h
  obtain ⟨h1, h2, h3⟩ := h
  have h1 := of_decide_eq_true h1
  have h3 := of_decide_eq_true h3
  have h2 : ∀ i ∈ ns, 0 ≤ i ∧ i ≤ (ns.length : Int) - 1 := fun i hi => of_decide_eq_true (List.all_eq_true.mp h2 i hi)
  have e : ns = ((ns.map Int.toNat).map fun (n : Nat) => (n : Int)) := by
    rw [List.map_map]
    conv => lhs; rw [← List.map_id ns]
    apply List.map_congr_left
    intro i hi
    have := h2 i hi
    show i = ((i.toNat : Nat) : Int)
    omega
  refine ⟨ns.map Int.toNat, e, ⟨?_, fun x hx => ?_⟩, by rw [List.length_map]; exact h1.1, by rw [List.length_map]; exact h1.2⟩
  · rw [e] at h3
    exact all_nat.mp h3
  · obtain ⟨i, hi, rfl⟩ := List.mem_map.mp hx
    have := h2 i hi
    rw [List.length_map]
    omega
theorem fO_inv {a : Arg} (h : fO a = true) : ∃ o, a = argO o ∧ Ord o ∧ 1 ≤ o.length ∧ o.length ≤ 30 := by
  cases a with
  | non => cases h
  | lst ds => cases h
  | tup ns =>
    obtain ⟨o, rfl, h1⟩ := fI_inv h
    exact ⟨o, rfl, h1⟩
theorem fP_inv {a : Arg} (h : fP a = true) : ∃ o, a = argO o ∧ Ord o ∧ 1 ≤ o.length ∧ o.length ≤ 5 := by
  cases a with
  | non => cases h
  | lst ds => cases h
  | tup ns =>
    have h' : (fI ns && decide (ns.length ≤ 5)) = true := h
    rw [Bool.and_eq_true] at h'
    obtain ⟨o, rfl, h1, h2, h3⟩ := fI_inv h'.1
    refine ⟨o, rfl, h1, h2, ?_⟩
    have := of_decide_eq_true h'.2
    rw [List.length_map] at this
    exact this
theorem argO_inj {a b : List Nat} (h : argO a = argO b) : a = b := by
  have h' := Arg.tup.inj h
  have e := congrArg (List.map Int.toNat) h'
  rw [List.map_map, List.map_map] at e
  have z : ∀ o : List Nat, o.map (Int.toNat ∘ fun (n : Nat) => (n : Int)) = o := fun o => List.map_id o
  rw [z, z] at e
  exact e
theorem fPs_inv : ∀ {as : List Arg}, (∀ a ∈ as, fP a = true) → ∃ ps : List (List Nat), as = ps.map argO ∧ ∀ p ∈ ps, Ord p ∧ 1 ≤ p.length ∧ p.length ≤ 5
  | [], _ => ⟨[], rfl, fun p hp => absurd hp (by simp)⟩
  | a :: as, h => by
    obtain ⟨o, rfl, h1⟩ := fP_inv (h a List.mem_cons_self)
    obtain ⟨ps, rfl, h2⟩ := fPs_inv (as := as) fun b hb => h b (List.mem_cons_of_mem _ hb)
    refine ⟨o :: ps, rfl, fun p hp => ?_⟩
    rcases List.mem_cons.mp hp with rfl | hp
    · exact h1
    · exact h2 p hp
section
variable {P : Program} {w : World} {K : PySem.W.Frag} {mg : Str → Option Value} {base : Heap} {A : Ad}
/-- of an order and a pattern; R is the answer -/
def spOP (K : PySem.W.Frag) (A : Ad) (few : Bool) (R : List Nat → List Nat → Hp → VK → Prop) : Sp := fun vs H Q E => ∃ (v1 v2 : V) (a1 a2 : Arg), vs = [v1, v2] ∧ Dp K H v1 a1.d ∧ Dp K H v2 a2.d ∧ a1.small ∧ a2.small ∧
  (fO a1 = false → Raise A .ord H E) ∧ (fO a1 = true → fP a2 = false → Raise A .pat H E) ∧
  ∀ o p, a1 = argO o → a2 = argO p → Ord o → Ord p → 1 ≤ o.length → o.length ≤ 30 → 1 ≤ p.length → p.length ≤ 5 → (few = true → 12 < o.length → Raise A .few H E) ∧ ((few = true → o.length ≤ 12) → o.length ^ p.length ≤ 1000000 ∧ ∀ H', Same H H' → R o p H' Q)
def rSpots (K : PySem.W.Frag) : List Nat → List Nat → Hp → VK → Prop := fun o p H Q => ∀ H' l, Same H H' → LstO K H' l (allSpots o p) → Q (.ref l) H'
def rCount : List Nat → List Nat → Hp → VK → Prop := fun o p H Q => ∀ H', Same H H' → Q (.int ((allSpots o p).length : Nat)) H'
def rHas : List Nat → List Nat → Hp → VK → Prop := fun o p H Q => ∀ H', Same H H' → Q (.bl (holds o p)) H'
theorem scSpots : FnScope ["order", "pattern"] ["order", "pattern"] (defScope sSpots) := ⟨rfl, rfl, rfl, by decide +kernel, rfl, by decide +kernel, by decide +kernel⟩
theorem scCount : FnScope ["order", "pattern"] ["order", "pattern"] (defScope sCount) := ⟨rfl, rfl, rfl, by decide +kernel, rfl, by decide +kernel, by decide +kernel⟩
theorem scHas : FnScope ["order", "pattern"] ["order", "pattern"] (defScope sHas) := ⟨rfl, rfl, rfl, by decide +kernel, rfl, by decide +kernel, by decide +kernel⟩
/-- the defs that these call -/
structure Dfs (P : Program) (w : World) (K : PySem.W.Frag) (mg : Str → Option Value) (base : Heap) (A : Ad) : Prop where
  nO : Df P w K mg base (L2N.CX P w) 3 "need_order" ["value"] (spNeedA K A .ord fO)
  nP : Df P w K mg base (L2N.CX P w) 4 "need_pattern" ["value"] (spNeedA K A .pat fP)
  nPs : Df P w K mg base (L2N.CX P w) 4 "need_patterns" ["value"] (spNeedPs K A)
  nF : Df P w K mg base (L2N.CX P w) 2 "need_few" ["many", "limit"] (spNeedF A)
  nM : Df P w K mg base (L2N.CX P w) 2 "need_many" ["value"] (spNeedM A)
  sp : Df P w K mg base CX0 2 "all_spots" ["order", "pattern"] (spAllSpots K)
  ho : Df P w K mg base CX0 3 "holds" ["order", "pattern"] (spHolds K)
  wo : Df P w K mg base CX0 5 "all_without" ["many", "patterns"] (spAllW K)
theorem ok_spots {f : Addr} {fd : FuncData} (F : Fun K "spots" "spots" sSpots f fd) (N : Nm mg) (D : Dfs P w K mg base A) :
    FnOk P w K mg base (L2N.CX P w) 5 f fd ["order", "pattern"] (spOP K A true (rSpots K)) := by
  refine okN F scSpots (fun vs H Q E h => ?_) (fun cdv A' outer s H vs Q E hr h => ?_)
  · obtain ⟨v1, v2, a1, a2, rfl, _⟩ := h
    rfl
  · obtain ⟨v1, v2, a1, a2, rfl, d1, d2, m1, m2, q1, q2, q3⟩ := h
    refine ⟨_, pss_cons (ps_expr (pe_ds D.nO hr (by decide) (by rfl) (L2N.takes_of rfl rfl rfl rfl) (pa_cons (pv 0) pa_nil)))
      (pss_cons (ps_expr (pe_ds D.nP hr (by decide) (by rfl) (L2N.takes_of rfl rfl rfl rfl) (pa_cons (pv 1) pa_nil)))
      (pss_cons (ps_expr (pe_ds D.nF hr (by decide) (by rfl) (L2N.takes_of rfl rfl rfl rfl) (pa_cons (lenE K (by rfl) N.len (pv 0)) (pa_cons pe_int pa_nil))))
      (pss_one (ps_ret (pe_d D.sp hr (by decide) (by rfl) pass0 (pa_cons (pv 0) (pa_cons (pv 1) pa_nil))))))), ?_⟩
    refine ⟨_, rfl, v1, a1, rfl, d1, m1, q1, fun e1 H1 s1 => ?_⟩
    refine ⟨_, rfl, v2, a2, rfl, dmn s1 d2, m2, fun e2 => (q2 e1 e2).mono s1, fun e2 H2 s2 => ?_⟩
    obtain ⟨o, rfl, O1, l1, l2⟩ := fO_inv e1
    obtain ⟨p, rfl, O2, l3, l4⟩ := fP_inv e2
    rw [argO_d] at d1 d2
    obtain ⟨qf, qv⟩ := q3 o p rfl rfl O1 O2 l1 l2 l3 l4
    obtain ⟨a, rfl, T1⟩ := dO_inv d1
    refine ⟨_, rfl, a, _, rfl, .inr (seqT (s1.trans s2) T1), _, _, rfl, fun hl => ?_, fun hl => ?_⟩
    · rw [vN_len] at hl
      exact (qf rfl (by omega)).mono (s1.trans s2)
    · rw [vN_len] at hl
      obtain ⟨hw, q⟩ := qv fun _ => by omega
      exact ⟨_, rfl, _, rfl, _, _, o, p, rfl, dmn (s1.trans s2) d1, dmn (s1.trans s2) d2, l1, by omega, by omega, hw, fun H3 l s3 hL => q _ (s1.trans s2) H3 l s3 hL⟩
theorem ok_count {f : Addr} {fd : FuncData} (F : Fun K "count_spots" "count_spots" sCount f fd) (N : Nm mg) (D : Dfs P w K mg base A) :
    FnOk P w K mg base (L2N.CX P w) 5 f fd ["order", "pattern"] (spOP K A true rCount) := by
  refine okN F scCount (fun vs H Q E h => ?_) (fun cdv A' outer s H vs Q E hr h => ?_)
  · obtain ⟨v1, v2, a1, a2, rfl, _⟩ := h
    rfl
  · obtain ⟨v1, v2, a1, a2, rfl, d1, d2, m1, m2, q1, q2, q3⟩ := h
    refine ⟨_, pss_cons (ps_expr (pe_ds D.nO hr (by decide) (by rfl) (L2N.takes_of rfl rfl rfl rfl) (pa_cons (pv 0) pa_nil)))
      (pss_cons (ps_expr (pe_ds D.nP hr (by decide) (by rfl) (L2N.takes_of rfl rfl rfl rfl) (pa_cons (pv 1) pa_nil)))
      (pss_cons (ps_expr (pe_ds D.nF hr (by decide) (by rfl) (L2N.takes_of rfl rfl rfl rfl) (pa_cons (lenE K (by rfl) N.len (pv 0)) (pa_cons pe_int pa_nil))))
      (pss_one (ps_ret (lenE K (by rfl) N.len (pe_d D.sp hr (by decide) (by rfl) pass0 (pa_cons (pv 0) (pa_cons (pv 1) pa_nil)))))))), ?_⟩
    refine ⟨_, rfl, v1, a1, rfl, d1, m1, q1, fun e1 H1 s1 => ?_⟩
    refine ⟨_, rfl, v2, a2, rfl, dmn s1 d2, m2, fun e2 => (q2 e1 e2).mono s1, fun e2 H2 s2 => ?_⟩
    obtain ⟨o, rfl, O1, l1, l2⟩ := fO_inv e1
    obtain ⟨p, rfl, O2, l3, l4⟩ := fP_inv e2
    rw [argO_d] at d1 d2
    obtain ⟨qf, qv⟩ := q3 o p rfl rfl O1 O2 l1 l2 l3 l4
    obtain ⟨a, rfl, T1⟩ := dO_inv d1
    refine ⟨_, rfl, a, _, rfl, .inr (seqT (s1.trans s2) T1), _, _, rfl, fun hl => ?_, fun hl => ?_⟩
    · rw [vN_len] at hl
      exact (qf rfl (by omega)).mono (s1.trans s2)
    · rw [vN_len] at hl
      obtain ⟨hw, q⟩ := qv fun _ => by omega
      refine ⟨_, rfl, _, rfl, _, _, o, p, rfl, dmn (s1.trans s2) d1, dmn (s1.trans s2) d2, l1, by omega, by omega, hw, fun H3 l s3 hL => ?_⟩
      obtain ⟨xs, hx1, hx2⟩ := hL
      refine ⟨l, xs, rfl, .inl (.of hx1), ?_⟩
      rw [lenO hx2]
      exact q _ (s1.trans s2) H3 s3
theorem ok_has {f : Addr} {fd : FuncData} (F : Fun K "has_pattern" "has_pattern" sHas f fd) (N : Nm mg) (D : Dfs P w K mg base A) :
    FnOk P w K mg base (L2N.CX P w) 5 f fd ["order", "pattern"] (spOP K A false rHas) := by
  refine okN F scHas (fun vs H Q E h => ?_) (fun cdv A' outer s H vs Q E hr h => ?_)
  · obtain ⟨v1, v2, a1, a2, rfl, _⟩ := h
    rfl
  · obtain ⟨v1, v2, a1, a2, rfl, d1, d2, m1, m2, q1, q2, q3⟩ := h
    refine ⟨_, pss_cons (ps_expr (pe_ds D.nO hr (by decide) (by rfl) (L2N.takes_of rfl rfl rfl rfl) (pa_cons (pv 0) pa_nil)))
      (pss_cons (ps_expr (pe_ds D.nP hr (by decide) (by rfl) (L2N.takes_of rfl rfl rfl rfl) (pa_cons (pv 1) pa_nil)))
      (pss_one (ps_ret (pe_d D.ho hr (by decide) (by rfl) pass0 (pa_cons (pv 0) (pa_cons (pv 1) pa_nil)))))), ?_⟩
    refine ⟨_, rfl, v1, a1, rfl, d1, m1, q1, fun e1 H1 s1 => ?_⟩
    refine ⟨_, rfl, v2, a2, rfl, dmn s1 d2, m2, fun e2 => (q2 e1 e2).mono s1, fun e2 H2 s2 => ?_⟩
    obtain ⟨o, rfl, O1, l1, l2⟩ := fO_inv e1
    obtain ⟨p, rfl, O2, l3, l4⟩ := fP_inv e2
    rw [argO_d] at d1 d2
    obtain ⟨qf, qv⟩ := q3 o p rfl rfl O1 O2 l1 l2 l3 l4
    obtain ⟨hw, q⟩ := qv fun z => nomatch z
    exact ⟨_, rfl, _, rfl, _, _, o, p, rfl, dmn (s1.trans s2) d1, dmn (s1.trans s2) d2, l1, by omega, by omega, hw, fun H3 s3 => q _ (s1.trans s2) H3 s3⟩
/-- of so many things and patterns -/
def spMP (K : PySem.W.Frag) (A : Ad) (lim : Nat) (R : Nat → List (List Nat) → Hp → VK → Prop) : Sp := fun vs H Q E => ∃ (n : Int) (v2 : V) (a2 : PArg), vs = [.int n, v2] ∧ Dp K H v2 a2.d ∧ a2.small ∧
  (¬ (1 ≤ n ∧ n ≤ 30) → Raise A .many H E) ∧ (1 ≤ n ∧ n ≤ 30 → fPs a2 = false → Raise A .pats H E) ∧
  ∀ (m : Nat) ps, n = (m : Int) → a2 = .tup (ps.map argO) → (∀ p ∈ ps, Ord p ∧ 1 ≤ p.length ∧ p.length ≤ 5) → 1 ≤ ps.length → ps.length ≤ 6 → 1 ≤ m → (lim < m → Raise A .few H E) ∧ (m ≤ lim → (gAt ps m).length < 64 ∧ ∀ H', Same H H' → R m ps H' Q)
def rOrdW (K : PySem.W.Frag) : Nat → List (List Nat) → Hp → VK → Prop := fun m ps H Q => ∀ H' l (us : List (List Nat)), Same H H' → LstO K H' l us → us.Perm (gAt ps m) → (us.Pairwise fun a b => cd a ≤ cd b) → Q (.ref l) H'
def rCountW : Nat → List (List Nat) → Hp → VK → Prop := fun m ps H Q => ∀ H', Same H H' → Q (.int ((gAt ps m).length : Nat)) H'
theorem scOrdW : FnScope ["many", "patterns"] ["many", "patterns"] (defScope sOrdW) := ⟨rfl, rfl, rfl, by decide +kernel, rfl, by decide +kernel, by decide +kernel⟩
theorem scCountW : FnScope ["many", "patterns"] ["many", "patterns"] (defScope sCountW) := ⟨rfl, rfl, rfl, by decide +kernel, rfl, by decide +kernel, by decide +kernel⟩
theorem dT_of {H : Hp} {v : V} {ps : List (List Nat)} (h : Dp K H v (PArg.tup (ps.map argO)).d) : Dp K H v (dT ps) := by
  have e : (PArg.tup (ps.map argO)).d = dT ps := by
    show PyData.tuple ((ps.map argO).map Arg.d) = PyData.tuple (ps.map dO)
    rw [List.map_map]
    congr 1
    apply List.map_congr_left
    intro o _
    exact argO_d o
  rw [← e]
  exact h
theorem fPs_tup {a : PArg} (h : fPs a = true) : ∃ ps : List (List Nat), a = .tup (ps.map argO) ∧ (∀ p ∈ ps, Ord p ∧ 1 ≤ p.length ∧ p.length ≤ 5) ∧ 1 ≤ ps.length ∧ ps.length ≤ 6 := by
  cases a with
  | non => cases h
  | lst ds => cases h
  | tup as =>
    have h' : (decide (1 ≤ as.length ∧ as.length ≤ 6) && as.all fP) = true := h
    rw [Bool.and_eq_true] at h'
    have h1 := of_decide_eq_true h'.1
    obtain ⟨ps, rfl, h2⟩ := fPs_inv fun a ha => List.all_eq_true.mp h'.2 a ha
    exact ⟨ps, rfl, h2, by rw [List.length_map] at h1; exact h1⟩
theorem fPs_of {ps : List (List Nat)} (h : ∀ p ∈ ps, Ord p ∧ 1 ≤ p.length ∧ p.length ≤ 5) (h1 : 1 ≤ ps.length) (h6 : ps.length ≤ 6) : fPs (.tup (ps.map argO)) = true := by
  show (decide (1 ≤ (ps.map argO).length ∧ (ps.map argO).length ≤ 6) && (ps.map argO).all fP) = true
  rw [List.length_map, decide_eq_true ⟨h1, h6⟩, Bool.true_and, List.all_eq_true]
  intro a ha
  obtain ⟨p, hp, rfl⟩ := List.mem_map.mp ha
  obtain ⟨q1, q2, q3⟩ := h p hp
  exact fP_of q1 q2 q3
theorem ok_ordW {f : Addr} {fd : FuncData} (F : Fun K "orders_without" "orders_without" sOrdW f fd) (N : Nm mg) (D : Dfs P w K mg base A) :
    FnOk P w K mg base (L2N.CX P w) 6 f fd ["many", "patterns"] (spMP K A 6 (rOrdW K)) := by
  refine okN F scOrdW (fun vs H Q E h => ?_) (fun cdv A' outer s H vs Q E hr h => ?_)
  · obtain ⟨n, v2, a2, rfl, _⟩ := h
    rfl
  · obtain ⟨n, v2, a2, rfl, d2, m2, q1, q2, q3⟩ := h
    refine ⟨_, pss_cons (ps_expr (pe_ds D.nM hr (by decide) (by rfl) (L2N.takes_of rfl rfl rfl rfl) (pa_cons (pv 0) pa_nil)))
      (pss_cons (ps_expr (pe_ds D.nPs hr (by decide) (by rfl) (L2N.takes_of rfl rfl rfl rfl) (pa_cons (pv 1) pa_nil)))
      (pss_cons (ps_expr (pe_ds D.nF hr (by decide) (by rfl) (L2N.takes_of rfl rfl rfl rfl) (pa_cons (pv 0) (pa_cons pe_int pa_nil))))
      (pss_one (ps_ret (pe_d D.wo hr (by decide) (by rfl) pass0 (pa_cons (pv 0) (pa_cons (pv 1) pa_nil))))))), ?_⟩
    refine ⟨_, rfl, n, rfl, q1, fun hn => ?_⟩
    refine ⟨_, rfl, v2, a2, rfl, d2, m2, q2 hn, fun e2 H2 s2 => ?_⟩
    obtain ⟨ps, rfl, O2, l1, l6⟩ := fPs_tup e2
    obtain ⟨m, rfl⟩ : ∃ m : Nat, n = (m : Int) := ⟨n.toNat, by omega⟩
    obtain ⟨qf, qv⟩ := q3 m ps rfl rfl O2 l1 l6 (by omega)
    refine ⟨_, rfl, _, _, rfl, fun hl => ?_, fun hl => ?_⟩
    · exact (qf (by omega)).mono s2
    · obtain ⟨h64, q⟩ := qv (by omega)
      exact ⟨_, rfl, _, rfl, v2, m, ps, rfl, dT_of (dmn s2 d2), by omega, by omega, fun p hp => (O2 p hp).2.2, by omega, h64, fun H3 l us s3 hL hp hw => q _ s2 H3 l us s3 hL hp hw⟩
theorem ok_countW {f : Addr} {fd : FuncData} (F : Fun K "count_without" "count_without" sCountW f fd) (N : Nm mg) (D : Dfs P w K mg base A) :
    FnOk P w K mg base (L2N.CX P w) 6 f fd ["many", "patterns"] (spMP K A 7 rCountW) := by
  refine okN F scCountW (fun vs H Q E h => ?_) (fun cdv A' outer s H vs Q E hr h => ?_)
  · obtain ⟨n, v2, a2, rfl, _⟩ := h
    rfl
  · obtain ⟨n, v2, a2, rfl, d2, m2, q1, q2, q3⟩ := h
    refine ⟨_, pss_cons (ps_expr (pe_ds D.nM hr (by decide) (by rfl) (L2N.takes_of rfl rfl rfl rfl) (pa_cons (pv 0) pa_nil)))
      (pss_cons (ps_expr (pe_ds D.nPs hr (by decide) (by rfl) (L2N.takes_of rfl rfl rfl rfl) (pa_cons (pv 1) pa_nil)))
      (pss_cons (ps_expr (pe_ds D.nF hr (by decide) (by rfl) (L2N.takes_of rfl rfl rfl rfl) (pa_cons (pv 0) (pa_cons pe_int pa_nil))))
      (pss_one (ps_ret (lenE K (by rfl) N.len (pe_d D.wo hr (by decide) (by rfl) pass0 (pa_cons (pv 0) (pa_cons (pv 1) pa_nil)))))))), ?_⟩
    refine ⟨_, rfl, n, rfl, q1, fun hn => ?_⟩
    refine ⟨_, rfl, v2, a2, rfl, d2, m2, q2 hn, fun e2 H2 s2 => ?_⟩
    obtain ⟨ps, rfl, O2, l1, l6⟩ := fPs_tup e2
    obtain ⟨m, rfl⟩ : ∃ m : Nat, n = (m : Int) := ⟨n.toNat, by omega⟩
    obtain ⟨qf, qv⟩ := q3 m ps rfl rfl O2 l1 l6 (by omega)
    refine ⟨_, rfl, _, _, rfl, fun hl => ?_, fun hl => ?_⟩
    · exact (qf (by omega)).mono s2
    · obtain ⟨h64, q⟩ := qv (by omega)
      refine ⟨_, rfl, _, rfl, v2, m, ps, rfl, dT_of (dmn s2 d2), by omega, by omega, fun p hp => (O2 p hp).2.2, by omega, h64, fun H3 l us s3 hL hp hw => ?_⟩
      obtain ⟨xs, hx1, hx2⟩ := hL
      refine ⟨l, xs, rfl, .inl (.of hx1), ?_⟩
      rw [lenO hx2, hp.length_eq]
      exact q _ s2 H3 s3
end
end Wp
end

section
set_option Elab.async false
set_option linter.all false
set_option maxRecDepth 100000
set_option maxHeartbeats 1000000
/-! The law's drum, roll, order. -/
namespace Wp
open PySem PySem.Spec PyProof.Rows L2 Wq
open WiM (Ord allSpots holds insAt grown1 grown gAt)
section
variable {P : Program} {w : World} {K : PySem.W.Frag} {mg : Str → Option Value} {base : Heap} {A : Ad}
def spDrum : Sp := fun vs H Q _ => ∃ c : Int, vs = [.int c, .int 7] ∧ ∀ p g k, 0 ≤ g → H p = none → Q (.ref p) (upd H p (.lst [.int g, .int k]))
theorem scDrum : FnScope ["_law_cell", "_law_turn", "_law_great"] ["_law_cell", "_law_turn"] (defScope sDrum) := ⟨rfl, rfl, rfl, by decide +kernel, rfl, by decide +kernel, by decide +kernel⟩
theorem ok_drum {f : Addr} {fd : FuncData} (F : Fun K "_law_drum" "_law_drum" sDrum f fd) (N : Nm mg) : FnOk P w K mg base CX0 1 f fd ["_law_cell", "_law_turn"] spDrum := by
  refine F.ok scDrum (fun vs H Q E h => ?_) (fun cdv A' outer s H vs Q E hr h => ?_)
  · obtain ⟨c, rfl, _⟩ := h
    rfl
  · obtain ⟨c, rfl, q⟩ := h
    refine ⟨_, C8.pss_cut (ps_set (i := 2) scDrum.nd rfl (Or.inl rfl) (pe_ifExp (pt_cmpR op_ge (pv 0) (pe_op op_pow pe_int pe_int) (nomark _)) (pe_op op_add (pe_op op_fdiv (pv 0) pe_int) (pe_op op_mul pe_int (pv 1))) pe_int))
      (pss_one (ps_ret (pe_lst (pa_cons (pv 2) (pa_cons (pe_op op_add (pe_op op_mod (pe_callTy call_int1 (by rfl) N.int rfl (pa_cons (pe_op op_add (pe_op op_mul (pv 0) pe_int) (pe_op op_mul pe_int (pv 1))) pa_nil)) pe_int) pe_int) pa_nil))))), ?_⟩
    refine ⟨fun σ' H3 => ∃ g : Int, 0 ≤ g ∧ σ' = [some (.int c), some (.int 7), some (.int g)] ∧ H3 = H, ?_, fun σ' H3 hm => ?_⟩
    · refine ⟨_, rfl, _, _, rfl, rfl, ⟨by decide, by decide, by decide⟩, _, _, rfl, rfl, _, rfl, ite2 (fun h1 => ?_) fun h1 => ⟨0, by decide, rfl, rfl⟩⟩
      have h1 := of_decide_eq_true h1
      refine ⟨_, rfl, _, _, rfl, rfl, ⟨by decide, by decide⟩, _, rfl, _, _, rfl, rfl, .inl (by decide), _, _, rfl, rfl, _, ?_, rfl, rfl⟩
      have h2 : (0 : Int) ≤ c := Int.le_trans (by decide) h1
      have := Int.ediv_nonneg h2 (show (0 : Int) ≤ 7 by decide)
      omega
    · obtain ⟨g, hg, rfl, rfl⟩ := hm
      refine ⟨_, rfl, _, rfl, _, _, rfl, rfl, .inr (by decide), _, rfl, _, _, rfl, rfl, .inl (by decide), _, _, rfl, rfl, .inl ⟨_, rfl, ?_⟩⟩
      refine ⟨_, _, rfl, rfl, by show (0 : Int) < 2077504273; decide, _, _, rfl, rfl, by show 2 ≤ sizeLine; decide, fun p hp => ?_⟩
      exact q p g _ hg hp
def spRoll : Sp := fun vs H Q _ => ∃ (a : Addr) (m : Nat) (g k : Int), vs = [.ref a, .int (m : Int)] ∧ 1 ≤ m ∧ m ≤ 100 ∧ 0 ≤ g ∧ H a = some (.lst [.int g, .int k]) ∧ ∀ (r : Nat) g' k', 0 ≤ g' → r < m → Q (.int (r : Int)) (upd H a (.lst [.int g', .int k']))
theorem scRoll : FnScope ["_law_keg", "_law_many", "_law_found", "_law_deep"] ["_law_keg", "_law_many"] (defScope sRoll) := ⟨rfl, rfl, rfl, by decide +kernel, rfl, by decide +kernel, by decide +kernel⟩
/-- xs[i], xs a list -/
def tIxL (K : PySem.W.Frag) (ta tb : TE) : TE := tOp (rIxL K) ta tb
theorem ixLE (K : PySem.W.Frag) {X : Cx} {a b : Expr} {ta tb : TE} {pos : Pos} (ha : PE X a ta) (hb : PE X b tb) (hK : X.K = K := by rfl) (hs : PlainIx b := by exact fun _ _ => rfl) : PE X (.Subscript a b pos) (tIxL K ta tb) := by
  subst hK
  exact pe_ix ix_list ha hb hs
theorem ok_roll {f : Addr} {fd : FuncData} (F : Fun K "_law_roll" "_law_roll" sRoll f fd) (N : Nm mg) : FnOk P w K mg base CX0 1 f fd ["_law_keg", "_law_many"] spRoll := by
  refine F.ok scRoll (fun vs H Q E h => ?_) (fun cdv A' outer s H vs Q E hr h => ?_)
  · obtain ⟨a, m, g, k, rfl, _⟩ := h
    rfl
  · obtain ⟨a, m, g, k, rfl, h1, h100, hg, ha, q⟩ := h
    refine ⟨_, pss_cons (ps_if (pt_cmpR op_gt (ixLE K (pv 0) pe_int) pe_int (nomark _))
        (pss_cons (ps_set (i := 2) scRoll.nd rfl (Or.inl rfl) (pe_op op_mod (pe_callTy call_int1 (by rfl) N.int rfl (pa_cons (ixLE K (pv 0) pe_int) pa_nil)) (pv 1)))
        (pss_cons (ps_asg (pe_op op_fdiv (ixLE K (pv 0) pe_int) (pv 1)) (pg_sub (pv 0) pe_int set_list))
        (pss_one (ps_ret (pv 2))))) pss_nil)
      (pss_cons (ps_asg (pe_op op_mod (pe_callTy call_int1 (by rfl) N.int rfl (pa_cons (pe_op op_add (pe_op op_mul (ixLE K (pv 0) pe_int) pe_int) pe_int) pa_nil)) pe_int) (pg_sub (pv 0) pe_int set_list))
      (pss_cons (ps_set (i := 3) scRoll.nd rfl (Or.inl rfl) (pe_op op_mod (pe_callTy call_int1 (by rfl) N.int rfl (pa_cons (pe_op op_mul (ixLE K (pv 0) pe_int) (pe_op op_add (ixLE K (pv 0) pe_int) pe_int)) pa_nil)) pe_int))
      (pss_one (ps_ret (pe_op op_mod (pe_callTy call_int1 (by rfl) N.int rfl (pa_cons (pe_op op_fdiv (pv 3) pe_int) pa_nil)) (pv 1)))))), ?_⟩
    have hm : (0 : Int) < (m : Int) := by omega
    have fin : ∀ (x : Int) g' k', 0 ≤ g' → Q (.int (x % (m : Int))) (upd H a (.lst [.int g', .int k'])) := fun x g' k' h' => by
      have e1 := Int.emod_nonneg x (show (m : Int) ≠ 0 by omega)
      have e2 := Int.emod_lt_of_pos x hm
      have z := q (x % (m : Int)).toNat g' k' h' (by omega)
      rw [show (((x % (m : Int)).toNat : Nat) : Int) = x % (m : Int) by omega] at z
      exact z
    refine ⟨_, rfl, a, _, _, _, rfl, rfl, .of ha, rfl, _, _, rfl, rfl, _, rfl, ite2 (fun hg0 => ?_) fun hg0 => ?_⟩
    · refine ⟨_, rfl, a, _, _, _, rfl, rfl, .of ha, rfl, .inl ⟨_, rfl, ?_⟩⟩
      refine ⟨_, rfl, _, _, rfl, rfl, hm, ?_⟩
      refine ⟨_, rfl, a, _, _, _, rfl, rfl, .of ha, rfl, _, rfl, _, _, rfl, rfl, ⟨hm, by omega⟩, ?_⟩
      refine ⟨_, rfl, a, _, _, _, rfl, rfl, ha, rfl, ⟨_, rfl, ?_⟩⟩
      exact fin g _ k (Int.ediv_nonneg hg (by omega))
    · refine ⟨_, rfl, a, _, _, _, rfl, rfl, .of ha, rfl, _, _, rfl, rfl, .inr (by decide), _, _, rfl, rfl, .inl ⟨_, rfl, ?_⟩⟩
      refine ⟨_, _, rfl, rfl, by show (0 : Int) < 2147483549; decide, ?_⟩
      refine ⟨_, rfl, a, _, _, _, rfl, rfl, ha, rfl, ?_⟩
      have e1 := Int.emod_nonneg (k * 30671 + 8807) (show (2147483549 : Int) ≠ 0 by decide)
      have e2 := Int.emod_lt_of_pos (k * 30671 + 8807) (show (0 : Int) < 2147483549 by decide)
      generalize (k * 30671 + 8807) % 2147483549 = k1 at e1 e2 ⊢
      refine ⟨_, rfl, a, _, _, _, rfl, rfl, .of upd_same, rfl, _, rfl, a, _, _, _, rfl, rfl, .of upd_same, rfl, _, _, rfl, rfl, _, _, rfl, rfl, .inl (by omega), .inl ⟨_, rfl, ?_⟩⟩
      refine ⟨_, _, rfl, rfl, by show (0 : Int) < 2147483587; decide, ?_⟩
      refine ⟨_, rfl, _, _, rfl, rfl, ⟨by decide, by decide⟩, .inl ⟨_, rfl, ?_⟩⟩
      exact ⟨_, rfl, _, _, rfl, rfl, hm, fin _ g _ hg⟩
end
end Wp
end

section
set_option Elab.async false
set_option linter.all false
set_option maxRecDepth 100000
set_option maxHeartbeats 1000000
/-! The law's order. -/
namespace WiM
/-- an order's step -/
theorem take_perm {found left : List Nat} {r x : Nat} {rs : List Nat} (h : left[r]? = some x) (p : (found ++ left).Perm rs) : ((found ++ [x]) ++ (left.take r ++ left.drop (r + 1))).Perm rs := by
  refine List.Perm.trans ?_ p
  rw [List.append_assoc]
  refine List.Perm.append_left _ ?_
  have hr : r < left.length := (List.getElem?_eq_some_iff.mp h).1
  have e : left = left.take r ++ x :: left.drop (r + 1) := by
    have h2 := (List.getElem?_eq_some_iff.mp h).2
    conv => lhs; rw [← List.take_append_drop r left, List.drop_eq_getElem_cons hr, h2]
  conv => rhs; rw [e]
  show (x :: (left.take r ++ left.drop (r + 1))).Perm _
  exact (List.perm_middle).symm
theorem ord_of_perm {o : List Nat} {m : Nat} (p : o.Perm (List.range m)) : Ord o ∧ o.length = m := by
  have hl : o.length = m := by rw [p.length_eq, List.length_range]
  exact ⟨⟨p.nodup_iff.mpr List.nodup_range, fun x hx => by rw [hl]; exact List.mem_range.mp (p.mem_iff.mp hx)⟩, hl⟩
end WiM
namespace Wp
open PySem PySem.Spec PyProof.Rows L2 Wq
open WiM (Ord allSpots holds insAt grown1 grown gAt)
/-! ### the keg -/
def KegIs (a : Addr) (H : Hp) : Prop := ∃ g k : Int, 0 ≤ g ∧ H a = some (.lst [.int g, .int k])
/-- all but the keg stays -/
def SameE (a : Addr) (H H' : Hp) : Prop := KegIs a H' ∧ ∀ b x, b ≠ a → H b = some x → H' b = some x
theorem SameE.refl {a : Addr} {H : Hp} (h : KegIs a H) : SameE a H H := ⟨h, fun _ _ _ e => e⟩
theorem SameE.trans {a : Addr} {H H1 H2 : Hp} (h1 : SameE a H H1) (h2 : SameE a H1 H2) : SameE a H H2 := ⟨h2.1, fun b x n e => h2.2 b x n (h1.2 b x n e)⟩
theorem SameE.same {a : Addr} {H H1 H2 : Hp} (h1 : SameE a H H1) (h2 : Same H1 H2) : SameE a H H2 := by
  obtain ⟨⟨g, k, hg, hk⟩, h⟩ := h1
  exact ⟨⟨g, k, hg, h2 _ _ hk⟩, fun b x n e => h2 _ _ (h b x n e)⟩
theorem SameE.of {a : Addr} {H H2 : Hp} (h1 : KegIs a H) (h2 : Same H H2) : SameE a H H2 := (SameE.refl h1).same h2
theorem KegIs.mono {a : Addr} {H H2 : Hp} (h1 : KegIs a H) (h2 : Same H H2) : KegIs a H2 := (SameE.of h1 h2).1
theorem SameE.upd {a : Addr} {H : Hp} {g k : Int} (hg : 0 ≤ g) : SameE a H (upd H a (.lst [.int g, .int k])) := ⟨⟨g, k, hg, upd_same⟩, fun b x n e => by rw [upd_ne n]; exact e⟩
section
variable {K : PySem.W.Frag} {H H' : Hp} {a : Addr}
theorem seqT_keg (h0 : KegIs a H) (e : SameE a H H') {c : Addr} {xs : List V} (h : SqT K H c xs) : SqT K H' c xs := by
  obtain ⟨g, k, _, hk⟩ := h0
  have nb : ∀ {b : Addr} {u : HO}, H b = some u → u ≠ .lst [.int g, .int k] → b ≠ a := fun {b u} e ne z => by
    rw [z, hk] at e
    exact ne (Option.some.inj e).symm
  rcases h with (h | ⟨o, h⟩) | h
  · exact .inl (.inl (e.2 _ _ (nb h (by intro z; cases z)) h))
  · exact .inl (.inr ⟨o, e.2 _ _ (nb h (by intro z; cases z)) h⟩)
  · exact .inr h
theorem dO_keg (h0 : KegIs a H) (e : SameE a H H') {v : V} {o : List Nat} (h : Dp K H v (dO o)) : Dp K H' v (dO o) := by
  obtain ⟨c, rfl, hT⟩ := dO_inv h
  exact dO_of (seqT_keg h0 e hT)
theorem dOs_keg (h0 : KegIs a H) (e : SameE a H H') : ∀ {os : List (List Nat)} {vs : List V}, DpAll K H vs (os.map dO) → DpAll K H' vs (os.map dO)
  | [], _, h => by cases h; exact .nil
  | o :: os, _, h => by
    cases h with
    | cons h1 h2 => exact .cons (dO_keg h0 e h1) (dOs_keg h0 e h2)
end
section
variable {P : Program} {w : World} {K : PySem.W.Frag} {mg : Str → Option Value} {base : Heap} {A : Ad}
theorem rgV_0 {n : Nat} : rgV 0 (n : Int) = vN (List.range n) := by
  unfold rgV vN
  rw [show ((n : Int) - 0).toNat = n by omega]
  apply List.map_congr_left
  intro i _
  show V.int ((0 : Int) + (i : Int)) = V.int (i : Int)
  congr 1
  omega
def spLOrder (K : PySem.W.Frag) : Sp := fun vs H Q _ => ∃ (a : Addr) (m : Nat), vs = [.ref a, .int (m : Int)] ∧ 1 ≤ m ∧ m ≤ 100 ∧ KegIs a H ∧ ∀ H' v (o : List Nat), SameE a H H' → Ord o → o.length = m → Dp K H' v (dO o) → Q v H'
theorem scLOrder : FnScope ["_law_keg", "_law_many", "_law_left", "_law_found", "_law_turn", "_law_at"] ["_law_keg", "_law_many"] (defScope sOrder) := ⟨rfl, rfl, rfl, by decide +kernel, rfl, by decide +kernel, by decide +kernel⟩
theorem ok_lorder {f : Addr} {fd : FuncData} (F : Fun K "_law_order" "_law_order" sOrder f fd) (N : Nm mg) (R : Df P w K mg base CX0 1 "_law_roll" ["_law_keg", "_law_many"] spRoll) : FnOk P w K mg base CX0 2 f fd ["_law_keg", "_law_many"] (spLOrder K) := by
  refine F.ok scLOrder (fun vs H Q E h => ?_) (fun cdv A' outer s H vs Q E hr h => ?_)
  · obtain ⟨a, m, rfl, _⟩ := h
    rfl
  · obtain ⟨a, m, rfl, h1, h100, hk, q⟩ := h
    refine ⟨_, pss_cons (ps_par (i := 2) (j := 3) rfl scLOrder.nd rfl rfl (by decide) rfl rfl (pa_cons (pe_listRg rfl (by rfl) N.list (prg_1 (by rfl) N.range (pv 1))) (pa_cons (pe_tup pa_nil) pa_nil)) rfl)
      (pss_cons (ps_for PassesOwn.never rfl (pi_range1 (by rfl) N.range (pa_cons (pv 1) pa_nil)) (pg_name (i := 4) scLOrder.nd rfl (Or.inl rfl))
        (pss_cons (ps_set (i := 5) scLOrder.nd rfl (Or.inl rfl) (pe_d R hr (by decide) (by rfl) pass0 (pa_cons (pv 0) (pa_cons (lenE K (by rfl) N.len (pv 2)) pa_nil))))
        (pss_one (ps_par (i := 3) (j := 2) rfl scLOrder.nd rfl rfl (by decide) rfl rfl (pa_cons (catE K (pv 3) (pe_tup (pa_cons (ixLE K (pv 2) (pv 5)) pa_nil)))
          (pa_cons (pe_op op_cat (pe_slice sl_list (pv 2) po_none (po_some (pv 5))) (pe_slice sl_list (pv 2) (po_some (pe_op op_add (pv 5) pe_int)) po_none)) pa_nil)) rfl))))
      (pss_one (ps_ret (pv 3)))), ?_⟩
    refine ⟨_, rfl, _, rfl, .of_le (by omega) (by omega) (by omega) (by omega), fun l hl => ?_⟩
    rw [rgV_0]
    refine ⟨Nat.zero_le _, fun t ht => ⟨_, _, rfl, ?_⟩⟩
    have s0 : Same H (upd (upd H l (.lst (vN (List.range m)))) t (.tup [])) := (same_upd hl).trans (same_upd ht)
    refine ⟨_, rfl, (m : Int), rfl, by omega, by omega, ?_⟩
    refine for_range (lo := 0) (n := (m : Int).toNat) (fun j σ H1 => ∃ (l t : Addr) (left found : List Nat) (y4 y5 : Option V), σ = [some (.ref a), some (.int (m : Int)), some (.ref l), some (.ref t), y4, y5] ∧ SameE a H H1 ∧ l ≠ a ∧ H1 l = some (.lst (vN left)) ∧ SqT K H1 t (vN found) ∧ found.length = j ∧ (found ++ left).Perm (List.range m))
      ⟨l, t, List.range m, [], none, none, rfl, .of hk s0, ?_, ?_, .of upd_same, rfl, .refl _⟩ (fun j σ H1 hj h => ?_) (fun σ H1 h => ?_)
    · rintro rfl
      obtain ⟨_, _, _, e⟩ := hk
      rw [hl] at e
      cases e
    · rw [upd_ne (ne_of_none upd_same ht)]
      exact upd_same
    · obtain ⟨l, t, left, found, y4, y5, rfl, s1, hla, hl1, ht1, hj2, pm⟩ := h
      obtain ⟨g, k, hg, hk1⟩ := s1.1
      have hlen : found.length + left.length = m := by
        have := pm.length_eq
        rw [List.length_append, List.length_range] at this
        exact this
      refine ⟨_, rfl, _, rfl, l, _, rfl, .inl (.of hl1), ?_⟩
      rw [vN_len]
      refine ⟨a, left.length, g, k, rfl, by omega, by omega, hg, hk1, fun r g' k' hg' hr => ?_⟩
      have s2 : SameE a H1 (upd H1 a (.lst [.int g', .int k'])) := .upd hg'
      have hl2 := s2.2 l _ hla hl1
      have ht2 := seqT_keg s1.1 s2 ht1
      have hx := getD_some hr
      refine ⟨_, rfl, _, rfl, _, rfl, l, _, _, _, rfl, rfl, .of hl2, vN_atD hr, by show 1 ≤ sizeLine; decide, fun t1 ht1 => ?_⟩
      have s3 : Same (upd H1 a (.lst [.int g', .int k'])) _ := same_upd (o := .tup [.int ((left.getD r 0 : Nat) : Int)]) ht1
      refine catA_any (xs := vN found) (ys := vN [left.getD r 0]) (seqT s3 ht2) (.of upd_same) ?_ fun t2 H4 s4 T2 => ?_
      · rw [vN_len, vN_len]
        exact Nat.le_of_lt (small1000 (by simp; omega))
      rw [← vN_app] at T2
      have hl4 := s4 _ _ (s3 _ _ hl2)
      refine ⟨_, rfl, _, rfl, _, rfl, l, _, rfl, .of hl4, fun p1 hp1 => ?_⟩
      have s5 := same_upd (o := .lst (cutV (vN left) none (some (r : Int)))) hp1
      refine ⟨_, rfl, _, rfl, _, _, rfl, rfl, ((r + 1 : Nat) : Int), rfl, l, _, rfl, .of (s5 _ _ hl4), fun p2 hp2 => ?_⟩
      have s6 := same_upd (o := .lst (cutV (vN left) (some ((r + 1 : Nat) : Int)) none)) hp2
      rw [cut_take (Nat.le_of_lt hr)] at hp2 s5 s6 ⊢
      rw [cut_drop (show r + 1 ≤ left.length by omega)] at s6 ⊢
      refine ⟨p1, p2, _, _, rfl, rfl, s6 _ _ upd_same, upd_same, ?_, fun p3 hp3 => ?_⟩
      · rw [vN_len, vN_len, List.length_take, List.length_drop]
        exact Nat.le_of_lt (small1000 (by omega))
      rw [← vN_app]
      have s7 := same_upd (o := .lst (vN (left.take r ++ left.drop (r + 1)))) hp3
      have sX := ((s3.trans s4).trans s5).trans (s6.trans s7)
      have hk2 : KegIs a (upd H1 a (.lst [.int g', .int k'])) := s2.1
      refine ⟨_, _, rfl, p3, t2, _, _, _, _, rfl, (s1.trans s2).same sX, ?_, upd_same, seqT (s5.trans (s6.trans s7)) T2, ?_, WiM.take_perm hx pm⟩
      · rintro rfl
        obtain ⟨_, _, _, e⟩ := hk2.mono (((s3.trans s4).trans s5).trans s6)
        rw [hp3] at e
        cases e
      · rw [List.length_append, hj2]
        rfl
    · obtain ⟨l, t, left, found, y4, y5, rfl, s1, hla, hl1, ht1, hj2, pm⟩ := h
      have hj3 : found.length = m := by omega
      have hlen := pm.length_eq
      rw [List.length_append, List.length_range] at hlen
      have : left = [] := List.length_eq_zero_iff.mp (by omega)
      subst this
      rw [List.append_nil] at pm
      obtain ⟨hO, hl⟩ := WiM.ord_of_perm pm
      exact ⟨_, rfl, q _ _ found s1 hO hl (dO_of ht1)⟩
end
end Wp
end

section
set_option linter.all false
/-! Plain: ranks in a sorted list; the law's orders. -/
namespace WiM
theorem sorted_rank : ∀ {ys : List Nat} {x : Nat}, ys.Pairwise (· ≤ ·) → x ∈ ys → ys[rank ys x]? = some x ∧ ∀ m z, m < rank ys x → ys[m]? = some z → z ≠ x
  | [], x, _, h => absurd h (by simp)
  | y :: ys, x, hp, h => by
    obtain ⟨h1, h2⟩ := List.pairwise_cons.mp hp
    by_cases hy : y < x
    · have hx : x ∈ ys := by
        rcases List.mem_cons.mp h with e | e
        · omega
        · exact e
      obtain ⟨i1, i2⟩ := sorted_rank h2 hx
      have e : rank (y :: ys) x = rank ys x + 1 := by
        unfold rank
        rw [List.countP_cons, if_pos (by simpa using hy)]
      rw [e]
      refine ⟨by rw [List.getElem?_cons_succ]; exact i1, fun m z hm hz => ?_⟩
      cases m with
      | zero =>
        rw [List.getElem?_cons_zero] at hz
        have := Option.some.inj hz
        omega
      | succ m =>
        rw [List.getElem?_cons_succ] at hz
        exact i2 m z (by omega) hz
    · have hyx : y = x := by
        rcases List.mem_cons.mp h with e | e
        · exact e.symm
        · have := h1 x e
          omega
      have e : rank (y :: ys) x = 0 := by
        unfold rank
        rw [List.countP_eq_zero]
        intro z hz
        rcases List.mem_cons.mp hz with e | e
        · simp; omega
        · have := h1 z e
          simp; omega
      rw [e]
      refine ⟨by rw [List.getElem?_cons_zero, hyx], fun m z hm => absurd hm (Nat.not_lt_zero _)⟩
theorem rank_perm {xs ys : List Nat} (h : ys.Perm xs) (x : Nat) : rank ys x = rank xs x := h.countP_eq _
theorem nat_sorted {ns : List Int} {xs : List Nat} (p : ns.Perm (xs.map fun (n : Nat) => (n : Int))) (h : ns.Pairwise (· ≤ ·)) : ∃ ys : List Nat, ns = (ys.map fun (n : Nat) => (n : Int)) ∧ ys.Perm xs ∧ ys.Pairwise (· ≤ ·) := by
  have e : ns = (ns.map Int.toNat).map fun (n : Nat) => (n : Int) := by
    rw [List.map_map]
    conv => lhs; rw [← List.map_id ns]
    apply List.map_congr_left
    intro i hi
    obtain ⟨n, _, e⟩ := List.mem_map.mp (p.mem_iff.mp hi)
    show i = ((i.toNat : Nat) : Int)
    have e' : (n : Int) = i := e
    omega
  have p2 := p.map Int.toNat
  have z : ∀ o : List Nat, (o.map fun (n : Nat) => (n : Int)).map Int.toNat = o := fun o => by
    rw [List.map_map]
    exact List.map_id o
  rw [z] at p2
  refine ⟨ns.map Int.toNat, e, p2, ?_⟩
  rw [List.pairwise_map]
  exact h.imp fun {a b} q => by omega
/-! ### the law's orders -/
def all1 (m : Nat) (h : List Nat) : List (List Nat) := ((List.range m).filter fun x => !h.contains x).map fun x => h ++ [x]
def lawAll (m : Nat) : Nat → List (List Nat)
  | 0 => [[]]
  | j + 1 => (lawAll m j).flatMap (all1 m)
theorem all1_len (m : Nat) (h : List Nat) : (all1 m h).length ≤ m := by
  unfold all1
  rw [List.length_map]
  refine Nat.le_trans (List.length_filter_le _ _) ?_
  rw [List.length_range]
  exact Nat.le_refl _
theorem lawAll_size (m : Nat) : ∀ j, (lawAll m j).length ≤ m ^ j
  | 0 => by simp [lawAll]
  | j + 1 => by
    show ((lawAll m j).flatMap (all1 m)).length ≤ _
    refine Nat.le_trans (flat_len (all1_len m) _) ?_
    rw [Nat.pow_succ]
    exact Nat.mul_le_mul_right _ (lawAll_size m j)
theorem lawAll_len {m : Nat} : ∀ {j : Nat} {o : List Nat}, o ∈ lawAll m j → o.length = j
  | 0, o, h => by
    have : o = [] := by simpa [lawAll] using h
    rw [this]
    rfl
  | j + 1, o, h => by
    obtain ⟨u, hu, hm⟩ := List.mem_flatMap.mp h
    obtain ⟨x, _, rfl⟩ := List.mem_map.mp hm
    rw [List.length_append, lawAll_len hu, List.length_singleton]
theorem rise_size (n : Nat) : ∀ j, (riseAt n j).length ≤ n ^ j
  | 0 => by simp [riseAt]
  | j + 1 => by
    have h : ∀ a, (ext1 n a).length ≤ n := fun a => by
      unfold ext1
      rw [List.length_map, range_len]
      omega
    show ((riseAt n j).flatMap (ext1 n)).length ≤ _
    refine Nat.le_trans (flat_len h _) ?_
    rw [Nat.pow_succ]
    exact Nat.mul_le_mul_right _ (rise_size n j)
end WiM
end

section
set_option Elab.async false
set_option linter.all false
set_option maxRecDepth 100000
set_option maxHeartbeats 1000000
/-! The law's all orders, known ones, likeness. -/
namespace Wp
open PySem PySem.Spec PyProof.Rows L2 Wq
open WiM (Ord allSpots holds insAt grown1 grown gAt lawAll all1 like rank)
section
variable {P : Program} {w : World} {K : PySem.W.Frag} {mg : Str → Option Value} {base : Heap} {A : Ad}
def tNi (K : PySem.W.Frag) (ta tb : TE) : TT := tTest (tOp (rIn K true) ta tb)
theorem niE (K : PySem.W.Frag) {X : Cx} {a b : Expr} {ta tb : TE} {pos : Pos} (ha : PE X a ta) (hb : PE X b tb) (hm : behindInMarks .NotIn b = false := by rfl) (hK : X.K = K := by rfl) : PT X (.Compare a [.NotIn] [b] pos) (tNi K ta tb) := by
  subst hK
  exact pt_cmpR op_notIn_seq ha hb hm
theorem flat_vN (o : List Nat) : (vN o).all flatV = true := by
  rw [List.all_eq_true]
  intro x hx
  obtain ⟨n, _, rfl⟩ := List.mem_map.mp hx
  rfl
theorem in_vN (x : Nat) : ∀ o : List Nat, inV (.int (x : Int)) (vN o) = o.contains x
  | [] => rfl
  | y :: o => by
    show (eqV (.int (y : Int)) (.int (x : Int)) || inV (.int (x : Int)) (vN o)) = _
    rw [in_vN x o, List.contains_cons]
    congr 1
    show ((y : Int) == (x : Int)) = (x == y)
    rw [Bool.eq_iff_iff, beq_iff_eq, beq_iff_eq]
    omega
theorem none_of {H H' : Hp} {a : Addr} (s : Same H H') (h : H' a = none) : H a = none := by
  cases e : H a with
  | none => rfl
  | some x => rw [s _ _ e] at h; cases h
theorem small_t {a b : Nat} (h : a + b ≤ 1000) : a + b ≤ sizeLine := Nat.le_of_lt (small1000 h)
def spLAll (K : PySem.W.Frag) : Sp := fun vs H Q _ => ∃ m : Nat, vs = [.int (m : Int)] ∧ 1 ≤ m ∧ m ≤ 4 ∧ ∀ H' l, Same H H' → H l = none → LstO K H' l (lawAll m m) → Q (.ref l) H'
theorem scLAll : FnScope ["_law_many", "_law_found", "_law_turn", "_law_longer", "_law_head", "_law_thing"] ["_law_many"] (defScope sAll) := ⟨rfl, rfl, rfl, by decide +kernel, rfl, by decide +kernel, by decide +kernel⟩
theorem ok_lall {f : Addr} {fd : FuncData} (F : Fun K "_law_all" "_law_all" sAll f fd) (N : Nm mg) : FnOk P w K mg base CX0 1 f fd ["_law_many"] (spLAll K) := by
  refine F.ok scLAll (fun vs H Q E h => ?_) (fun cdv A' outer s H vs Q E hr h => ?_)
  · obtain ⟨m, rfl, _⟩ := h
    rfl
  · obtain ⟨m, rfl, h1, h4, q⟩ := h
    refine ⟨_, pss_cons (ps_set (i := 1) scLAll.nd rfl (Or.inl rfl) (pe_lst (pa_cons (pe_tup pa_nil) pa_nil)))
      (pss_cons (ps_for PassesOwn.never rfl (pi_range1 (by rfl) N.range (pa_cons (pv 0) pa_nil)) (pg_name (i := 2) scLAll.nd rfl (Or.inl rfl))
        (pss_cons (ps_set (i := 3) scLAll.nd rfl (Or.inl rfl) (pe_lst pa_nil))
        (pss_cons (ps_for PassesOwn.never rfl (pi_list (pv 1)) (pg_name (i := 4) scLAll.nd rfl (Or.inr rfl))
          (pss_one (ps_set (i := 3) scLAll.nd rfl (Or.inl rfl) (pe_op op_cat (pv 3)
            (pe_lc (own := [("_law_thing", 5)]) (g := gName 5) (tt := tNi K (tVar 5) (tVar 4)) rfl scLAll.nd (pi_range1 (by rfl) N.range (pa_cons (pv 0) pa_nil)) (blkOk_by (N := ["_law_many", "_law_found", "_law_turn", "_law_longer", "_law_head", "_law_thing"]) (sc := defScope sAll) (by decide +kernel))
              (fun _ _ _ _ _ => pg_name (i := 5) scLAll.nd rfl (Or.inl rfl)) (fun _ _ _ _ _ => by exact pts_one (niE K (pv 5) (pv 4)))
              (fun _ _ _ _ _ => by exact catE K (pv 4) (pe_tup (pa_cons (pv 5) pa_nil))))))))
        (pss_one (ps_set (i := 1) scLAll.nd rfl (Or.inl rfl) (pv 3))))))
      (pss_one (ps_ret (pv 1)))), ?_⟩
    refine ⟨Nat.zero_le _, fun t0 ht0 => ⟨by show 1 ≤ sizeLine; decide, fun l0 hl0 => ?_⟩⟩
    have s0 : Same H (upd (upd H t0 (.tup [])) l0 (.lst [.ref t0])) := (same_upd ht0).trans (same_upd hl0)
    refine ⟨_, rfl, (m : Int), rfl, by omega, by omega, ?_⟩
    refine for_range (lo := 0) (n := (m : Int).toNat) (fun j σ H1 => ∃ (l : Addr) (y2 y3 y4 y5 : Option V), σ = [some (.int (m : Int)), some (.ref l), y2, y3, y4, y5] ∧ Same H H1 ∧ H l = none ∧ LstO K H1 l (lawAll m j))
      ⟨l0, none, none, none, none, rfl, s0, none_of (same_upd ht0) hl0, [.ref t0], upd_same, .cons (dO_of (o := []) (.of (by rw [upd_ne (ne_of_none upd_same hl0)]; exact upd_same))) .nil⟩ (fun j σ H1 hj h => ?_) (fun σ H1 h => ?_)
    · obtain ⟨l, y2, y3, y4, y5, rfl, s1, hl9, hL⟩ := h
      have hj' : j < m := by omega
      refine ⟨Nat.zero_le _, fun m0 hm0 => ?_⟩
      have s2 : Same H (upd H1 m0 (.lst [])) := s1.trans (same_upd hm0)
      obtain ⟨xs, hxs, hA⟩ := hL.mono (same_upd (o := .lst []) hm0)
      have hlen := lenO hA
      have cap : (lawAll m j).length * m ≤ 256 := by
        refine Nat.le_trans (Nat.mul_le_mul_right _ (WiM.lawAll_size m j)) ?_
        rw [← Nat.pow_succ]
        refine Nat.le_trans (Nat.pow_le_pow_left h4 _) ?_
        exact Nat.le_trans (Nat.pow_le_pow_right (by decide) (show j + 1 ≤ 4 by omega)) (by decide)
      refine ⟨_, rfl, l, rfl, ⟨_, .of hxs⟩, ?_⟩
      refine for_list (K := K) (xs := xs) (fun i σ H2 => ∃ (mm : Addr) (z4 z5 : Option V), σ = [some (.int (m : Int)), some (.ref l), some (.int (0 + (j : Int))), some (.ref mm), z4, z5] ∧ Same H H2 ∧ H2 l = some (.lst xs) ∧ DpAll K H2 xs ((lawAll m j).map dO) ∧ H mm = none ∧ LstO K H2 mm (((lawAll m j).take i).flatMap (all1 m)))
        ⟨m0, y4, y5, rfl, s2, hxs, hA, none_of s1 hm0, [], upd_same, .nil⟩ (fun i σ H2 _ h => ?_) (fun i x σ H2 hx2 h => ?_) (fun σ H2 h => ?_)
      · obtain ⟨mm, z4, z5, _, _, hl2, _⟩ := h
        exact .of hl2
      · obtain ⟨mm, z4, z5, rfl, s3, hl2, hA2, hmm, hM⟩ := h
        obtain ⟨pl, hpl, dpl⟩ := dOs_get hA2 hx2
        obtain ⟨apl, rfl, T5⟩ := dO_inv dpl
        have hplen := WiM.lawAll_len (List.mem_of_getElem? hpl)
        refine ⟨_, rfl, _, rfl, (m : Int), rfl, by omega, by omega, fun D hD => ?_⟩
        obtain ⟨xm, hm1, hm2⟩ := hM
        refine lc_range (lo := 0) (n := (m : Int).toNat) (fun k H4 => Same H2 H4 ∧ LstO K H4 D ((((List.range m).take k).filter fun x => !pl.contains x).map fun x => pl ++ [x]))
          ⟨same_upd hD, [], upd_same, by rw [List.take_zero]; exact .nil⟩ (fun k H4 hk h => ?_) (fun H4 h => ?_)
        · obtain ⟨s9, xd, hd1, hd2⟩ := h
          have hk' : k < m := by omega
          have hy : (List.range m)[k]? = some k := List.getElem?_range hk'
          refine ⟨rfl, _, rfl, _, rfl, apl, vN pl, rfl, .inr (seqT s9 T5), rfl, flat_vN _, _, rfl, ?_⟩
          rw [show (0 : Int) + (k : Int) = (k : Int) by omega, in_vN, WiM.filter_take' (f := fun x => !pl.contains x) hy]
          show (if (!pl.contains k) = true then _ else _)
          cases hg : pl.contains k with
          | true =>
            refine iteF ⟨s9, ?_⟩
            rw [if_neg (by decide)]
            exact ⟨xd, hd1, hd2⟩
          | false =>
            refine iteT ⟨_, rfl, _, rfl, by show 1 ≤ sizeLine; decide, fun tp htp => ?_⟩
            have s12 : Same H4 (upd H4 tp (.tup [.int (k : Int)])) := same_upd htp
            refine catA_any (xs := vN pl) (ys := vN [k]) (seqT (s9.trans s12) T5) (.of upd_same) ?_ fun a H6 s13 hT => ?_
            · rw [vN_len, vN_len]
              exact small_t (by simp; omega)
            rw [← vN_app] at hT
            have hd4 := s13 _ _ (s12 _ _ hd1)
            refine ⟨xd, hd4, ?_, over hD ((s9.trans s12).trans s13), xd ++ [.ref a], upd_same, ?_⟩
            · have e1 := lenO hd2
              have e3 := List.length_filter_le (fun x => !pl.contains x) ((List.range m).take k)
              rw [List.length_map] at e1
              have e2 : ((List.range m).take k).length ≤ m := by
                rw [List.length_take, List.length_range]
                omega
              exact small1000 (by omega)
            · rw [if_pos (show (!false) = true from rfl), List.map_append, List.map_append]
              exact dall_app (dOs_over hd4 (dmns (s12.trans s13) hd2)) (.cons (dO_over hd4 (dO_of hT)) .nil)
        · obtain ⟨s9, xd, hd1, hd2⟩ := h
          rw [List.take_of_length_le (by rw [List.length_range]; omega)] at hd2
          refine ⟨mm, D, xm, xd, rfl, rfl, s9 _ _ hm1, hd1, ?_, fun m2 hm3 => ?_⟩
          · rw [lenO hm2, lenO hd2]
            have e1 := WiM.flat_take (all1 m) hpl
            have e2 := WiM.flat_take_len (WiM.all1_len m) (lawAll m j) (i + 1)
            rw [e1, List.length_append] at e2
            have e3 : (all1 m pl).length = (((List.range m).filter fun x => !pl.contains x).map fun x => pl ++ [x]).length := rfl
            rw [← e3, sizeLine_eq]
            omega
          · have s13 : Same H2 (upd H4 m2 (.lst (xm ++ xd))) := s9.trans (same_upd hm3)
            refine ⟨m2, _, _, rfl, s3.trans s13, s13 _ _ hl2, dmns s13 hA2, none_of (s3.trans s9) hm3, xm ++ xd, upd_same, ?_⟩
            rw [WiM.flat_take (all1 m) hpl, List.map_append]
            exact dall_app (dmns s13 hm2) (dmns (same_upd hm3) hd2)
      · obtain ⟨mm, z4, z5, rfl, s3, hl2, hA2, hmm, hM⟩ := h
        rw [hlen, List.take_of_length_le (Nat.le_refl _)] at hM
        exact ⟨_, rfl, mm, _, _, _, _, rfl, s3, hmm, hM⟩
    · obtain ⟨l, y2, y3, y4, y5, rfl, s1, hl9, hL⟩ := h
      rw [show (m : Int).toNat = m by omega] at hL
      exact ⟨_, rfl, q _ _ s1 hl9 hL⟩
end
end Wp
end

section
set_option Elab.async false
set_option linter.all false
set_option maxRecDepth 100000
set_option maxHeartbeats 1000000
/-! The law's known orders, likeness, spots. -/
namespace Wp
open PySem PySem.Spec PyProof.Rows L2 Wq
open WiM (Ord allSpots holds insAt grown1 grown gAt lawAll all1 like rank riseAt ext1 firstOf rangeFrom lawSpots)
section
variable {P : Program} {w : World} {K : PySem.W.Frag} {mg : Str → Option Value} {base : Heap} {A : Ad}
/-! ### known -/
def knownL : List (List Nat) := [[1, 0, 3, 2], [2, 0, 1], [3, 2, 1, 0], [3, 0, 4, 1, 2]]
def spKnown (K : PySem.W.Frag) : Sp := fun vs H Q _ => vs = [] ∧ ∀ H' l, Same H H' → LstO K H' l knownL → Q (.ref l) H'
theorem scKnown : FnScope [] [] (defScope sKnown) := ⟨rfl, rfl, rfl, by decide +kernel, rfl, by decide +kernel, by decide +kernel⟩
theorem ok_known {f : Addr} {fd : FuncData} (F : Fun K "_law_known" "_law_known" sKnown f fd) : FnOk P w K mg base CX0 1 f fd [] (spKnown K) := by
  refine F.ok scKnown (fun vs H Q E h => ?_) (fun cdv A' outer s H vs Q E hr h => ?_)
  · obtain ⟨rfl, _⟩ := h
    rfl
  · obtain ⟨rfl, q⟩ := h
    refine ⟨_, pss_one (ps_ret (pe_lst (pa_cons (pe_tup (pa_cons pe_int (pa_cons pe_int (pa_cons pe_int (pa_cons pe_int pa_nil))))) (pa_cons (pe_tup (pa_cons pe_int (pa_cons pe_int (pa_cons pe_int pa_nil))))
      (pa_cons (pe_tup (pa_cons pe_int (pa_cons pe_int (pa_cons pe_int (pa_cons pe_int pa_nil))))) (pa_cons (pe_tup (pa_cons pe_int (pa_cons pe_int (pa_cons pe_int (pa_cons pe_int (pa_cons pe_int pa_nil)))))) pa_nil)))))), ?_⟩
    refine ⟨by show 4 ≤ sizeLine; decide, fun t1 h1 => ⟨by show 3 ≤ sizeLine; decide, fun t2 h2 => ⟨by show 4 ≤ sizeLine; decide, fun t3 h3 => ⟨by show 5 ≤ sizeLine; decide, fun t4 h4 => ⟨by show 4 ≤ sizeLine; decide, fun l hl => ?_⟩⟩⟩⟩⟩
    have s1 := same_upd (o := .tup (vN [1, 0, 3, 2])) h1
    have s2 := same_upd (o := .tup (vN [2, 0, 1])) h2
    have s3 := same_upd (o := .tup (vN [3, 2, 1, 0])) h3
    have s4 := same_upd (o := .tup (vN [3, 0, 4, 1, 2])) h4
    have s5 := same_upd (o := .lst [.ref t1, .ref t2, .ref t3, .ref t4]) hl
    refine q _ l ((((s1.trans s2).trans s3).trans s4).trans s5) ⟨_, upd_same, ?_⟩
    exact .cons (dO_of (o := [1, 0, 3, 2]) (.of ((((s2.trans s3).trans s4).trans s5) _ _ upd_same))) (.cons (dO_of (o := [2, 0, 1]) (.of (((s3.trans s4).trans s5) _ _ upd_same)))
      (.cons (dO_of (o := [3, 2, 1, 0]) (.of ((s4.trans s5) _ _ upd_same))) (.cons (dO_of (o := [3, 0, 4, 1, 2]) (.of (s5 _ _ upd_same))) .nil)))
/-! ### like -/
def tBMK (K : PySem.W.Frag) (to te : TE) : TE := tBM K "list" (rIndex K) to (tCons te tNil)
theorem indexE (K : PySem.W.Frag) {X : Cx} {o e : Expr} {to te : TE} {apos cpos : Pos} (ho : PE X o to) (ha : PE X e te)  (hK : X.K = K := by rfl)
    (hbase : attributeBase o "index" X.env (eval o X.env) = eval o X.env := by rfl)
    (hfew : ((backTo cpos (starEach [e] X.env)).all (fun x => !x.1) && (backToKw cpos (keywordEach [] X.env)).all (fun x => x.1.isSome)
      && decide ([e].length + ([] : List Keyword).length + (if ([] : List Keyword).isEmpty then 0 else 1) < 30)) = true := by rfl)
    (hline : (apos.endLine == cpos.line) = true := by rfl) (hs : starEach [e] X.env = (false, eval e X.env) :: starEach [] X.env := by rfl) :
    PE X (.Call (.Attribute o "index" apos) [e] [] cpos) (tBMK K to te) := by
  subst hK
  exact pe_bm PySem.F.plainAttrs_list PySem.F.slot_list_index PySem.F.type_list_index mt_index ho (pa_cons (hs := hs) ha pa_nil) (hbase := hbase) (hfew := hfew) (hline := hline) (hs := hs) (hplain := rfl)
def spLike (K : PySem.W.Frag) : Sp := fun vs H Q _ => ∃ (l : Addr) (v2 : V) (xs p : List Nat), vs = [.ref l, v2] ∧ SqL K H l (vN xs) ∧ Dp K H v2 (dO p) ∧ xs.length < 64 ∧ ∀ H', Same H H' → Q (.bl (like xs p)) H'
theorem scLike : FnScope ["_law_things_so", "_law_shape", "_law_ranks", "_law_thing"] ["_law_things_so", "_law_shape"] (defScope sLike) := ⟨rfl, rfl, rfl, by decide +kernel, rfl, by decide +kernel, by decide +kernel⟩
theorem ok_like {f : Addr} {fd : FuncData} (F : Fun K "_law_like" "_law_like" sLike f fd) (N : Nm mg) : FnOk P w K mg base CX0 1 f fd ["_law_things_so", "_law_shape"] (spLike K) := by
  refine F.ok scLike (fun vs H Q E h => ?_) (fun cdv A' outer s H vs Q E hr h => ?_)
  · obtain ⟨l, v2, xs, p, rfl, _⟩ := h
    rfl
  · obtain ⟨l, v2, xs, p, rfl, L1, d2, h64, q⟩ := h
    refine ⟨_, pss_cons (ps_set (i := 2) scLike.nd rfl (Or.inr rfl) (pe_callB cr_sorted (by rfl) N.sorted rfl (pa_cons (pv 0) pa_nil)))
      (pss_one (ps_ret (pe_cmpR (op_eqD hr.units) (pe_callTy call_tuple_of (by rfl) N.tuple boot_tuple (pa_cons
        (pe_lc (own := [("_law_thing", 3)]) (g := gName 3) (tt := tYes) rfl scLike.nd (pi_list (pv 0)) (blkOk_by (N := ["_law_things_so", "_law_shape", "_law_ranks", "_law_thing"]) (sc := defScope sLike) (by decide +kernel))
          (fun _ _ _ _ _ => pg_name (i := 3) scLike.nd rfl (Or.inl rfl)) (fun _ _ _ _ _ => pts_nil)
          (fun _ _ _ _ _ => by exact indexE K (pv 2) (pv 3))) pa_nil)) (pv 1) (nomark _)))), ?_⟩
    refine ⟨_, rfl, l, xs.map fun (n : Nat) => (n : Int), rfl, by rw [← vN_ints]; exact L1, by rw [List.length_map]; exact h64, fun ns r hp hw hr0 => ?_⟩
    obtain ⟨ys, rfl, py, hy⟩ := WiM.nat_sorted hp hw
    rw [← vN_ints]
    have s1 := same_upd (o := .lst (vN ys)) hr0
    refine ⟨_, rfl, l, rfl, ⟨_, s1.seq L1⟩, fun D hD => ?_⟩
    refine lc_list (K := K) (xs := vN xs) (fun i H2 => Same (upd H r (.lst (vN ys))) H2 ∧ H2 D = some (.lst (vN ((xs.map (rank xs)).take i)))) ⟨same_upd hD, upd_same⟩ (fun i H2 _ h => h.1.seq (s1.seq L1)) (fun i x H2 hx h => ?_) (fun H2 h => ?_)
    · obtain ⟨n, hn, rfl⟩ := vN_get hx
      obtain ⟨s2, hD2⟩ := h
      have hi : i < xs.length := (List.getElem?_eq_some_iff.mp hn).1
      have hr2 := s2 _ _ upd_same
      obtain ⟨i1, i2⟩ := WiM.sorted_rank hy (py.mem_iff.mpr (List.mem_of_getElem? hn))
      rw [WiM.rank_perm py] at i1 i2
      refine ⟨rfl, ⟨_, rfl, .inl ⟨rfl, _, .of hr2⟩, _, rfl, r, vN ys, _, rank xs n, .int (n : Int), rfl, rfl, .of hr2, rfl, flat_vN _, vN_at i1, ?_, fun m z' hm hz => ?_, ?_⟩⟩
      · show ((n : Int) == (n : Int)) = true
        exact beq_self_eq_true _
      · obtain ⟨z, hz1, rfl⟩ := vN_get hz
        have := i2 m z hm hz1
        show ((z : Int) == (n : Int)) = false
        rw [beq_eq_false_iff_ne]
        omega
      · refine ⟨_, hD2, ?_, over hD s2, ?_⟩
        · rw [vN_len, List.length_take]
          exact small1000 (by omega)
        · rw [upd_same, take_snoc (rank xs) hn, vN_app]
          rfl
    · obtain ⟨s2, hD2⟩ := h
      rw [vN_len, List.take_of_length_le (by rw [List.length_map]; exact Nat.le_refl _)] at hD2
      refine ⟨D, _, rfl, .inl ⟨.of hD2, fun t ht => ?_⟩⟩
      have s3 := (s1.trans s2).trans (same_upd (o := .tup (vN (xs.map (rank xs)))) ht)
      refine ⟨_, rfl, dO (xs.map (rank xs)), dO p, dO_of (.of upd_same), dmn s3 d2, shaped_O _, shaped_O _, ?_⟩
      rw [eqv_O]
      exact q _ s3
end
end Wp
end

section
set_option Elab.async false
set_option linter.all false
set_option maxRecDepth 100000
set_option maxHeartbeats 1000000
/-! The law's spots, and orders without. -/
namespace Wp
open PySem PySem.Spec PyProof.Rows L2 Wq
open WiM (Ord allSpots holds insAt grown1 grown gAt lawAll all1 like rank riseAt ext1 firstOf rangeFrom lawSpots)
section
variable {P : Program} {w : World} {K : PySem.W.Frag} {mg : Str → Option Value} {base : Heap} {A : Ad}
def lkF (o p pl : List Nat) : Bool := like (pl.map fun x => o.getD x 0) p
def spLSpots (K : PySem.W.Frag) : Sp := fun vs H Q _ => ∃ (v1 v2 : V) (o p : List Nat), vs = [v1, v2] ∧ Dp K H v1 (dO o) ∧ Dp K H v2 (dO p) ∧ 1 ≤ o.length ∧ o.length ≤ 8 ∧ p.length ≤ 5 ∧ ∀ H' l, Same H H' → LstO K H' l (lawSpots o p) → Q (.ref l) H'
def scPl : Scope := { kind := .function, names := [(".0", .local), ("_law_places_so", .local), ("_law_like", .globalImplicit), ("_law_row", .cell), ("_law_shape", .cell)], isGenerator := false, isCoroutine := false }
abbrev nmLS : List Str := ["_law_row", "_law_shape", "_law_found", "_law_turn", "_law_longer", "_law_head", "_law_start", "_law_place", "_law_places_so"]
theorem scLSpots : FnScope ["_law_row", "_law_shape", "_law_found", "_law_turn", "_law_longer", "_law_head", "_law_start", "_law_place", "_law_places_so"] ["_law_row", "_law_shape"] (defScope sLSpots) := ⟨rfl, rfl, rfl, by decide +kernel, rfl, by decide +kernel, by decide +kernel⟩
theorem ok_lspots {f : Addr} {fd : FuncData} (F : Fun K "_law_spots" "_law_spots" sLSpots f fd) (N : Nm mg) (G : Df P w K mg base CX0 1 "_law_like" ["_law_things_so", "_law_shape"] (spLike K)) : FnOk P w K mg base CX0 2 f fd ["_law_row", "_law_shape"] (spLSpots K) := by
  refine F.ok scLSpots (fun vs H Q E h => ?_) (fun cdv A' outer s H vs Q E hr h => ?_)
  · obtain ⟨v1, v2, o, p, rfl, _⟩ := h
    rfl
  · obtain ⟨v1, v2, o, p, rfl, d1, d2, h1, h8, h5, q⟩ := h
    obtain ⟨ao, rfl, T1⟩ := dO_inv d1
    obtain ⟨ap, rfl, T2⟩ := dO_inv d2
    refine ⟨_, pss_cons (ps_set (i := 2) scLSpots.nd rfl (Or.inl rfl) (pe_lst (pa_cons (pe_tup pa_nil) pa_nil)))
      (pss_cons (ps_for PassesOwn.never rfl (pi_tup (pv 1)) (pg_name (i := 3) scLSpots.nd rfl (Or.inl rfl))
        (pss_cons (ps_set (i := 4) scLSpots.nd rfl (Or.inl rfl) (pe_lst pa_nil))
        (pss_cons (ps_for PassesOwn.never rfl (pi_list (pv 2)) (pg_name (i := 5) scLSpots.nd rfl (Or.inr rfl))
          (C8.pss_cut (ps_set (i := 6) scLSpots.nd rfl (Or.inl rfl) (pe_ifExp (pt_cmpR (op_neD hr.units) (pv 5) (pe_tup pa_nil) (nomark _)) (pe_op op_add (ixE K (pv 5) (pe_un un_neg pe_int)) pe_int) pe_int))
          (pss_one (ps_set (i := 4) scLSpots.nd rfl (Or.inl rfl) (pe_op op_cat (pv 4)
            (pe_lc (own := [("_law_place", 7)]) (g := gName 7) (tt := tYes) rfl scLSpots.nd (pi_range2 (by rfl) N.range (pa_cons (pv 6) (pa_cons (lenE K (by rfl) N.len (pv 0)) pa_nil))) (blkOk_by (N := ["_law_row", "_law_shape", "_law_found", "_law_turn", "_law_longer", "_law_head", "_law_start", "_law_place", "_law_places_so"]) (sc := defScope sLSpots) (by decide +kernel))
              (fun _ _ _ _ _ => pg_name (i := 7) scLSpots.nd rfl (Or.inl rfl)) (fun _ _ _ _ _ => pts_nil)
              (fun _ _ _ _ _ => by exact catE K (pv 5) (pe_tup (pa_cons (pv 7) pa_nil)))))))))
        (pss_one (ps_set (i := 2) scLSpots.nd rfl (Or.inl rfl) (pv 4))))))
      (pss_one (ps_ret
        (pe_lc (own := [("_law_places_so", 8)]) (g := gName 8) (tt := tB (tD (spLike K) E0 (tCons (tLc (iTup K (tVar 8)) (gName 7) tYes (tIx K (tVar 0) (tVar 7)) [7]) (tCons (tVar 1) tNil)))) rfl scLSpots.nd (pi_list (pv 2)) (blkOk_by (N := ["_law_row", "_law_shape", "_law_found", "_law_turn", "_law_longer", "_law_head", "_law_start", "_law_place", "_law_places_so"]) (sc := defScope sLSpots) (by decide +kernel))
          (fun _ _ _ _ _ => pg_name (i := 8) scLSpots.nd rfl (Or.inl rfl))
          (fun _ _ _ _ _ => by exact pts_one (pt_val (by exact pe_d G hr (by decide) (by rfl) pass0 (pa_cons
            (pe_lc (own := [("_law_place", 7)]) (g := gName 7) (tt := tYes) rfl scLSpots.nd (by exact pi_tup (pv 8)) (blkOk_by (N := ["_law_row", "_law_shape", "_law_found", "_law_turn", "_law_longer", "_law_head", "_law_start", "_law_place", "_law_places_so"]) (sc := scPl) (by decide +kernel))
              (fun _ _ _ _ _ => pg_name (i := 7) scLSpots.nd rfl (Or.inl rfl)) (fun _ _ _ _ _ => pts_nil) (fun _ _ _ _ _ => by exact ixE K (pv 0) (pv 7))) (pa_cons (pv 1) pa_nil)))))
          (fun _ _ _ _ _ => pv 8))))), ?_⟩
    refine ⟨Nat.zero_le _, fun t0 ht0 => ⟨by show 1 ≤ sizeLine; decide, fun l0 hl0 => ?_⟩⟩
    have s0 : Same H (upd (upd H t0 (.tup [])) l0 (.lst [.ref t0])) := (same_upd ht0).trans (same_upd hl0)
    refine ⟨_, rfl, ap, rfl, ⟨_, seqT s0 T2⟩, ?_⟩
    refine for_tup (K := K) (xs := vN p) (fun j σ H1 => ∃ (l : Addr) (y3 y4 y5 y6 y7 y8 : Option V), σ = [some (.ref ao), some (.ref ap), some (.ref l), y3, y4, y5, y6, y7, y8] ∧ Same H H1 ∧ LstO K H1 l (riseAt o.length j)) ?_ (fun j σ H1 _ h => ?_) (fun j x σ H1 hx h => ?_) (fun σ H1 h => ?_)
    · refine ⟨l0, none, none, none, none, none, none, rfl, s0, [.ref t0], upd_same, .cons (dO_of (o := []) ?_) .nil⟩
      exact .of (by rw [upd_ne (ne_of_none upd_same hl0)]; exact upd_same)
    · obtain ⟨l, y3, y4, y5, y6, y7, y8, _, s1, _⟩ := h
      exact seqT s1 T2
    · obtain ⟨l, y3, y4, y5, y6, y7, y8, rfl, s1, hL⟩ := h
      obtain ⟨n, hn, rfl⟩ := vN_get hx
      have hj : j < p.length := (List.getElem?_eq_some_iff.mp hn).1
      refine ⟨Nat.zero_le _, fun m0 hm0 => ?_⟩
      have s2 : Same H (upd H1 m0 (.lst [])) := s1.trans (same_upd hm0)
      obtain ⟨xs, hxs, hA⟩ := hL.mono (same_upd (o := .lst []) hm0)
      have hlen := lenO hA
      have e1l : ∀ a, (ext1 o.length a).length ≤ o.length := fun a => by
        unfold ext1
        rw [List.length_map, WiM.range_len]
        omega
      have cap : (riseAt o.length j).length * o.length ≤ 1000000 := by
        refine Nat.le_trans (Nat.mul_le_mul_right _ (WiM.rise_size o.length j)) ?_
        rw [← Nat.pow_succ]
        refine Nat.le_trans (Nat.pow_le_pow_left h8 _) ?_
        exact Nat.le_trans (Nat.pow_le_pow_right (by decide) (show j + 1 ≤ 5 by omega)) (by decide)
      refine ⟨_, rfl, l, rfl, ⟨_, .of hxs⟩, ?_⟩
      refine for_list (K := K) (xs := xs) (fun i σ H2 => ∃ (m : Addr) (z5 z6 z7 z8 : Option V), σ = [some (.ref ao), some (.ref ap), some (.ref l), some (.int n), some (.ref m), z5, z6, z7, z8] ∧ Same H H2 ∧ H2 l = some (.lst xs) ∧ DpAll K H2 xs ((riseAt o.length j).map dO) ∧ LstO K H2 m (((riseAt o.length j).take i).flatMap (ext1 o.length)))
        ⟨m0, y5, y6, y7, y8, rfl, s2, hxs, hA, [], upd_same, .nil⟩ (fun i σ H2 _ h => ?_) (fun i x σ H2 hx2 h => ?_) (fun σ H2 h => ?_)
      · obtain ⟨m, z5, z6, z7, z8, _, _, hl2, _⟩ := h
        exact .of hl2
      · obtain ⟨m, z5, z6, z7, z8, rfl, s3, hl2, hA2, hM⟩ := h
        obtain ⟨pl, hpl, dpl⟩ := dOs_get hA2 hx2
        obtain ⟨apl, rfl, T5⟩ := dO_inv dpl
        have hR := (WiM.mem_rise _ _ _).mp (List.mem_of_getElem? hpl)
        have hplen := hR.len
        refine ⟨fun σ' H3 => σ' = [some (.ref ao), some (.ref ap), some (.ref l), some (.int n), some (.ref m), some (.ref apl), some (.int (firstOf pl : Nat)), z7, z8] ∧ Same H2 H3, ?_, fun σ' H3 hm => ?_⟩
        · refine ⟨_, rfl, Nat.zero_le _, fun te hte => ?_⟩
          have s4 : Same H2 (upd H2 te (.tup [])) := same_upd hte
          refine ⟨dO pl, dO [], dmn s4 dpl, dO_of (o := []) (.of upd_same), shaped_O _, shaped_O _, _, rfl, ?_⟩
          rw [eqv_O]
          by_cases hp0 : pl = []
          · rw [decide_eq_true hp0]
            refine iteF ⟨?_, s4⟩
            subst hp0
            rfl
          · rw [decide_eq_false hp0]
            refine iteT ⟨_, rfl, 1, rfl, apl, _, _, _, rfl, rfl, seqT s4 T5, last_at hp0, _, _, rfl, rfl, ?_, s4⟩
            rw [WiM.first_eq, if_neg hp0]
            rfl
        · obtain ⟨rfl, s5⟩ := hm
          have s6 : Same H H3 := s3.trans s5
          have hfi : firstOf pl ≤ o.length := by
            rw [WiM.first_eq]
            split
            · exact Nat.zero_le _
            · rename_i hne
              have := List.length_pos_iff.mpr hne
              have := hR.lt (pl.length - 1) (by omega)
              omega
          refine ⟨_, rfl, _, rfl, _, rfl, ao, _, rfl, .inr (seqT s6 T1), (firstOf pl : Int), (o.length : Int), by rw [vN_len], ⟨by omega, by omega, by omega, by omega⟩, fun D hD => ?_⟩
          obtain ⟨xm, hm1, hm2⟩ := hM.mono s5
          have hnn : ((o.length : Int) - (firstOf pl : Int)).toNat = o.length - firstOf pl := by omega
          refine lc_range (lo := (firstOf pl : Int)) (n := ((o.length : Int) - (firstOf pl : Int)).toNat) (fun k H4 => Same H3 H4 ∧ LstO K H4 D (((rangeFrom (firstOf pl) o.length).take k).map fun x => pl ++ [x]))
            ⟨same_upd hD, [], upd_same, .nil⟩ (fun k H4 hk h => ?_) (fun H4 h => ?_)
          · obtain ⟨s9, xd, hd1, hd2⟩ := h
            have hy : (rangeFrom (firstOf pl) o.length)[k]? = some (firstOf pl + k) := by
              unfold rangeFrom
              rw [List.getElem?_map, List.getElem?_range (by omega)]
              rfl
            refine ⟨rfl, _, rfl, _, rfl, by show 1 ≤ sizeLine; decide, fun tp htp => ?_⟩
            rw [show (firstOf pl : Int) + (k : Int) = ((firstOf pl + k : Nat) : Int) by omega]
            have s12 : Same H4 (upd H4 tp (.tup [.int ((firstOf pl + k : Nat) : Int)])) := same_upd htp
            refine catA_any (xs := vN pl) (ys := vN [firstOf pl + k]) (seqT ((s5.trans s9).trans s12) T5) (.of upd_same) ?_ fun a H6 s13 hT => ?_
            · rw [vN_len, vN_len]
              exact small_t (by simp; omega)
            rw [← vN_app] at hT
            have hd4 := s13 _ _ (s12 _ _ hd1)
            refine ⟨xd, hd4, ?_, over hD ((s9.trans s12).trans s13), xd ++ [.ref a], upd_same, ?_⟩
            · have e1 := lenO hd2
              rw [List.length_map] at e1
              have e2 : ((rangeFrom (firstOf pl) o.length).take k).length ≤ o.length := by
                rw [List.length_take, WiM.range_len]
                omega
              exact small1000 (by omega)
            · rw [List.take_add_one, hy, List.map_append, List.map_append]
              exact dall_app (dOs_over hd4 (dmns (s12.trans s13) hd2)) (.cons (dO_over hd4 (dO_of hT)) .nil)
          · obtain ⟨s9, xd, hd1, hd2⟩ := h
            rw [List.take_of_length_le (by rw [WiM.range_len]; omega)] at hd2
            refine ⟨m, D, xm, xd, rfl, rfl, s9 _ _ hm1, hd1, ?_, fun m2 hm3 => ?_⟩
            · rw [lenO hm2, lenO hd2]
              have e1 := WiM.flat_take (ext1 o.length) hpl
              have e2 := WiM.flat_take_len e1l (riseAt o.length j) (i + 1)
              rw [e1, List.length_append] at e2
              have e3 : (ext1 o.length pl).length = ((rangeFrom (firstOf pl) o.length).map fun x => pl ++ [x]).length := rfl
              rw [← e3, sizeLine_eq]
              omega
            · have s13 : Same H2 (upd H4 m2 (.lst (xm ++ xd))) := (s5.trans s9).trans (same_upd hm3)
              refine ⟨m2, _, _, _, _, rfl, s3.trans s13, s13 _ _ hl2, dmns s13 hA2, xm ++ xd, upd_same, ?_⟩
              rw [WiM.flat_take (ext1 o.length) hpl, List.map_append]
              exact dall_app (dmns (s9.trans (same_upd hm3)) hm2) (dmns (same_upd hm3) hd2)
      · obtain ⟨m, z5, z6, z7, z8, rfl, s3, hl2, hA2, hM⟩ := h
        refine ⟨_, rfl, m, _, _, _, _, _, _, rfl, s3, ?_⟩
        rw [hlen, List.take_of_length_le (Nat.le_refl _)] at hM
        exact hM
    · obtain ⟨l, y3, y4, y5, y6, y7, y8, rfl, s1, xs, hxs, hA⟩ := h
      rw [vN_len] at hA
      have hlen := lenO hA
      have cap2 : (riseAt o.length p.length).length ≤ 1000000 := by
        refine Nat.le_trans (WiM.rise_size o.length p.length) ?_
        refine Nat.le_trans (Nat.pow_le_pow_left h8 _) ?_
        exact Nat.le_trans (Nat.pow_le_pow_right (by decide) h5) (by decide)
      refine ⟨_, rfl, l, rfl, ⟨_, .of hxs⟩, fun D hD => ?_⟩
      refine lc_list (K := K) (xs := xs) (fun k H4 => Same H1 H4 ∧ LstO K H4 D (((riseAt o.length p.length).take k).filter (lkF o p)))
        ⟨same_upd hD, [], upd_same, .nil⟩ (fun k H4 _ h => .of (h.1 _ _ hxs)) (fun k x H4 hx4 h => ?_) (fun H4 h => ?_)
      · obtain ⟨s9, xd, hd1, hd2⟩ := h
        obtain ⟨pl, hpl, dpl⟩ := dOs_get hA hx4
        obtain ⟨apl, rfl, T5⟩ := dO_inv dpl
        have hR := (WiM.mem_rise _ _ _).mp (List.mem_of_getElem? hpl)
        have hplen := hR.len
        refine ⟨rfl, _, rfl, apl, rfl, ⟨_, seqT s9 T5⟩, fun D2 hD2 => ?_⟩
        refine lc_tup (K := K) (xs := vN pl) (fun i H5 => Same H4 H5 ∧ H5 D2 = some (.lst (vN ((pl.map fun x => o.getD x 0).take i)))) ⟨same_upd hD2, upd_same⟩ (fun i H5 _ h => seqT (s9.trans h.1) T5) (fun i x H5 hx5 h => ?_) (fun H5 h => ?_)
        · obtain ⟨s10, hD5⟩ := h
          obtain ⟨y, hy, rfl⟩ := vN_get hx5
          have hi : i < pl.length := (List.getElem?_eq_some_iff.mp hy).1
          have hyo : y < o.length := by
            have z := hR.lt i (by omega)
            have e := getD_some hi
            rw [hy] at e
            rw [← Option.some.inj e] at z
            exact z
          refine ⟨rfl, ⟨_, rfl, _, rfl, ao, _, _, _, rfl, rfl, seqT ((s1.trans s9).trans s10) T1, vN_atD hyo, _, hD5, ?_, over hD2 s10, ?_⟩⟩
          · rw [vN_len, List.length_take]
            exact small1000 (by omega)
          · rw [upd_same, take_snoc (fun x => o.getD x 0) hy, vN_app]
            rfl
        · obtain ⟨s10, hD5⟩ := h
          rw [vN_len, List.take_of_length_le (by rw [List.length_map]; exact Nat.le_refl _)] at hD5
          refine ⟨_, rfl, D2, _, _, p, rfl, .of hD5, dmn ((s1.trans s9).trans s10) d2, by rw [List.length_map]; omega, fun H6 s11 => ⟨_, rfl, ?_⟩⟩
          have s12 := s10.trans s11
          rw [WiM.filter_take' (f := lkF o p) hpl]
          show (if lkF o p pl = true then _ else _)
          cases hg : lkF o p pl with
          | false =>
            refine iteF ⟨s9.trans s12, ?_⟩
            rw [if_neg (by decide)]
            exact ⟨xd, s12 _ _ hd1, dmns s12 hd2⟩
          | true =>
            have hd4 := s12 _ _ hd1
            refine iteT ⟨_, rfl, xd, hd4, ?_, over hD (s9.trans s12), xd ++ [.ref apl], upd_same, ?_⟩
            · have e1 := lenO hd2
              have e3 := List.length_filter_le (lkF o p) ((riseAt o.length p.length).take k)
              have e4 := List.length_take_le k (riseAt o.length p.length)
              rw [sizeLine_eq]
              have e5 : ((riseAt o.length p.length).take k).length ≤ (riseAt o.length p.length).length := by
                rw [List.length_take]
                omega
              omega
            · rw [if_pos rfl, List.map_append]
              exact dall_app (dOs_over hd4 (dmns s12 hd2)) (.cons (dO_over hd4 (dO_of (seqT (s9.trans s12) T5))) .nil)
      · obtain ⟨s9, hD4⟩ := h
        rw [hlen, List.take_of_length_le (Nat.le_refl _)] at hD4
        exact q _ _ (s1.trans s9) hD4
end
end Wp
end

section
set_option linter.all false
/-! Plain: the law's orders without. -/
namespace WiM
def noneOf (ps : List (List Nat)) (o : List Nat) : Bool := decide (ps.filter (fun p => decide (lawSpots o p ≠ [])) = [])
def lawWithout (m : Nat) (ps : List (List Nat)) : List (List Nat) := (lawAll m m).filter (noneOf ps)
end WiM
end

section
set_option Elab.async false
set_option linter.all false
set_option maxRecDepth 100000
set_option maxHeartbeats 1000000
/-! The law's orders without. -/
namespace Wp
open PySem PySem.Spec PyProof.Rows L2 Wq
open WiM (Ord lawAll lawSpots lawWithout noneOf)
section
variable {P : Program} {w : World} {K : PySem.W.Frag} {mg : Str → Option Value} {base : Heap} {A : Ad}
def tNeD (K : PySem.W.Frag) (ta tb : TE) : TT := tTest (tOp (rNeD K) ta tb)
theorem neDE (K : PySem.W.Frag) {X : Cx} {a b : Expr} {ta tb : TE} {pos : Pos} (hu : X.A.units + 64 < cLine) (ha : PE X a ta) (hb : PE X b tb) (hK : X.K = K := by rfl) : PT X (.Compare a [.NotEq] [b] pos) (tNeD K ta tb) := by
  subst hK
  exact pt_cmpR (op_neD hu) ha hb (nomark _)
def spWithout (K : PySem.W.Frag) : Sp := fun vs H Q _ => ∃ (m : Nat) (v2 : V) (ps : List (List Nat)), vs = [.int (m : Int), v2] ∧ 1 ≤ m ∧ m ≤ 4 ∧ Dp K H v2 (dT ps) ∧ ps.length ≤ 100 ∧ (∀ p ∈ ps, p.length ≤ 5) ∧ ∀ H' l, Same H H' → LstO K H' l (lawWithout m ps) → Q (.ref l) H'
theorem scWithout : FnScope ["_law_many", "_law_shapes", "_law_found", "_law_row", "_law_shape"] ["_law_many", "_law_shapes"] (defScope sWithout) := ⟨rfl, rfl, rfl, by decide +kernel, rfl, by decide +kernel, by decide +kernel⟩
theorem ok_without {f : Addr} {fd : FuncData} (F : Fun K "_law_without" "_law_without" sWithout f fd) (N : Nm mg) (GA : Df P w K mg base CX0 1 "_law_all" ["_law_many"] (spLAll K)) (GS : Df P w K mg base CX0 2 "_law_spots" ["_law_row", "_law_shape"] (spLSpots K)) :
    FnOk P w K mg base CX0 3 f fd ["_law_many", "_law_shapes"] (spWithout K) := by
  refine F.ok scWithout (fun vs H Q E h => ?_) (fun cdv A' outer s H vs Q E hr h => ?_)
  · obtain ⟨m, v2, ps, rfl, _⟩ := h
    rfl
  · obtain ⟨m, v2, ps, rfl, h1, h4, d2, hps, hp5, q⟩ := h
    obtain ⟨ap, ws, rfl, T2, A2⟩ := dT_inv d2
    refine ⟨_, pss_cons (ps_set (i := 2) scWithout.nd rfl (Or.inl rfl) (pe_lst pa_nil))
      (pss_cons (ps_for PassesOwn.never rfl (pi_list (pe_d GA hr (by decide) (by rfl) pass0 (pa_cons (pv 0) pa_nil))) (pg_name (i := 3) scWithout.nd rfl (Or.inr rfl))
        (pss_one (ps_if (pt_cmpR (op_eqD hr.units)
            (pe_lc (own := [("_law_shape", 4)]) (g := gName 4) (tt := tNeD K (tD (spLSpots K) E0 (tCons (tVar 3) (tCons (tVar 4) tNil))) (tLst tNil)) rfl scWithout.nd (pi_tup (pv 1)) (blkOk_by (N := ["_law_many", "_law_shapes", "_law_found", "_law_row", "_law_shape"]) (sc := defScope sWithout) (by decide +kernel))
              (fun _ _ _ _ _ => pg_name (i := 4) scWithout.nd rfl (Or.inl rfl))
              (fun _ _ _ _ _ => by exact pts_one (neDE K hr.units (by exact pe_d GS hr (by decide) (by rfl) pass0 (pa_cons (pv 3) (pa_cons (pv 4) pa_nil))) (pe_lst pa_nil)))
              (fun _ _ _ _ _ => pv 4)) (pe_lst pa_nil) (nomark _))
          (pss_one (ps_expr (pe_bm PySem.F.plainAttrs_list PySem.F.slot_list_append PySem.F.type_list_append mt_append (pv 2) (pa_cons (pv 3) pa_nil)))) pss_nil)))
      (pss_one (ps_ret (pv 2)))), ?_⟩
    refine ⟨Nat.zero_le _, fun f0 hf0 => ?_⟩
    have s0 : Same H (upd H f0 (.lst [])) := same_upd hf0
    refine ⟨_, rfl, m, rfl, h1, h4, fun H0 la s00 hn0 hLA => ?_⟩
    obtain ⟨xs, hxs, hA⟩ := hLA
    have hlen := lenO hA
    have hne : la ≠ f0 := fun e => by
      rw [e, upd_same] at hn0
      cases hn0
    have cap : (lawAll m m).length ≤ 256 := by
      refine Nat.le_trans (WiM.lawAll_size m m) ?_
      refine Nat.le_trans (Nat.pow_le_pow_left h4 _) ?_
      exact Nat.le_trans (Nat.pow_le_pow_right (by decide) h4) (by decide)
    refine ⟨la, rfl, ⟨_, .of hxs⟩, ?_⟩
    refine for_list (K := K) (xs := xs) (fun i σ H1 => ∃ y3 y4 : Option V, σ = [some (.int (m : Int)), some (.ref ap), some (.ref f0), y3, y4] ∧ Same H H1 ∧ H1 la = some (.lst xs) ∧ DpAll K H1 xs ((lawAll m m).map dO) ∧ LstO K H1 f0 (((lawAll m m).take i).filter (noneOf ps)))
      ⟨none, none, rfl, s0.trans s00, hxs, hA, [], s00 _ _ upd_same, .nil⟩ (fun i σ H1 _ h => ?_) (fun i x σ H1 hx h => ?_) (fun σ H1 h => ?_)
    · obtain ⟨y3, y4, _, _, hq, _⟩ := h
      exact .of hq
    · obtain ⟨y3, y4, rfl, s1, hq, hA1, hL⟩ := h
      obtain ⟨o, ho, dO1⟩ := dOs_get hA1 hx
      obtain ⟨ao, rfl, TO⟩ := dO_inv dO1
      have hol : o.length = m := WiM.lawAll_len (List.mem_of_getElem? ho)
      refine ⟨_, rfl, ap, rfl, ⟨_, seqT s1 T2⟩, fun D hD => ?_⟩
      refine lc_tup (K := K) (xs := ws) (fun k H4 => Same H1 H4 ∧ LstO K H4 D ((ps.take k).filter fun p => decide (lawSpots o p ≠ [])))
        ⟨same_upd hD, [], upd_same, .nil⟩ (fun k H4 _ h => seqT (s1.trans h.1) T2) (fun k x H4 hx4 h => ?_) (fun H4 h => ?_)
      · obtain ⟨s9, xd, hd1, hd2⟩ := h
        obtain ⟨p, hp, dp⟩ := dOs_get (dmns (s1.trans s9) A2) hx4
        obtain ⟨app, rfl, TP⟩ := dO_inv dp
        have hk : k < ps.length := (List.getElem?_eq_some_iff.mp hp).1
        refine ⟨rfl, _, rfl, _, rfl, _, _, o, p, rfl, dO_of (seqT s9 TO), dp, by omega, by omega, hp5 p (List.mem_of_getElem? hp), fun H5 l5 s10 hL5 => ⟨Nat.zero_le _, fun e he => ?_⟩⟩
        have s11 := s10.trans (same_upd (o := .lst []) he)
        refine ⟨dL (lawSpots o p), dL [], (hL5.mono (same_upd he)).dp, .lst (.of upd_same) .nil, shaped_L _, shaped_L _, _, rfl, ?_⟩
        rw [eqv_L, WiM.filter_take' (f := fun p => decide (lawSpots o p ≠ [])) hp]
        by_cases hg : lawSpots o p = []
        · rw [decide_eq_true hg, decide_eq_false (not_not_intro hg)]
          refine iteF ⟨s9.trans s11, ?_⟩
          rw [if_neg (by decide)]
          exact ⟨xd, s11 _ _ hd1, dmns s11 hd2⟩
        · rw [decide_eq_false hg, decide_eq_true hg]
          have hd4 := s11 _ _ hd1
          refine iteT ⟨_, rfl, xd, hd4, ?_, over hD (s9.trans s11), xd ++ [.ref app], upd_same, ?_⟩
          · have e1 := lenO hd2
            have e3 := List.length_filter_le (fun p => decide (lawSpots o p ≠ [])) (ps.take k)
            have e5 : (ps.take k).length ≤ ps.length := by
              rw [List.length_take]
              omega
            exact small1000 (by omega)
          · rw [if_pos rfl, List.map_append]
            exact dall_app (dOs_over hd4 (dmns s11 hd2)) (.cons (dO_over hd4 (dO_of (seqT s11 TP))) .nil)
      · obtain ⟨s9, hD4⟩ := h
        rw [lenO A2, List.take_of_length_le (Nat.le_refl _)] at hD4
        refine ⟨Nat.zero_le _, fun e he => ?_⟩
        have s11 := s9.trans (same_upd (o := .lst []) he)
        refine ⟨dL (ps.filter fun p => decide (lawSpots o p ≠ [])), dL [], (hD4.mono (same_upd he)).dp, .lst (.of upd_same) .nil, shaped_L _, shaped_L _, _, rfl, ?_⟩
        rw [eqv_L]
        obtain ⟨xf, hf1, hf2⟩ := hL.mono s11
        have eat := WiM.filter_take' (f := noneOf ps) ho
        have en : decide (ps.filter (fun p => decide (lawSpots o p ≠ [])) = []) = noneOf ps o := rfl
        rw [en]
        cases e9 : noneOf ps o with
        | false =>
          refine iteF ⟨_, _, rfl, s1.trans s11, s11 _ _ hq, dmns s11 hA1, ?_⟩
          rw [eat, e9, if_neg (by decide)]
          exact ⟨xf, hf1, hf2⟩
        | true =>
          refine iteT ⟨_, rfl, .inl ⟨rfl, _, .of hf1⟩, _, rfl, f0, xf, _, rfl, rfl, hf1, ?_, ?_⟩
          · have e1 := lenO hf2
            have e3 := List.length_filter_le (noneOf ps) ((lawAll m m).take i)
            have e5 : ((lawAll m m).take i).length ≤ (lawAll m m).length := by
              rw [List.length_take]
              omega
            exact small1000 (by omega)
          · have s12 : Same H (upd _ f0 (.lst (xf ++ [.ref ao]))) := over hf0 (s1.trans s11)
            refine ⟨_, _, rfl, s12, ?_, dOs_over hf1 (dmns s11 hA1), xf ++ [.ref ao], upd_same, ?_⟩
            · rw [upd_ne hne]
              exact s11 _ _ hq
            · rw [eat, e9, if_pos rfl, List.map_append]
              exact dall_app (dOs_over hf1 hf2) (.cons (dO_over hf1 (dO_of (seqT s11 TO))) .nil)
    · obtain ⟨y3, y4, rfl, s1, hq, hA1, hL⟩ := h
      rw [hlen, List.take_of_length_le (Nat.le_refl _)] at hL
      exact ⟨_, rfl, q _ _ s1 hL⟩
end
end Wp
end

section
set_option Elab.async false
set_option linter.all false
set_option maxRecDepth 100000
set_option maxHeartbeats 1000000
/-! The law's names of an error. -/
namespace Wp
open PySem PySem.Spec PyProof.Rows L2 L2H Wq
/-- a comprehension over pairs -/
theorem lc_pairs {K : PySem.W.Frag} {a b : Addr} {xs ys : List V} {g : TG} {tt : TT} {te : TE} {vs : List Nat} {σ : L2.St} {H1 : Hp} {D : Addr} {Qd : Hp → Prop} (hxy : xs.length ≤ ys.length) (Pv : Nat → Hp → Prop) (h0 : Pv 0 (upd H1 D (.lst []))) (hl : ∀ i H, i ≤ xs.length → Pv i H → SqL K H a xs ∧ SqL K H b ys)
    (hs : ∀ i x y T H, xs[i]? = some x → ys[i]? = some y → Pv i H → H T = none → g (.ref T) (wipe σ vs) (upd H T (.tup [x, y])) fun σ2 H2 => wipe σ2 vs = wipe σ vs ∧ tt σ2 H2 fun b H3 =>
      if b = true then te σ2 H3 fun y H4 => ∃ acc, H4 D = some (.lst acc) ∧ acc.length < sizeLine ∧ Pv (i + 1) (upd H4 D (.lst (acc ++ [y]))) else Pv (i + 1) H3) (hd : ∀ H, Pv xs.length H → Qd H) :
    ∃ W : Nat → Nat → Hp → Prop, (∃ m, W 0 m (upd H1 D (.lst []))) ∧ ∀ i m H, W i m H →
      ((Itp K a b).stop i H ∧ Qd H) ∨ ((Itp K a b).go i H ∧ ∃ Nx : Hp → Prop, (∀ H', Nx H' → ∃ m', m' < m ∧ W (i + 1) m' H') ∧ ∀ x H', (Itp K a b).yld i H x H' → g x (wipe σ vs) H' fun σ2 H2 => wipe σ2 vs = wipe σ vs ∧ tt σ2 H2 fun b H3 =>
        if b = true then te σ2 H3 fun y H4 => ∃ acc, H4 D = some (.lst acc) ∧ acc.length < sizeLine ∧ Nx (upd H4 D (.lst (acc ++ [y]))) else Nx H3) := by
  refine ⟨fun i m H => m = xs.length - i ∧ i ≤ xs.length ∧ Pv i H, ⟨xs.length, by simp, Nat.zero_le _, h0⟩, ?_⟩
  rintro i m H ⟨rfl, hi, p⟩
  obtain ⟨q1, q2⟩ := hl i H hi p
  by_cases hlt : i < xs.length
  · have hlt2 : i < ys.length := by omega
    refine .inr ⟨⟨xs, ys, xs[i], ys[i], q1, q2, List.getElem?_eq_getElem hlt, List.getElem?_eq_getElem hlt2⟩, Pv (i + 1), fun H' h' => ⟨xs.length - (i + 1), by omega, rfl, by omega, h'⟩, fun x H' y => ?_⟩
    obtain ⟨T, x', y', rfl, hT, rfl, hx, hy⟩ := y
    exact hs i x' y' T H (hx xs q1) (hy ys q2) p hT
  · have e : i = xs.length := by omega
    subst e
    exact .inl ⟨⟨xs, q1, Nat.le_refl _⟩, hd H p⟩
/-! ### the facts -/
def Er.bits : Er → List Bool
  | .ord => [true, false, false, false, false, false, false, false, true]
  | .many => [false, true, false, false, false, false, false, false, true]
  | .pat => [false, false, false, false, true, false, false, false, true]
  | .pats => [false, false, false, false, false, true, false, false, true]
  | .few => [false, false, false, false, false, false, false, true, true]
def Er.text : Er → Str
  | .ord => "order value"
  | .many => "things value"
  | .pat => "pattern value"
  | .pats => "patterns value"
  | .few => "many value"
def labs : List Str := ["order", "things", "number", "word", "pattern", "patterns", "places", "many", "value"]
/-- isinstance, one after the other -/
structure IsK (K : PySem.W.Frag) (A : Ad) (D : Addr) (bs : List Bool) : Prop where
  ex : ExcC K D
  k0 : PySem.W.kitOne K (.ref D) (.ref A.o) = some (bs.getD 0 false)
  k1 : PySem.W.kitOne K (.ref D) (.ref A.m) = some (bs.getD 1 false)
  k2 : PySem.W.kitOne K (.ref D) (.ref A.n) = some (bs.getD 2 false)
  k3 : PySem.W.kitOne K (.ref D) (.ref A.w) = some (bs.getD 3 false)
  k4 : PySem.W.kitOne K (.ref D) (.ref A.p) = some (bs.getD 4 false)
  k5 : PySem.W.kitOne K (.ref D) (.ref A.ps) = some (bs.getD 5 false)
  k6 : PySem.W.kitOne K (.ref D) (.ref A.pl) = some (bs.getD 6 false)
  k7 : PySem.W.kitOne K (.ref D) (.ref A.t) = some (bs.getD 7 false)
  k8 : PySem.W.kitOne K (.ref D) (.type "ValueError") = some (bs.getD 8 false)
structure IsF (K : PySem.W.Frag) (mg : Str → Option Value) (A : Ad) : Prop where
  go : mg "InvalidOrder" = some (.ref A.o)
  gm : mg "InvalidMany" = some (.ref A.m)
  gn : mg "InvalidNumber" = some (.ref A.n)
  gw : mg "InvalidWord" = some (.ref A.w)
  gp : mg "InvalidPattern" = some (.ref A.p)
  gps : mg "InvalidPatterns" = some (.ref A.ps)
  gpl : mg "InvalidPlaces" = some (.ref A.pl)
  gt : mg "TooMany" = some (.ref A.t)
  ve : mg "ValueError" = none
  k : ∀ er : Er, IsK K A (A.at er) er.bits
section
variable {P : Program} {w : World} {K : PySem.W.Frag} {mg : Str → Option Value} {base : Heap} {A : Ad}
def spNames (A : Ad) : SpX := fun a cls d vs H Q _ => ∃ er : Er, vs = [.ref a] ∧ cls = .ref (A.at er) ∧ DictAt d H ∧ ∀ H', Same H H' → Q (.str er.text) H'
theorem scNames : FnScope ["_law_e", "_law_some", "_law_labels", "_law_label", "_law_good"] ["_law_e"] (defScope sNames) := ⟨rfl, rfl, rfl, by decide +kernel, rfl, by decide +kernel, by decide +kernel⟩
theorem bits_all (er : Er) : [er.bits.getD 0 false, er.bits.getD 1 false, er.bits.getD 2 false] ++ [er.bits.getD 3 false, er.bits.getD 4 false, er.bits.getD 5 false] ++ [er.bits.getD 6 false, er.bits.getD 7 false, er.bits.getD 8 false] = er.bits := by cases er <;> rfl
theorem split_labs : Txt.split "order things number word pattern patterns places many value" " " = labs := by decide +kernel
def pick (er : Er) (i : Nat) : List Str := ((labs.zip er.bits).take i).filterMap fun q => if q.2 = true then some q.1 else none
theorem pick_text (er : Er) : Txt.join " " (pick er 9) = er.text := by cases er <;> decide +kernel
theorem pick_step {er : Er} {i : Nat} {lb : Str} {bb : Bool} (h1 : labs[i]? = some lb) (h2 : er.bits[i]? = some bb) : pick er (i + 1) = if bb = true then pick er i ++ [lb] else pick er i := by
  unfold pick
  have e : (labs.zip er.bits)[i]? = some (lb, bb) := List.getElem?_zip_eq_some.mpr ⟨h1, h2⟩
  rw [List.take_add_one, e, List.filterMap_append]
  cases bb with
  | true => rfl
  | false =>
    show _ ++ [] = _
    rw [List.append_nil, if_neg (by decide)]
theorem pick_len (er : Er) (i : Nat) : (pick er i).length ≤ 1000 := by
  unfold pick
  refine Nat.le_trans (List.length_filterMap_le _ _) ?_
  rw [List.length_take, List.length_zip]
  have : labs.length = 9 := rfl
  omega
theorem pick_size (er : Er) : ((pick er 9).map (·.length)).sum + (pick er 9).length * (" " : Str).length ≤ 16777216 := by cases er <;> decide +kernel
theorem map_at {α β : Type} {f : α → β} {l : List α} {i : Nat} {x : β} (h : (l.map f)[i]? = some x) : ∃ a, l[i]? = some a ∧ x = f a := by
  rw [List.getElem?_map] at h
  cases e : l[i]? with
  | none => rw [e] at h; cases h
  | some a => rw [e] at h; cases h; exact ⟨a, rfl, rfl⟩
theorem bits_V (er : Er) : ([V.bl (er.bits.getD 0 false), .bl (er.bits.getD 1 false), .bl (er.bits.getD 2 false)] ++ [.bl (er.bits.getD 3 false), .bl (er.bits.getD 4 false), .bl (er.bits.getD 5 false)] ++ [.bl (er.bits.getD 6 false), .bl (er.bits.getD 7 false), .bl (er.bits.getD 8 false)]) = er.bits.map V.bl := by cases er <;> rfl
theorem dictAt_mono {d : Option Addr} {H H' : Hp} (h : DictAt d H) (s : Same H H') : DictAt d H' := h.elim .inl fun ⟨dd, fs, e, z⟩ => .inr ⟨dd, fs, e, s _ _ z⟩
theorem refU {C : Addr} : ∀ u, RelV (.ref C) u → u = .ref C := fun _ r => r
theorem ok_names {f : Addr} {fd : FuncData} (F : Fun K "_law_names" "_law_names" sNames f fd) (N : Nm mg) (G : IsF K mg A) : FnE P w K mg base 1 f fd ["_law_e"] (spNames A) := by
  refine fnE_of F scNames (fun a cls d vs H Q E h => ?_) (fun cdv A' outer s H vs Q a oe cls d hz hf hot hr h => ?_)
  · obtain ⟨er, rfl, _⟩ := h
    rfl
  · obtain ⟨er, rfl, rfl, hd, q⟩ := h
    have IK := G.k er
    refine ⟨_, pss_cons (ps_set (i := 1) scNames.nd rfl (Or.inl rfl) (pe_lst (pa_cons (pe_callB (call_isX (d := d) IK.ex List.mem_cons_self hz.zc hf) (by rfl) N.isinst boot_isinstance (pa_cons (pv 0) (pa_cons (pe_glob (v := .ref A.o) (by rfl) G.go rfl) pa_nil)))
          (pa_cons (pe_callB (call_isX (d := d) IK.ex List.mem_cons_self hz.zc hf) (by rfl) N.isinst boot_isinstance (pa_cons (pv 0) (pa_cons (pe_glob (v := .ref A.m) (by rfl) G.gm rfl) pa_nil)))
          (pa_cons (pe_callB (call_isX (d := d) IK.ex List.mem_cons_self hz.zc hf) (by rfl) N.isinst boot_isinstance (pa_cons (pv 0) (pa_cons (pe_glob (v := .ref A.n) (by rfl) G.gn rfl) pa_nil))) pa_nil)))))
      (pss_cons (ps_set (i := 1) scNames.nd rfl (Or.inl rfl) (pe_op op_cat (pv 1) (pe_lst (pa_cons (pe_callB (call_isX (d := d) IK.ex List.mem_cons_self hz.zc hf) (by rfl) N.isinst boot_isinstance (pa_cons (pv 0) (pa_cons (pe_glob (v := .ref A.w) (by rfl) G.gw rfl) pa_nil)))
          (pa_cons (pe_callB (call_isX (d := d) IK.ex List.mem_cons_self hz.zc hf) (by rfl) N.isinst boot_isinstance (pa_cons (pv 0) (pa_cons (pe_glob (v := .ref A.p) (by rfl) G.gp rfl) pa_nil)))
          (pa_cons (pe_callB (call_isX (d := d) IK.ex List.mem_cons_self hz.zc hf) (by rfl) N.isinst boot_isinstance (pa_cons (pv 0) (pa_cons (pe_glob (v := .ref A.ps) (by rfl) G.gps rfl) pa_nil))) pa_nil))))))
      (pss_cons (ps_set (i := 1) scNames.nd rfl (Or.inl rfl) (pe_op op_cat (pv 1) (pe_lst (pa_cons (pe_callB (call_isX (d := d) IK.ex List.mem_cons_self hz.zc hf) (by rfl) N.isinst boot_isinstance (pa_cons (pv 0) (pa_cons (pe_glob (v := .ref A.pl) (by rfl) G.gpl rfl) pa_nil)))
          (pa_cons (pe_callB (call_isX (d := d) IK.ex List.mem_cons_self hz.zc hf) (by rfl) N.isinst boot_isinstance (pa_cons (pv 0) (pa_cons (pe_glob (v := .ref A.t) (by rfl) G.gt rfl) pa_nil)))
          (pa_cons (pe_callB (call_isX (d := d) IK.ex List.mem_cons_self hz.zc hf) (by rfl) N.isinst boot_isinstance (pa_cons (pv 0) (pa_cons (pe_bltn (v := .ty "ValueError") (by rfl) G.ve (by rfl) rfl) pa_nil))) pa_nil))))))
      (pss_cons (ps_set (i := 2) scNames.nd rfl (Or.inl rfl) pe_str)
      (pss_one (ps_ret (pe_join pe_str (pe_lcH (own := [("_law_label", 3), ("_law_good", 4)]) (g := gTup K 2 (gCons (gName 3) (gCons (gName 4) gNil))) (tt := tB (tVar 4)) ⟨_, hot, List.mem_cons_self⟩ scNames.nd
        (pi_pairs (by rfl) N.zip (pa_cons (pe_split (pv 2) pe_str) (pa_cons (pv 1) pa_nil))) (blkOk_by (N := ["_law_e", "_law_some", "_law_labels", "_law_label", "_law_good"]) (sc := defScope sNames) (by decide +kernel))
        (fun _ _ _ _ _ => by exact pg_tupH ⟨_, hot, List.mem_cons_self⟩ (pgs_cons (pg_name (i := 3) scNames.nd rfl (Or.inl rfl)) (pgs_cons (pg_name (i := 4) scNames.nd rfl (Or.inl rfl)) pgs_nil)))
        (fun _ _ _ _ _ => pts_one (pt_val (pv 4))) (fun _ _ _ _ _ => pv 3)))))))), ?_⟩
    refine ⟨_, rfl, _, _, _, rfl, refU, IK.k0, hd, _, rfl, _, _, _, rfl, refU, IK.k1, hd, _, rfl, _, _, _, rfl, refU, IK.k2, hd, by show 3 ≤ sizeLine; decide, fun l1 h1 => ?_⟩
    have s1 := same_upd (o := .lst [.bl (er.bits.getD 0 false), .bl (er.bits.getD 1 false), .bl (er.bits.getD 2 false)]) h1
    have hd1 := dictAt_mono hd s1
    refine ⟨_, rfl, _, rfl, _, _, _, rfl, refU, IK.k3, hd1, _, rfl, _, _, _, rfl, refU, IK.k4, hd1, _, rfl, _, _, _, rfl, refU, IK.k5, hd1, by show 3 ≤ sizeLine; decide, fun l2 h2 => ?_⟩
    have s2 := same_upd (o := .lst [.bl (er.bits.getD 3 false), .bl (er.bits.getD 4 false), .bl (er.bits.getD 5 false)]) h2
    refine ⟨l1, l2, _, _, rfl, rfl, s2 _ _ upd_same, upd_same, by show 6 ≤ sizeLine; decide, fun l3 h3 => ?_⟩
    have s3 := same_upd (o := .lst ([.bl (er.bits.getD 0 false), .bl (er.bits.getD 1 false), .bl (er.bits.getD 2 false)] ++ [.bl (er.bits.getD 3 false), .bl (er.bits.getD 4 false), .bl (er.bits.getD 5 false)])) h3
    have hd3 := dictAt_mono (dictAt_mono hd1 s2) s3
    refine ⟨_, rfl, _, rfl, _, _, _, rfl, refU, IK.k6, hd3, _, rfl, _, _, _, rfl, refU, IK.k7, hd3, _, rfl, _, .type "ValueError", _, rfl, fun u r => r, IK.k8, hd3, by show 3 ≤ sizeLine; decide, fun l4 h4 => ?_⟩
    have s4 := same_upd (o := .lst [.bl (er.bits.getD 6 false), .bl (er.bits.getD 7 false), .bl (er.bits.getD 8 false)]) h4
    refine ⟨l3, l4, _, _, rfl, rfl, s4 _ _ upd_same, upd_same, by show 9 ≤ sizeLine; decide, fun l5 h5 => ?_⟩
    rw [bits_V]
    have s5 := same_upd (o := .lst (er.bits.map V.bl)) h5
    have S := (((s1.trans s2).trans s3).trans s4).trans s5
    refine ⟨⟨_, rfl⟩, _, rfl, ⟨_, rfl⟩, _, _, rfl, rfl, rfl, by show _ ≤ sizeLine; decide +kernel, fun l6 h6 => ?_⟩
    rw [split_labs]
    have s6 := same_upd (o := .lst (labs.map V.str)) h6
    have b5 := s6 _ _ (upd_same (o := .lst (er.bits.map V.bl)))
    refine ⟨_, rfl, l6, l5, _, _, rfl, .of upd_same, .of b5, fun D hD => ?_⟩
    have sD := same_upd (o := .lst []) hD
    have b6' := sD _ _ (upd_same (a := l6))
    have b5' := sD _ _ b5
    refine lc_pairs (K := K) (xs := labs.map V.str) (ys := er.bits.map V.bl) (by cases er <;> decide) (fun i H7 => Same H H7 ∧ H7 l6 = some (.lst (labs.map V.str)) ∧ H7 l5 = some (.lst (er.bits.map V.bl)) ∧ H7 D = some (.lst ((pick er i).map V.str)))
      ⟨(S.trans s6).trans sD, b6', b5', upd_same⟩ (fun i H7 _ h => ⟨.of h.2.1, .of h.2.2.1⟩) (fun i x y T H7 hx hy h hT => ?_) (fun H7 h => ?_)
    · obtain ⟨z1, z2, z3, z4⟩ := h
      obtain ⟨lb, hlb, rfl⟩ := map_at hx
      obtain ⟨bb, hbb, rfl⟩ := map_at hy
      have sT := same_upd (o := .tup [.str lb, .bl bb]) hT
      have e := pick_step hlb hbb
      refine ⟨T, _, rfl, .of upd_same, rfl, _, _, rfl, _, _, rfl, rfl, rfl, _, rfl, bb, rfl, ?_⟩
      have n1 : l6 ≠ D := fun q => by
        rw [← q] at hD
        rw [upd_same] at hD
        cases hD
      have n2 : l5 ≠ D := fun q => by
        rw [← q, b5] at hD
        cases hD
      cases bb with
      | false =>
        refine iteF ⟨z1.trans sT, sT _ _ z2, sT _ _ z3, ?_⟩
        rw [e, if_neg (by decide)]
        exact sT _ _ z4
      | true =>
        refine iteT ⟨_, rfl, _, sT _ _ z4, ?_, ?_, ?_, ?_, ?_⟩
        · rw [List.length_map]
          exact small1000 (pick_len er i)
        · exact over (none_of (S.trans s6) hD) (z1.trans sT)
        · rw [upd_ne n1]
          exact sT _ _ z2
        · rw [upd_ne n2]
          exact sT _ _ z3
        · rw [upd_same, e, if_pos rfl, List.map_append]
          rfl
    · obtain ⟨z1, z2, z3, z4⟩ := h
      refine ⟨_, D, pick er 9, rfl, rfl, .inl (.of z4), pick_size er, ?_⟩
      rw [pick_text]
      exact q H7 z1
end
end Wp
end

section
set_option Elab.async false
set_option linter.all false
set_option maxRecDepth 100000
set_option maxHeartbeats 1000000
/-! The law's catcher. -/
namespace Wp
open PySem PySem.Spec PyProof.Rows L2 L2H LamX Wq
def TTerr (A : Ad) : (XK → Hp → VK → Prop) → Hp → VK → Prop := fun tl H Q => ∀ (E : XK) (R : VK),
  (∀ (er : Er) d H', DictAt d H' → (∀ H'', Same H' H'' → Q (.str er.text) H'') → E (.ref (A.at er)) d H') → (∀ v H', Q (.str "") H' → R v H') → tl E H R
/-- what the catcher leans on -/
structure ErrF (P : Program) (w : World) (K : PySem.W.Frag) (mg : Str → Option Value) (base : Heap) (A : Ad) : Prop where
  nm : ∃ (f : Addr) (fd : FuncData), FnE P w K mg base 1 f fd ["_law_e"] (spNames A) ∧ mg "_law_names" = some (.ref f) ∧ PySem.W.keepIn K (.ref f) = true ∧ Binds K fd ["_law_e"] []
  gb : mg "OrderError" = some (.ref A.b)
  ex : ∀ er : Er, PySem.W.exmOne K (.ref (A.at er)) (.ref A.b) = some true
theorem scError : FnScope ["_law_call", "_law_e"] ["_law_call"] (defScope sError) := ⟨rfl, rfl, rfl, by decide +kernel, rfl, by decide +kernel, by decide +kernel⟩
theorem gives_err {X : Cx} {A : Ad} {k : Nat} {g : Addr} {q : Str} (hk1 : 1 ≤ k) (G : ErrF X.prog X.w X.K X.mg X.base A) : ∀ cdv, GivesN X k ["_law_call", "_law_e"] "_law_error" (defScope sError) g cdv (defBody sError) "_law_call" q (TTerr A) := by
  intro cdv f c' s H Q tl hr hcall hc hTT
  obtain ⟨fn, fdn, NF, hm, kp, b⟩ := G.nm
  refine ⟨_, pss_cons (L2N.ps_try_as (i := 1) (x := "OrderError") (c := .ref A.b) (tb := fun W => tDrop (fun σZ HZ Q => σZ[0]? = some (some (.ref f)) ∧ HZ c' = some (CodeO c' q) ∧ tl (WE W σZ) HZ Q)) (ts := fun a cls d => tRet (tSuite 1 a cls d (spNames A))) (Wout := fun _ _ _ _ => False)
      rfl rfl scError.nd rfl rfl ⟨rfl, by decide, Or.inl G.gb⟩ takesN0
      (fun W pn xe tk _ => pss_one (ps_expr (hcall W pn xe _ _ tk)))
      (fun a oe cls d pn hz hf => pss_one (ps_ret (by exact pe_callE NF (hr.mono hk1) hz hf (by rfl) hm kp b (by rfl) (by exact Or.inl rfl)))))
    (pss_one (ps_ret pe_str)), ?_⟩
  refine ⟨rfl, hc, hTT _ _ (fun er d H' hd hq => ?_) fun v H' hq => hq⟩
  exact ⟨true, G.ex er, fun _ a ha => ⟨rfl, er, rfl, rfl, hd, hq⟩, fun z => nomatch z⟩
end Wp
end

section
set_option Elab.async false
set_option linter.all false
set_option maxRecDepth 100000
set_option maxHeartbeats 1000000
/-! What the refused calls lean on. -/
namespace Wp
open PySem PySem.Spec PyProof.Rows L2 L2H LamX Wq
open WiM (gAt)
section
variable {K : PySem.W.Frag} {H H' H1 : Hp} {T : List (Addr × Str)}
/-! ### heaps that keep all but tables -/
theorem seqT_ext {a : Addr} {xs : List V} (e : ExtN H H') (h : SqT K H a xs) : SqT K H' a xs := by
  rcases h with (h | ⟨o, h⟩) | h
  · exact .inl (.inl (e _ _ h fun ps z => by cases z))
  · exact .inl (.inr ⟨o, e _ _ h fun ps z => by cases z⟩)
  · exact .inr h
theorem seqL_ext {a : Addr} {xs : List V} (e : ExtN H H') (h : SqL K H a xs) : SqL K H' a xs := by
  rcases h with (h | ⟨o, h⟩) | h
  · exact .inl (.inl (e _ _ h fun ps z => by cases z))
  · exact .inl (.inr ⟨o, e _ _ h fun ps z => by cases z⟩)
  · exact .inr h
mutual
theorem dext (e : ExtN H H') : ∀ (d : PyData) (v : V), Dp K H v d → Dp K H' v d
  | .none, _, h => by cases h; exact .non
  | .bool b, _, h => by cases h; exact .bl b
  | .int i, _, h => by cases h; exact .int i
  | .str x, _, h => by cases h; exact .str x
  | .list ds, _, h => by
    cases h with
    | lst h1 h2 => exact .lst (seqL_ext e h1) (dexts e ds _ h2)
  | .tuple ds, _, h => by
    cases h with
    | tup h1 h2 => exact .tup (seqT_ext e h1) (dexts e ds _ h2)
  | .dict _, _, h => by cases h
theorem dexts (e : ExtN H H') : ∀ (ds : List PyData) (vs : List V), DpAll K H vs ds → DpAll K H' vs ds
  | [], _, h => by cases h; exact .nil
  | d :: ds, _, h => by
    cases h with
    | cons h1 h2 => exact .cons (dext e d _ h1) (dexts e ds _ h2)
end
theorem dex (e : ExtN H H') {d : PyData} {v : V} (h : Dp K H v d) : Dp K H' v d := dext e d v h
theorem ext_lst {a : Addr} {xs : List V} (e : ExtN H H') (h : H a = some (.lst xs)) : H' a = some (.lst xs) := e _ _ h fun ps z => by cases z
/-- nothing but a table stands there -/
def Wn (f : Addr) (H : Hp) : Prop := ∀ o, H f = some o → ∃ ps, o = HO.tbl ps
theorem wn_of {f : Addr} (e : ExtN H H') (h : H' f = none) : Wn f H := fun o ho => by
  by_cases hp : ∃ ps, o = HO.tbl ps
  · exact hp
  · have := e f o ho fun ps z => hp ⟨ps, z⟩
    rw [h] at this
    cases this
theorem ext_over {f : Addr} {o : HO} (w : Wn f H) (e : ExtN H H') : ExtN H (upd H' f o) := fun b u hu hn => by
  have nb : b ≠ f := fun z => by
    rw [z] at hu
    obtain ⟨ps, q⟩ := w u hu
    exact hn ps q
  rw [upd_ne nb]
  exact e b u hu hn
theorem ext_new {f : Addr} {o : HO} (e : ExtN H H') (h : H' f = none) : ExtN H (upd H' f o) := ext_over (wn_of e h) e
theorem tabs_over {D : Addr} {ys zs : List V} (hD : H D = some (.lst ys)) (t : Tabs T H) : Tabs T (upd H D (.lst zs)) := fun p hp => by
  obtain ⟨ps, h1, h2, h3⟩ := t p hp
  have n1 : p.1 ≠ D := fun z => by
    rw [z, hD] at h1
    cases h1
  refine ⟨ps, by rw [upd_ne n1]; exact h1, h2, fun pos cv hc => ?_⟩
  obtain ⟨c, e, hco⟩ := h3 pos cv hc
  have n2 : c ≠ D := fun z => by
    rw [z, hD] at hco
    cases hco
  exact ⟨c, e, by rw [upd_ne n2]; exact hco⟩
theorem tabs_new {D : Addr} {o : HO} (hD : H D = none) (t : Tabs T H) : Tabs T (upd H D o) := t.ext fun b u e => same_upd hD b u e
end
section
variable {P : Program} {w : World} {K : PySem.W.Frag} {mg : Str → Option Value} {base : Heap} {A : Ad} {H H1 : Hp} {T : List (Addr × Str)}
/-! ### one call by the catcher -/
theorem lam_ref {t : XK → TE} {σ : L2.St} {Q : VK} (er : Er) (hT : Tabs T H) (h : ∀ E H1 R, ExtN H H1 → Tabs T H1 → Raise A er H1 E → t E σ H1 R) (q : ∀ H', ExtN H H' → Tabs T H' → Q (.str er.text) H') : tLam T (TTerr A) t σ H Q :=
  ⟨hT, fun H1 e t1 E R good _ => h E H1 R e t1 fun H' d s hd => good er d H' hd fun H'' s'' => q H'' (e.trans (ExtN.of (s.trans s''))) (t1.ext (s.trans s''))⟩
theorem ref_ord {few : Bool} {Rr : List Nat → List Nat → Hp → VK → Prop} {v1 v2 : V} {a1 a2 : Arg} {Q : VK} {E : XK} (d1 : Dp K H1 v1 a1.d) (d2 : Dp K H1 v2 a2.d) (m1 : a1.small) (m2 : a2.small) (f1 : fO a1 = false) (r : Raise A .ord H1 E) : spOP K A few Rr [v1, v2] H1 Q E :=
  ⟨v1, v2, a1, a2, rfl, d1, d2, m1, m2, fun _ => r, fun z => (by rw [f1] at z; cases z), fun o p e _ hO _ h1 h2 _ _ => by
    rw [e, fO_of hO h1 h2] at f1
    cases f1⟩
theorem ref_pat {few : Bool} {Rr : List Nat → List Nat → Hp → VK → Prop} {v1 v2 : V} {a1 a2 : Arg} {Q : VK} {E : XK} (d1 : Dp K H1 v1 a1.d) (d2 : Dp K H1 v2 a2.d) (m1 : a1.small) (m2 : a2.small) (f1 : fO a1 = true) (f2 : fP a2 = false) (r : Raise A .pat H1 E) : spOP K A few Rr [v1, v2] H1 Q E :=
  ⟨v1, v2, a1, a2, rfl, d1, d2, m1, m2, fun z => (by rw [f1] at z; cases z), fun _ _ => r, fun o p _ e _ hO _ _ h1 h2 => by
    rw [e, fP_of hO h1 h2] at f2
    cases f2⟩
theorem ref_few {Rr : List Nat → List Nat → Hp → VK → Prop} {v1 v2 : V} {o p : List Nat} {Q : VK} {E : XK} (d1 : Dp K H1 v1 (argO o).d) (d2 : Dp K H1 v2 (argO p).d) (hO : WiM.Ord o) (h1 : 1 ≤ o.length) (h2 : o.length ≤ 30) (hP : WiM.Ord p) (h3 : 1 ≤ p.length) (h4 : p.length ≤ 5) (h12 : 12 < o.length)
    (r : Raise A .few H1 E) : spOP K A true Rr [v1, v2] H1 Q E :=
  ⟨v1, v2, argO o, argO p, rfl, d1, d2, smallO (by omega), smallO (by omega), noO hO h1 h2, fun _ => noP hP h3 h4, fun o' p' e _ _ _ _ _ _ _ => by
    rw [← argO_inj e]
    exact ⟨fun _ _ => r, fun z => by
      have := z rfl
      omega⟩⟩
theorem ref_many {lim : Nat} {Rr : Nat → List (List Nat) → Hp → VK → Prop} {v2 : V} {a2 : PArg} {Q : VK} {E : XK} (d2 : Dp K H1 v2 a2.d) (m2 : a2.small) (r : Raise A .many H1 E) : spMP K A lim Rr [.int 0, v2] H1 Q E :=
  ⟨0, v2, a2, rfl, d2, m2, fun _ => r, fun z => absurd z.1 (by decide), fun m ps e e2 h1 h0 h2 h3 => absurd e (by omega)⟩
theorem ref_pats {lim : Nat} {Rr : Nat → List (List Nat) → Hp → VK → Prop} {n : Int} {v2 : V} {a2 : PArg} {Q : VK} {E : XK} (d2 : Dp K H1 v2 a2.d) (m2 : a2.small) (hn : 1 ≤ n ∧ n ≤ 30) (f2 : fPs a2 = false) (r : Raise A .pats H1 E) : spMP K A lim Rr [.int n, v2] H1 Q E :=
  ⟨n, v2, a2, rfl, d2, m2, fun z => absurd hn z, fun _ _ => r, fun m ps _ e2 h1 h0 h2 _ => by
    rw [e2, fPs_of h1 h0 h2] at f2
    cases f2⟩
theorem ref_over {lim m : Nat} {Rr : Nat → List (List Nat) → Hp → VK → Prop} {v2 : V} {ps : List (List Nat)} {Q : VK} {E : XK} (d2 : Dp K H1 v2 (PArg.tup (ps.map argO)).d) (m2 : (PArg.tup (ps.map argO)).small) (h1 : 1 ≤ m) (h30 : m ≤ 30) (f2 : fPs (.tup (ps.map argO)) = true) (hl : lim < m) (r : Raise A .few H1 E) : spMP K A lim Rr [.int (m : Int), v2] H1 Q E :=
  ⟨m, v2, _, rfl, d2, m2, fun z => absurd ⟨by omega, by omega⟩ z, fun _ z => (by rw [f2] at z; cases z), fun m' ps' e _ _ _ _ _ => by
    have : m = m' := by omega
    subst this
    exact ⟨fun _ => r, fun z => absurd hl (by omega)⟩⟩
end
end Wp
end

section
set_option Elab.async false
set_option linter.all false
set_option maxRecDepth 100000
set_option maxHeartbeats 4000000
/-! The refused calls. -/
namespace Wp
open PySem PySem.Spec PyProof.Rows L2 L2H LamX Wq
open WiM (gAt)
/-- a def whose code object is known -/
structure FunC (K : PySem.W.Frag) (x qual : Str) (st : Stmt) (f : Addr) (fd : FuncData) (c : Addr) : Prop where
  ex : ∃ (oc : Value) (od : Option Addr) (kV doc pm : Value) (an : Option Addr) (ct : Value) (osl : Array (Option Value)),
    fd = PySem.W.fnOf x qual (defArgs st) (defBody st) (defScope st) .none kV doc pm an (.ref c) ct ∧ K.lookup f = some ⟨oc, od, .func fd, osl⟩ ∧ PySem.W.codeIn K (.ref c) qual = true
  kp : PySem.W.keepIn K (.ref f) = true
theorem FunC.fn {K : PySem.W.Frag} {x qual : Str} {st : Stmt} {f : Addr} {fd : FuncData} {c : Addr} (F : FunC K x qual st f fd c) : Fun K x qual st f fd := by
  obtain ⟨oc, od, kV, doc, pm, an, ct, osl, h1, h2, h3⟩ := F.ex
  exact ⟨⟨oc, od, kV, doc, pm, an, _, ct, osl, h1, h2, h3⟩, F.kp⟩
theorem FunC.ok {P : Program} {w : World} {K : PySem.W.Frag} {mg : Str → Option Value} {base : Heap} {x qual : Str} {st : Stmt} {f c : Addr} {fd : FuncData} {N ps : List Str} {k : Nat} {sp : Sp} (F : FunC K x qual st f fd c) (S : FnScope N ps (defScope st)) (len : ∀ vs H Q E, sp vs H Q E → vs.length = ps.length)
    (hbody : ∀ (A : Around) (outer : List Env) (s : Shared) (H : Hp) (vs : List V) (Q : VK) (E : XK), Room k (A.deeper (envOfC qual (defScope st) s.heap.objs.size f (.ref c))) → sp vs H Q E →
      ∃ t, PSs (cxOf CX0 P w K mg base N qual (defScope st) f (.ref c) A outer s H E).nox (defBody st) t ∧ t { nx := fun _ H' => Q .non H', rt := Q } (L2.start N vs) H) : FnOk P w K mg base CX0 (k + 1) f fd ps sp := by
  obtain ⟨oc, od, kV, doc, pm, an, ct, osl, rfl, lk, hcd⟩ := F.ex
  refine fn_of lk hcd S len fun A outer s H vs Q E hr hsp => ?_
  obtain ⟨t, h, q⟩ := hbody A outer s H vs Q E hr hsp
  exact ⟨t, h.nox, q⟩
/-- the catcher, and the code object of the def that makes the lambdas -/
structure LamF (P : Program) (w : World) (K : PySem.W.Frag) (mg : Str → Option Value) (base : Heap) (A : Ad) (c Pt : Addr) : Prop where
  er : ErrF P w K mg base A
  fn : ∃ (f : Addr) (fd : FuncData), Fun K "_law_error" "_law_error" sError f fd ∧ mg "_law_error" = some (.ref f) ∧ Binds K fd ["_law_call"] []
  tb : TabB base mg c Pt
theorem lamE {X : Cx} {A : Ad} {c Pt : Addr} {q : Str} {params : Arguments} {body : Expr} {scope : Scope} {t : XK → TE} {p lpos pos : Pos} (LF : LamF X.prog X.w X.K X.mg X.base A c Pt) (hcode : X.env.code = .ref c) (hq : X.env.qual ++ "<lambda>" = q) (hg : Gl X "_law_error") (hr : Room 8 X.A)
    (L : LamS X.env.scope scope) (hdef : defaultsOf params X.env = ([], []))
    (hbind : ∀ (q : Str) (cl : List (Str × Addr)) (pm cv ctv : Value), bindArgs (PySem.W.kla_fn "<lambda>" q params body scope cl pm cv ctv) ⟨[], []⟩ = pure [])
    (hbody : ∀ (A : Around) (outer : List Env) (s : Shared) (H : Hp) (E : XK) (f c' : Addr), Room 6 (A.deeper (lamEnv X scope s.heap.objs.size f c')) → PE (lamN X A outer s H E scope f c') body (t E)) :
    PE X (.Call (.Name "_law_error" p) [.Lambda params body scope lpos] [] pos) (tLam [(Pt, q)] (TTerr A) t) := by
  obtain ⟨g, fdg, F, hm, hb⟩ := LF.fn
  subst hq
  exact pe_lamN (k := 6) (c := c) (P := Pt) hg hm F hb scError rfl (Or.inl rfl) (gives_err (by decide) LF.er) LF.tb hcode List.mem_cons_self (fun p hp _ => by
    rw [List.mem_singleton] at hp
    rw [hp]) hr L hdef hbind hbody
/-- the public defs -/
structure DfP (P : Program) (w : World) (K : PySem.W.Frag) (mg : Str → Option Value) (base : Heap) (A : Ad) : Prop where
  spots : Df P w K mg base (L2N.CX P w) 5 "spots" ["order", "pattern"] (spOP K A true (rSpots K))
  count : Df P w K mg base (L2N.CX P w) 5 "count_spots" ["order", "pattern"] (spOP K A true rCount)
  has : Df P w K mg base (L2N.CX P w) 5 "has_pattern" ["order", "pattern"] (spOP K A false rHas)
  ordW : Df P w K mg base (L2N.CX P w) 6 "orders_without" ["many", "patterns"] (spMP K A 6 (rOrdW K))
  countW : Df P w K mg base (L2N.CX P w) 6 "count_without" ["many", "patterns"] (spMP K A 7 rCountW)
section
variable {P : Program} {w : World} {K : PySem.W.Frag} {mg : Str → Option Value} {base : Heap} {A : Ad}
def exp1 : List Str := ["pattern value", "pattern value", "pattern value", "patterns value", "patterns value"]
def exp2 : List Str := ["patterns value", "patterns value"]
def exp3 : List Str := ["order value", "order value", "things value", "many value", "many value", "many value", "pattern value"]
def exp4 : List Str := [Er.ord.text, Er.ord.text, Er.many.text, Er.few.text, Er.few.text, Er.few.text, Er.pat.text]
theorem one_small : (PArg.tup (([[0, 1]] : List (List Nat)).map argO)).small := ⟨by show 1 ≤ 100; decide, fun b hb => by
  rw [show ([[0, 1]] : List (List Nat)).map argO = [argO [0, 1]] from rfl, List.mem_singleton] at hb
  rw [hb]
  exact smallO (by decide)⟩
def oddL : List Arg := [.non, .tup [], .tup [0, 1, 2, 3, 4, 5], .tup [0, 0], .lst [.int 0]]
theorem odd_ok : ∀ a ∈ oddL, fP a = false ∧ a.small := by
  intro a ha
  unfold oddL at ha
  simp only [List.mem_cons, List.not_mem_nil, or_false] at ha
  rcases ha with rfl | rfl | rfl | rfl | rfl
  · exact ⟨rfl, trivial⟩
  · exact ⟨by decide, by show 0 ≤ 1000; decide⟩
  · exact ⟨by decide, by show 6 ≤ 1000; decide⟩
  · exact ⟨by decide, by show 2 ≤ 1000; decide⟩
  · exact ⟨rfl, trivial⟩
def patL : List PArg := [.non, .tup [], .tup (List.replicate 7 (argO [0])), .lst [.tuple [.int 0]]]
theorem pat_ok : ∀ a ∈ patL, fPs a = false ∧ a.small := by
  intro a ha
  unfold patL at ha
  simp only [List.mem_cons, List.not_mem_nil, or_false] at ha
  rcases ha with rfl | rfl | rfl | rfl
  · exact ⟨rfl, trivial⟩
  · exact ⟨by decide, by show 0 ≤ 100; decide, fun b hb => absurd hb (by simp)⟩
  · exact ⟨by decide, by show 7 ≤ 100; decide, fun b hb => by
      rw [(List.mem_replicate.mp hb).2]
      show 1 ≤ 1000
      decide⟩
  · exact ⟨rfl, trivial⟩
theorem pargs_get {H : Hp} {xs : List V} {as : List PArg} {i : Nat} {x : V} (h : DpAll K H xs (as.map PArg.d)) (e : xs[i]? = some x) : ∃ a, as[i]? = some a ∧ Dp K H x a.d := by
  obtain ⟨d, h1, h2⟩ := dall_get h e
  rw [List.getElem?_map] at h1
  cases q : as[i]? with
  | none => rw [q] at h1; cases h1
  | some o => rw [q] at h1; cases h1; exact ⟨o, rfl, h2⟩
theorem ord_range (n : Nat) : WiM.Ord (List.range n) := ⟨List.nodup_range, fun x hx => by rw [List.length_range]; exact List.mem_range.mp hx⟩
theorem dO_arg {H : Hp} {a : Addr} {o : List Nat} (h : SqT K H a (vN o)) : Dp K H (.ref a) (argO o).d := argD (dO_of h)
theorem dI_all {H : Hp} : ∀ ns : List Int, DpAll K H (ns.map V.int) (ns.map PyData.int)
  | [] => .nil
  | n :: ns => .cons (.int n) (dI_all ns)
theorem dI_of {H : Hp} {a : Addr} {ns : List Int} (h : SqT K H a (ns.map V.int)) : Dp K H (.ref a) (Arg.tup ns).d := .tup h (dI_all ns)
def dS (ss : List Str) : PyData := .list (ss.map .str)
theorem dS_all {H : Hp} : ∀ ss : List Str, DpAll K H (ss.map V.str) (ss.map PyData.str)
  | [] => .nil
  | n :: ns => .cons (.str n) (dS_all ns)
theorem dS_of {H : Hp} {a : Addr} {ss : List Str} (h : H a = some (.lst (ss.map V.str))) : Dp K H (.ref a) (dS ss) := .lst (.of h) (dS_all ss)
abbrev qRef : Str := Str.ofString "_law_refused.<locals>.<lambda>"
def spRefused (K : PySem.W.Frag) (Pt : Addr) : Sp := fun vs H Q _ => ∃ (v : V) (o : List Nat), vs = [v] ∧ Dp K H v (dO o) ∧ WiM.Ord o ∧ 1 ≤ o.length ∧ o.length ≤ 8 ∧ Tabs [(Pt, qRef)] H ∧ ∀ H', ExtN H H' → Tabs [(Pt, qRef)] H' → Q (.bl true) H'
theorem scRef : FnScope ["_law_row", "_law_odd", "_law_found", "_law_heard"] ["_law_row"] (defScope sRefused) := ⟨rfl, rfl, rfl, by decide +kernel, rfl, by decide +kernel, by decide +kernel⟩
theorem ok_refused {f c Pt : Addr} {fd : FuncData} (F : FunC K "_law_refused" "_law_refused" sRefused f fd c) (N : Nm mg) (LF : LamF P w K mg base A c Pt) (D : DfP P w K mg base A) : FnOk P w K mg base CX0 9 f fd ["_law_row"] (spRefused K Pt) := by
  refine F.ok scRef (fun vs H Q E h => ?_) (fun A' outer s H vs Q E hr h => ?_)
  · obtain ⟨v, o, rfl, _⟩ := h
    rfl
  · obtain ⟨v, o, rfl, d1, hO, h1, h8, hT, q⟩ := h
    have hr8 := hr
    refine ⟨_, (pss_cons (ps_for PassesOwn.never rfl (pi_tup (pe_tup (pa_cons pe_non (pa_cons (pe_tup pa_nil) (pa_cons (pe_tup (pa_cons pe_int (pa_cons pe_int (pa_cons pe_int (pa_cons pe_int (pa_cons pe_int (pa_cons pe_int pa_nil))))))) (pa_cons (pe_tup (pa_cons pe_int (pa_cons pe_int pa_nil))) (pa_cons (pe_lst (pa_cons pe_int pa_nil)) pa_nil))))))) (pg_name (i := 1) scRef.nd rfl (Or.inr rfl))
        (pss_cons (ps_set (i := 2) scRef.nd rfl (Or.inl rfl) (pe_lst (pa_cons (lamE LF rfl rfl (by rfl) hr8 (lamS_by (sc := defScope sRefused) (by decide +kernel)) rfl (fun _ _ _ _ _ => rfl) (fun _ _ _ _ _ _ _ hr2 => by exact pe_ds D.spots hr2 (by decide) (by rfl) lamN_takes (pa_cons (pv 0) (pa_cons (pv 1) pa_nil)))) pa_nil)))
        (pss_cons (ps_expr (pe_bm PySem.F.plainAttrs_list PySem.F.slot_list_append PySem.F.type_list_append mt_append (pv 2) (pa_cons (lamE LF rfl rfl (by rfl) hr8 (lamS_by (sc := defScope sRefused) (by decide +kernel)) rfl (fun _ _ _ _ _ => rfl) (fun _ _ _ _ _ _ _ hr2 => by exact pe_ds D.count hr2 (by decide) (by rfl) lamN_takes (pa_cons (pv 0) (pa_cons (pv 1) pa_nil)))) pa_nil)))
        (pss_cons (ps_expr (pe_bm PySem.F.plainAttrs_list PySem.F.slot_list_append PySem.F.type_list_append mt_append (pv 2) (pa_cons pe_str pa_nil)))
        (pss_cons (ps_expr (pe_bm PySem.F.plainAttrs_list PySem.F.slot_list_append PySem.F.type_list_append mt_append (pv 2) (pa_cons pe_str pa_nil)))
        (pss_cons (ps_expr (pe_bm PySem.F.plainAttrs_list PySem.F.slot_list_append PySem.F.type_list_append mt_append (pv 2) (pa_cons pe_str pa_nil)))
        (pss_cons (ps_asg (lamE LF rfl rfl (by rfl) hr8 (lamS_by (sc := defScope sRefused) (by decide +kernel)) rfl (fun _ _ _ _ _ => rfl) (fun _ _ _ _ _ _ _ hr2 => by exact pe_ds D.has hr2 (by decide) (by rfl) lamN_takes (pa_cons (pv 0) (pa_cons (pv 1) pa_nil)))) (pg_sub (pv 2) pe_int set_list))
        (pss_cons (ps_asg (lamE LF rfl rfl (by rfl) hr8 (lamS_by (sc := defScope sRefused) (by decide +kernel)) rfl (fun _ _ _ _ _ => rfl) (fun _ _ _ _ _ _ _ hr2 => by exact pe_ds D.ordW hr2 (by decide) (by rfl) lamN_takes (pa_cons pe_int (pa_cons (pe_tup (pa_cons (pv 1) pa_nil)) pa_nil)))) (pg_sub (pv 2) pe_int set_list))
        (pss_cons (ps_asg (lamE LF rfl rfl (by rfl) hr8 (lamS_by (sc := defScope sRefused) (by decide +kernel)) rfl (fun _ _ _ _ _ => rfl) (fun _ _ _ _ _ _ _ hr2 => by exact pe_ds D.countW hr2 (by decide) (by rfl) lamN_takes (pa_cons pe_int (pa_cons (pe_tup (pa_cons (pv 1) (pa_cons (pe_tup (pa_cons pe_int pa_nil)) pa_nil))) pa_nil)))) (pg_sub (pv 2) pe_int set_list))
        (pss_one (ps_if (pt_cmpR (op_neD hr.units) (pv 2) (pe_op op_cat (pe_op op_rep (pe_lst (pa_cons pe_str pa_nil)) pe_int) (pe_op op_rep (pe_lst (pa_cons pe_str pa_nil)) pe_int)) (nomark _)) (pss_one (ps_ret pe_bl)) pss_nil)))))))))))
        (pss_cons (ps_for PassesOwn.never rfl (pi_tup (pe_tup (pa_cons pe_non (pa_cons (pe_tup pa_nil) (pa_cons (pe_op op_repT (pe_tup (pa_cons (pe_tup (pa_cons pe_int pa_nil)) pa_nil)) pe_int) (pa_cons (pe_lst (pa_cons (pe_tup (pa_cons pe_int pa_nil)) pa_nil)) pa_nil)))))) (pg_name (i := 1) scRef.nd rfl (Or.inr rfl))
        (pss_cons (ps_set (i := 3) scRef.nd rfl (Or.inl rfl) (pe_lst (pa_cons (lamE LF rfl rfl (by rfl) hr8 (lamS_by (sc := defScope sRefused) (by decide +kernel)) rfl (fun _ _ _ _ _ => rfl) (fun _ _ _ _ _ _ _ hr2 => by exact pe_ds D.ordW hr2 (by decide) (by rfl) lamN_takes (pa_cons pe_int (pa_cons (pv 1) pa_nil)))) pa_nil)))
        (pss_cons (ps_expr (pe_bm PySem.F.plainAttrs_list PySem.F.slot_list_append PySem.F.type_list_append mt_append (pv 3) (pa_cons (lamE LF rfl rfl (by rfl) hr8 (lamS_by (sc := defScope sRefused) (by decide +kernel)) rfl (fun _ _ _ _ _ => rfl) (fun _ _ _ _ _ _ _ hr2 => by exact pe_ds D.countW hr2 (by decide) (by rfl) lamN_takes (pa_cons pe_int (pa_cons (pv 1) pa_nil)))) pa_nil)))
        (pss_one (ps_if (pt_cmpR (op_neD hr.units) (pv 3) (pe_op op_rep (pe_lst (pa_cons pe_str pa_nil)) pe_int) (nomark _)) (pss_one (ps_ret pe_bl)) pss_nil)))))
        (pss_cons (ps_set (i := 2) scRef.nd rfl (Or.inl rfl) (pe_lst (pa_cons (lamE LF rfl rfl (by rfl) hr8 (lamS_by (sc := defScope sRefused) (by decide +kernel)) rfl (fun _ _ _ _ _ => rfl) (fun _ _ _ _ _ _ _ hr2 => by exact pe_ds D.spots hr2 (by decide) (by rfl) lamN_takes (pa_cons pe_non (pa_cons pe_non pa_nil)))) pa_nil)))
        (pss_cons (ps_expr (pe_bm PySem.F.plainAttrs_list PySem.F.slot_list_append PySem.F.type_list_append mt_append (pv 2) (pa_cons (lamE LF rfl rfl (by rfl) hr8 (lamS_by (sc := defScope sRefused) (by decide +kernel)) rfl (fun _ _ _ _ _ => rfl) (fun _ _ _ _ _ _ _ hr2 => by exact pe_ds D.has hr2 (by decide) (by rfl) lamN_takes (pa_cons (pe_tup (pa_cons pe_int pa_nil)) (pa_cons pe_non pa_nil)))) pa_nil)))
        (pss_cons (ps_expr (pe_bm PySem.F.plainAttrs_list PySem.F.slot_list_append PySem.F.type_list_append mt_append (pv 2) (pa_cons pe_str pa_nil)))
        (pss_cons (ps_expr (pe_bm PySem.F.plainAttrs_list PySem.F.slot_list_append PySem.F.type_list_append mt_append (pv 2) (pa_cons pe_str pa_nil)))
        (pss_cons (ps_expr (pe_bm PySem.F.plainAttrs_list PySem.F.slot_list_append PySem.F.type_list_append mt_append (pv 2) (pa_cons pe_str pa_nil)))
        (pss_cons (ps_expr (pe_bm PySem.F.plainAttrs_list PySem.F.slot_list_append PySem.F.type_list_append mt_append (pv 2) (pa_cons pe_str pa_nil)))
        (pss_cons (ps_expr (pe_bm PySem.F.plainAttrs_list PySem.F.slot_list_append PySem.F.type_list_append mt_append (pv 2) (pa_cons pe_str pa_nil)))
        (pss_cons (ps_asg (lamE LF rfl rfl (by rfl) hr8 (lamS_by (sc := defScope sRefused) (by decide +kernel)) rfl (fun _ _ _ _ _ => rfl) (fun _ _ _ _ _ _ _ hr2 => by exact pe_ds D.ordW hr2 (by decide) (by rfl) lamN_takes (pa_cons pe_int (pa_cons pe_non pa_nil)))) (pg_sub (pv 2) pe_int set_list))
        (pss_cons (ps_asg (lamE LF rfl rfl (by rfl) hr8 (lamS_by (sc := defScope sRefused) (by decide +kernel)) rfl (fun _ _ _ _ _ => rfl) (fun _ _ _ _ _ _ _ hr2 => by exact pe_ds D.ordW hr2 (by decide) (by rfl) lamN_takes (pa_cons pe_int (pa_cons (pe_tup (pa_cons (pe_tup (pa_cons pe_int (pa_cons pe_int pa_nil))) pa_nil)) pa_nil)))) (pg_sub (pv 2) pe_int set_list))
        (pss_cons (ps_asg (lamE LF rfl rfl (by rfl) hr8 (lamS_by (sc := defScope sRefused) (by decide +kernel)) rfl (fun _ _ _ _ _ => rfl) (fun _ _ _ _ _ _ _ hr2 => by exact pe_ds D.countW hr2 (by decide) (by rfl) lamN_takes (pa_cons pe_int (pa_cons (pe_tup (pa_cons (pe_tup (pa_cons pe_int (pa_cons pe_int pa_nil))) pa_nil)) pa_nil)))) (pg_sub (pv 2) pe_int set_list))
        (pss_cons (ps_asg (lamE LF rfl rfl (by rfl) hr8 (lamS_by (sc := defScope sRefused) (by decide +kernel)) rfl (fun _ _ _ _ _ => rfl) (fun _ _ _ _ _ _ _ hr2 => by exact pe_ds D.spots hr2 (by decide) (by rfl) lamN_takes (pa_cons (pe_tupRg rfl (by rfl) N.tuple (prg_1 (by rfl) N.range pe_int)) (pa_cons (pe_tup (pa_cons pe_int (pa_cons pe_int pa_nil))) pa_nil)))) (pg_sub (pv 2) pe_int set_list))
        (pss_cons (ps_asg (lamE LF rfl rfl (by rfl) hr8 (lamS_by (sc := defScope sRefused) (by decide +kernel)) rfl (fun _ _ _ _ _ => rfl) (fun _ _ _ _ _ _ _ hr2 => by exact pe_ds D.count hr2 (by decide) (by rfl) lamN_takes (pa_cons (pe_tupRg rfl (by rfl) N.tuple (prg_1 (by rfl) N.range pe_int)) (pa_cons (pe_tup (pa_cons pe_int (pa_cons pe_int pa_nil))) pa_nil)))) (pg_sub (pv 2) pe_int set_list))
        (pss_cons (ps_if (pt_cmpR (op_neD hr.units) (pv 2) (pe_op op_cat (pe_op op_cat (pe_op op_cat (pe_op op_rep (pe_lst (pa_cons pe_str pa_nil)) pe_int) (pe_lst (pa_cons pe_str pa_nil))) (pe_op op_rep (pe_lst (pa_cons pe_str pa_nil)) pe_int)) (pe_lst (pa_cons pe_str pa_nil))) (nomark _)) (pss_one (ps_ret pe_bl)) pss_nil)
        (pss_one (ps_ret pe_bl))))))))))))))))), ?_⟩
    have row : ∀ {Hc : Hp}, ExtN H Hc → Dp K Hc v (argO o).d := fun e => argD (dex e d1)
    have sr : (argO o).small := smallO (by omega)
    have fr : fO (argO o) = true := fO_of hO h1 (by omega)
    -- the first loop
    refine ⟨Nat.zero_le _, fun t2 k2 => ⟨by show 6 ≤ sizeLine; decide, fun t3 k3 => ⟨by show 2 ≤ sizeLine; decide, fun t4 k4 => ⟨by show 1 ≤ sizeLine; decide, fun t5 k5 => ⟨by show 5 ≤ sizeLine; decide, fun at1 k6 => ?_⟩⟩⟩⟩⟩
    have s2 := same_upd (o := .tup (([] : List Int).map V.int)) k2
    have s3 := same_upd (o := .tup (([0, 1, 2, 3, 4, 5] : List Int).map V.int)) k3
    have s4 := same_upd (o := .tup (([0, 0] : List Int).map V.int)) k4
    have s5 := same_upd (o := .lst (([0] : List Int).map V.int)) k5
    have s6 := same_upd (o := .tup [.non, .ref t2, .ref t3, .ref t4, .ref t5]) k6
    have S6 := ((s2.trans s3).trans s4).trans (s5.trans s6)
    refine ⟨at1, rfl, ⟨_, .of upd_same⟩, ?_⟩
    refine for_tup (K := K) (xs := [.non, .ref t2, .ref t3, .ref t4, .ref t5]) (fun i σ Hc => ∃ y1 y2 y3 : Option V, σ = [some v, y1, y2, y3] ∧ ExtN H Hc ∧ Tabs [(Pt, qRef)] Hc ∧ SqT K Hc at1 [.non, .ref t2, .ref t3, .ref t4, .ref t5] ∧ DpAll K Hc [.non, .ref t2, .ref t3, .ref t4, .ref t5] (oddL.map Arg.d))
      ⟨none, none, none, rfl, ExtN.of S6, hT.ext S6, .of upd_same, .cons .non (.cons (dI_of (.of (((s3.trans s4).trans (s5.trans s6)) _ _ upd_same))) (.cons (dI_of (.of ((s4.trans (s5.trans s6)) _ _ upd_same))) (.cons (dI_of (.of ((s5.trans s6) _ _ upd_same)))
        (.cons (.lst (.of (s6 _ _ upd_same)) (.cons (.int 0) .nil)) .nil))))⟩ (fun i σ Hc _ h => ?_) (fun i x σ Hc hx h => ?_) (fun σ Hc h => ?_)
    · obtain ⟨_, _, _, _, _, _, z, _⟩ := h
      exact z
    · obtain ⟨y1, y2, y3, rfl, e0, tT, qT, aT⟩ := h
      obtain ⟨a, ha, da⟩ := args_get aT hx
      obtain ⟨fa, sa⟩ := odd_ok a (List.mem_of_getElem? ha)
      refine lam_ref .pat tT (fun E H1 R e1 t1 rz => ⟨_, rfl, _, rfl, ref_pat (row (e0.trans e1)) (dex e1 da) sr sa fr fa rz⟩) fun H1 e1 t1 => ?_
      refine ⟨by show 1 ≤ sizeLine; decide, fun fl hfl => ?_⟩
      have w1 : Wn fl Hc := wn_of e1 hfl
      have e2 : ExtN Hc (upd H1 fl (.lst [.str Er.pat.text])) := ext_over w1 e1
      have t2' := tabs_new (o := .lst [.str Er.pat.text]) hfl t1
      refine ⟨_, rfl, .inl ⟨rfl, _, .of upd_same⟩, lam_ref .pat t2' (fun E H3 R e3 t3 rz => ⟨_, rfl, _, rfl, ref_pat (row (e0.trans (e2.trans e3))) (dex (e2.trans e3) da) sr sa fr fa rz⟩) fun H3 e3 t3 => ?_⟩
      have l3 := ext_lst e3 upd_same
      refine ⟨fl, _, _, rfl, rfl, l3, by show 1 < sizeLine; decide, ?_⟩
      have e4 := ext_over (o := .lst [.str Er.pat.text, .str Er.pat.text]) w1 (e2.trans e3)
      have t4' := tabs_over (zs := [.str Er.pat.text, .str Er.pat.text]) l3 t3
      refine ⟨_, rfl, .inl ⟨rfl, _, .of upd_same⟩, fl, _, _, rfl, rfl, upd_same, by show 2 < sizeLine; decide, ?_⟩
      have e5 := ext_over (o := .lst [.str Er.pat.text, .str Er.pat.text, .str ""]) w1 e4
      have t5' := tabs_over (zs := [.str Er.pat.text, .str Er.pat.text, .str ""]) upd_same t4'
      refine ⟨_, rfl, .inl ⟨rfl, _, .of upd_same⟩, fl, _, _, rfl, rfl, upd_same, by show 3 < sizeLine; decide, ?_⟩
      have e6 := ext_over (o := .lst [.str Er.pat.text, .str Er.pat.text, .str "", .str ""]) w1 e5
      have t6' := tabs_over (zs := [.str Er.pat.text, .str Er.pat.text, .str "", .str ""]) upd_same t5'
      refine ⟨_, rfl, .inl ⟨rfl, _, .of upd_same⟩, fl, _, _, rfl, rfl, upd_same, by show 4 < sizeLine; decide, ?_⟩
      have e7 := ext_over (o := .lst [.str Er.pat.text, .str Er.pat.text, .str "", .str "", .str ""]) w1 e6
      have t7' := tabs_over (zs := [.str Er.pat.text, .str Er.pat.text, .str "", .str "", .str ""]) upd_same t6'
      refine lam_ref .pat t7' (fun E H8 R e8 t8 rz => ⟨_, rfl, _, rfl, ref_pat (row (e0.trans (e7.trans e8))) (dex (e7.trans e8) da) sr sa fr fa rz⟩) fun H8 e8 t8 => ?_
      have l8 := ext_lst e8 upd_same
      refine ⟨_, rfl, fl, _, _, _, rfl, rfl, l8, rfl, ?_⟩
      have e9 := ext_over (o := .lst [.str Er.pat.text, .str Er.pat.text, .str Er.pat.text, .str "", .str ""]) w1 (e7.trans e8)
      have t9 := tabs_over (zs := [.str Er.pat.text, .str Er.pat.text, .str Er.pat.text, .str "", .str ""]) l8 t8
      refine lam_ref .pats t9 (fun E H10 R e10 t10 rz => ⟨_, rfl, by show 1 ≤ sizeLine; decide, fun tt htt => ref_pats (a2 := .tup [a]) (.tup (.of upd_same) (.cons (dmn (same_upd htt) (dex (e9.trans e10) da)) .nil)) ⟨by show 1 ≤ 100; decide, fun b hb => by rw [List.mem_singleton] at hb; rw [hb]; exact sa⟩ ⟨by decide, by decide⟩
        (by show (decide (1 ≤ 1 ∧ 1 ≤ 6) && (fP a && true)) = false; rw [fa]; rfl) (rz.mono (same_upd htt))⟩) fun H10 e10 t10 => ?_
      have l10 := ext_lst e10 upd_same
      refine ⟨_, rfl, fl, _, _, _, rfl, rfl, l10, rfl, ?_⟩
      have e11 := ext_over (o := .lst [.str Er.pat.text, .str Er.pat.text, .str Er.pat.text, .str Er.pats.text, .str ""]) w1 (e9.trans e10)
      have t11 := tabs_over (zs := [.str Er.pat.text, .str Er.pat.text, .str Er.pat.text, .str Er.pats.text, .str ""]) l10 t10
      refine lam_ref .pats t11 (fun E H12 R e12 t12 rz => ⟨_, rfl, by show 1 ≤ sizeLine; decide, fun ta hta => ⟨by show 2 ≤ sizeLine; decide, fun tt htt => ref_pats (a2 := .tup [a, .tup [0]]) (.tup (.of upd_same) (.cons (dmn ((same_upd hta).trans (same_upd htt)) (dex (e11.trans e12) da)) (.cons (dI_of (ns := [0]) (.of (same_upd htt _ _ upd_same))) .nil)))
        ⟨by show 2 ≤ 100; decide, fun b hb => by
          rcases List.mem_cons.mp hb with e | hb
          · rw [e]; exact sa
          · rw [List.mem_singleton] at hb
            rw [hb]
            show 1 ≤ 1000
            decide⟩ ⟨by decide, by decide⟩
        (by show (decide (1 ≤ 2 ∧ 2 ≤ 6) && (fP a && (fP (.tup [0]) && true))) = false; rw [fa]; rfl) (rz.mono ((same_upd hta).trans (same_upd htt)))⟩⟩) fun H12 e12 t12 => ?_
      have l12 := ext_lst e12 upd_same
      refine ⟨_, rfl, fl, _, _, _, rfl, rfl, l12, rfl, ?_⟩
      have e13 := ext_over (o := .lst ([Er.pat.text, Er.pat.text, Er.pat.text, Er.pats.text, Er.pats.text].map V.str)) w1 (e11.trans e12)
      have t13 := tabs_over (zs := [Er.pat.text, Er.pat.text, Er.pat.text, Er.pats.text, Er.pats.text].map V.str) l12 t12
      have l13 := upd_same (H := H12) (a := fl) (o := .lst ([Er.pat.text, Er.pat.text, Er.pat.text, Er.pats.text, Er.pats.text].map V.str))
      -- the check
      refine ⟨_, rfl, by show 1 ≤ sizeLine; decide, fun p1 g1 => ⟨p1, 3, _, rfl, rfl, upd_same, by decide, by decide, by show 3 ≤ sizeLine; decide, fun p2 g2 => ⟨by show 1 ≤ sizeLine; decide, fun p3 g3 => ⟨p3, 2, _, rfl, rfl, upd_same, by decide, by decide, by show 2 ≤ sizeLine; decide, fun p4 g4 => ?_⟩⟩⟩⟩
      have z1 := same_upd (o := .lst [.str "pattern value"]) g1
      have z2 := same_upd (o := .lst (List.replicate (3 : Int).toNat [V.str "pattern value"]).flatten) g2
      have z3 := same_upd (o := .lst [.str "patterns value"]) g3
      have z4 := same_upd (o := .lst (List.replicate (2 : Int).toNat [V.str "patterns value"]).flatten) g4
      refine ⟨p2, p4, _, _, rfl, rfl, (z3.trans z4) _ _ upd_same, upd_same, by show 5 ≤ sizeLine; decide, fun p5 g5 => ?_⟩
      have z5 := same_upd (o := .lst (exp1.map V.str)) g5
      have Z := ((z1.trans z2).trans z3).trans (z4.trans z5)
      refine ⟨dS [Er.pat.text, Er.pat.text, Er.pat.text, Er.pats.text, Er.pats.text], dS exp1, dS_of (Z _ _ l13), dS_of upd_same, by decide +kernel, by decide +kernel, _, rfl, ?_⟩
      rw [show PyData.eqv (dS [Er.pat.text, Er.pat.text, Er.pat.text, Er.pats.text, Er.pats.text]) (dS exp1) = true by decide +kernel]
      refine iteF ?_
      have eE := e13.trans (ExtN.of Z)
      exact ⟨_, _, _, rfl, e0.trans eE, t13.ext Z, seqT_ext eE qT, dexts eE _ _ aT⟩
    obtain ⟨y1, y2, y3, rfl, e0, tT, _, _⟩ := h
    -- the second loop
    refine ⟨Nat.zero_le _, fun u1 k1 => ⟨by show 1 ≤ sizeLine; decide, fun u2 k2 => ⟨by show 1 ≤ sizeLine; decide, fun u3 k3 => ⟨u3, 7, _, rfl, rfl, .of upd_same, (fun z => nomatch z), by decide, by decide, by show 1 ≤ 1000; decide, fun u4 k4 => ⟨by show 1 ≤ sizeLine; decide, fun u5 k5 => ⟨by show 1 ≤ sizeLine; decide, fun u6 k6 => ⟨by show 4 ≤ sizeLine; decide, fun at2 k7 => ?_⟩⟩⟩⟩⟩⟩⟩
    have s1 := same_upd (o := .tup (([] : List Int).map V.int)) k1
    have s2 := same_upd (o := .tup (([0] : List Int).map V.int)) k2
    have s3 := same_upd (o := .tup [.ref u2]) k3
    have s4 := same_upd (o := .tup (List.replicate 7 (V.ref u2))) k4
    have s5 := same_upd (o := .tup (([0] : List Int).map V.int)) k5
    have s6 := same_upd (o := .lst [.ref u5]) k6
    have s7 := same_upd (o := .tup [.non, .ref u1, .ref u4, .ref u6]) k7
    have S7 := ((s1.trans s2).trans (s3.trans s4)).trans ((s5.trans s6).trans s7)
    have q2 : ∀ {H9 : Hp}, SqT K H9 u2 (([0] : List Int).map V.int) → ∀ n, DpAll K H9 (List.replicate n (V.ref u2)) ((List.replicate n (argO [0])).map Arg.d) := fun {H9} h n => by
      induction n with
      | zero => exact .nil
      | succ n ih => exact .cons (dI_of h) ih
    refine ⟨at2, rfl, ⟨_, .of upd_same⟩, ?_⟩
    refine for_tup (K := K) (xs := [.non, .ref u1, .ref u4, .ref u6]) (fun i σ Hd => ∃ y1 y2 y3 : Option V, σ = [some v, y1, y2, y3] ∧ ExtN Hc Hd ∧ Tabs [(Pt, qRef)] Hd ∧ SqT K Hd at2 [.non, .ref u1, .ref u4, .ref u6] ∧ DpAll K Hd [.non, .ref u1, .ref u4, .ref u6] (patL.map PArg.d))
      ⟨_, _, _, rfl, ExtN.of S7, tT.ext S7, .of upd_same, .cons .non (.cons (.tup (.of (((s2.trans (s3.trans s4)).trans ((s5.trans s6).trans s7)) _ _ upd_same)) .nil) (.cons (.tup (.of (((s5.trans s6).trans s7) _ _ upd_same)) (q2 (.of (((s3.trans s4).trans ((s5.trans s6).trans s7)) _ _ upd_same)) 7))
        (.cons (.lst (.of (s7 _ _ upd_same)) (.cons (dI_of (ns := [0]) (.of ((s6.trans s7) _ _ upd_same))) .nil)) .nil)))⟩ (fun i σ Hd _ h => ?_) (fun i x σ Hd hx h => ?_) (fun σ Hd h => ?_)
    · obtain ⟨_, _, _, _, _, _, z, _⟩ := h
      exact z
    · obtain ⟨y1, y2, y3, rfl, e0', tT, qT, aT⟩ := h
      obtain ⟨a, ha, da⟩ := pargs_get aT hx
      obtain ⟨fa, sa⟩ := pat_ok a (List.mem_of_getElem? ha)
      refine lam_ref .pats tT (fun E H1 R e1 t1 rz => ⟨_, rfl, ref_pats (dex e1 da) sa ⟨by decide, by decide⟩ fa rz⟩) fun H1 e1 t1 => ?_
      refine ⟨by show 1 ≤ sizeLine; decide, fun fl hfl => ?_⟩
      have w1 : Wn fl Hd := wn_of e1 hfl
      have e2 : ExtN Hd (upd H1 fl (.lst [.str Er.pats.text])) := ext_over w1 e1
      have t2' := tabs_new (o := .lst [.str Er.pats.text]) hfl t1
      refine ⟨_, rfl, .inl ⟨rfl, _, .of upd_same⟩, lam_ref .pats t2' (fun E H3 R e3 t3 rz => ⟨_, rfl, ref_pats (dex (e2.trans e3) da) sa ⟨by decide, by decide⟩ fa rz⟩) fun H3 e3 t3 => ?_⟩
      have l3 := ext_lst e3 upd_same
      refine ⟨fl, _, _, rfl, rfl, l3, by show 1 < sizeLine; decide, ?_⟩
      have e4 := ext_over (o := .lst ([Er.pats.text, Er.pats.text].map V.str)) w1 (e2.trans e3)
      have t4' := tabs_over (zs := [Er.pats.text, Er.pats.text].map V.str) l3 t3
      have l4 := upd_same (H := H3) (a := fl) (o := .lst ([Er.pats.text, Er.pats.text].map V.str))
      refine ⟨_, rfl, by show 1 ≤ sizeLine; decide, fun p3 g3 => ⟨p3, 2, _, rfl, rfl, upd_same, by decide, by decide, by show 2 ≤ sizeLine; decide, fun p4 g4 => ?_⟩⟩
      have z3 := same_upd (o := .lst [.str "patterns value"]) g3
      have z4 := same_upd (o := .lst (exp2.map V.str)) g4
      have Z := z3.trans z4
      refine ⟨dS [Er.pats.text, Er.pats.text], dS exp2, dS_of (Z _ _ l4), dS_of upd_same, by decide +kernel, by decide +kernel, _, rfl, ?_⟩
      rw [show PyData.eqv (dS [Er.pats.text, Er.pats.text]) (dS exp2) = true by decide +kernel]
      refine iteF ?_
      have eE := e4.trans (ExtN.of Z)
      exact ⟨_, _, _, rfl, e0'.trans eE, t4'.ext Z, seqT_ext eE qT, dexts eE _ _ aT⟩
    obtain ⟨y1, y2, y3, rfl, e0', tT, _, _⟩ := h
    have eD : ExtN H Hd := e0.trans e0'
    refine lam_ref .ord tT (fun E H1 R e1 t1 rz => ref_ord (a1 := .non) (a2 := .non) .non .non trivial trivial rfl rz) fun H1 e1 t1 => ?_
    refine ⟨by show 1 ≤ sizeLine; decide, fun fl hfl => ?_⟩
    have w1 : Wn fl Hd := wn_of e1 hfl
    have c0 : ExtN Hd (upd H1 fl (.lst [.str Er.ord.text])) := ext_over w1 e1
    have t0 := tabs_new (o := .lst [.str Er.ord.text]) hfl t1
    refine ⟨_, rfl, .inl ⟨rfl, _, .of upd_same⟩, lam_ref .ord t0 (fun E H3 R e3 t3 rz => ⟨by show 1 ≤ sizeLine; decide, fun tt htt => ref_ord (a1 := .tup [1]) (a2 := .non) (dI_of (.of upd_same)) .non (by show 1 ≤ 1000; decide) trivial (by decide) (rz.mono (same_upd htt))⟩) fun H3 e3 t3 => ?_⟩
    have l3 := ext_lst e3 upd_same
    refine ⟨fl, _, _, rfl, rfl, l3, by show 1 < sizeLine; decide, ?_⟩
    have c1 := ext_over (o := .lst [.str Er.ord.text, .str Er.ord.text]) w1 (c0.trans e3)
    have t1' := tabs_over (zs := [.str Er.ord.text, .str Er.ord.text]) l3 t3
    refine ⟨_, rfl, .inl ⟨rfl, _, .of upd_same⟩, fl, _, _, rfl, rfl, upd_same, by show 2 < sizeLine; decide, ?_⟩
    have ca0 := ext_over (o := .lst [.str Er.ord.text, .str Er.ord.text, .str ""]) w1 c1
    have ta0 := tabs_over (zs := [.str Er.ord.text, .str Er.ord.text, .str ""]) upd_same t1'
    refine ⟨_, rfl, .inl ⟨rfl, _, .of upd_same⟩, fl, _, _, rfl, rfl, upd_same, by show 3 < sizeLine; decide, ?_⟩
    have ca1 := ext_over (o := .lst [.str Er.ord.text, .str Er.ord.text, .str "", .str ""]) w1 ca0
    have ta1 := tabs_over (zs := [.str Er.ord.text, .str Er.ord.text, .str "", .str ""]) upd_same ta0
    refine ⟨_, rfl, .inl ⟨rfl, _, .of upd_same⟩, fl, _, _, rfl, rfl, upd_same, by show 4 < sizeLine; decide, ?_⟩
    have ca2 := ext_over (o := .lst [.str Er.ord.text, .str Er.ord.text, .str "", .str "", .str ""]) w1 ca1
    have ta2 := tabs_over (zs := [.str Er.ord.text, .str Er.ord.text, .str "", .str "", .str ""]) upd_same ta1
    refine ⟨_, rfl, .inl ⟨rfl, _, .of upd_same⟩, fl, _, _, rfl, rfl, upd_same, by show 5 < sizeLine; decide, ?_⟩
    have ca3 := ext_over (o := .lst [.str Er.ord.text, .str Er.ord.text, .str "", .str "", .str "", .str ""]) w1 ca2
    have ta3 := tabs_over (zs := [.str Er.ord.text, .str Er.ord.text, .str "", .str "", .str "", .str ""]) upd_same ta2
    refine ⟨_, rfl, .inl ⟨rfl, _, .of upd_same⟩, fl, _, _, rfl, rfl, upd_same, by show 6 < sizeLine; decide, ?_⟩
    have ca4 := ext_over (o := .lst [.str Er.ord.text, .str Er.ord.text, .str "", .str "", .str "", .str "", .str ""]) w1 ca3
    have ta4 := tabs_over (zs := [.str Er.ord.text, .str Er.ord.text, .str "", .str "", .str "", .str "", .str ""]) upd_same ta3
    refine lam_ref .many ta4 (fun E Hx R ex tx rz => ref_many (a2 := .non) .non trivial rz) fun Hp2 ep2 tp2 => ?_
    have lp2 := ext_lst ep2 upd_same
    refine ⟨_, rfl, fl, _, _, _, rfl, rfl, lp2, rfl, ?_⟩
    have cp2 := ext_over (o := .lst [.str Er.ord.text, .str Er.ord.text, .str Er.many.text, .str "", .str "", .str "", .str ""]) w1 (ca4.trans ep2)
    have tq2 := tabs_over (zs := [.str Er.ord.text, .str Er.ord.text, .str Er.many.text, .str "", .str "", .str "", .str ""]) lp2 tp2
    refine lam_ref .few tq2 (fun E Hx R ex tx rz => ⟨by show 2 ≤ sizeLine; decide, fun ta hta => ⟨by show 1 ≤ sizeLine; decide, fun tb htb => ref_over (m := 7) (ps := [[0, 1]]) (.tup (.of upd_same) (.cons (dI_of (ns := [0, 1]) (.of (same_upd htb _ _ upd_same))) .nil)) one_small (by decide) (by decide) (by decide) (by decide) (rz.mono ((same_upd hta).trans (same_upd htb)))⟩⟩) fun Hp3 ep3 tp3 => ?_
    have lp3 := ext_lst ep3 upd_same
    refine ⟨_, rfl, fl, _, _, _, rfl, rfl, lp3, rfl, ?_⟩
    have cp3 := ext_over (o := .lst [.str Er.ord.text, .str Er.ord.text, .str Er.many.text, .str Er.few.text, .str "", .str "", .str ""]) w1 (cp2.trans ep3)
    have tq3 := tabs_over (zs := [.str Er.ord.text, .str Er.ord.text, .str Er.many.text, .str Er.few.text, .str "", .str "", .str ""]) lp3 tp3
    refine lam_ref .few tq3 (fun E Hx R ex tx rz => ⟨by show 2 ≤ sizeLine; decide, fun ta hta => ⟨by show 1 ≤ sizeLine; decide, fun tb htb => ref_over (m := 8) (ps := [[0, 1]]) (.tup (.of upd_same) (.cons (dI_of (ns := [0, 1]) (.of (same_upd htb _ _ upd_same))) .nil)) one_small (by decide) (by decide) (by decide) (by decide) (rz.mono ((same_upd hta).trans (same_upd htb)))⟩⟩) fun Hp4 ep4 tp4 => ?_
    have lp4 := ext_lst ep4 upd_same
    refine ⟨_, rfl, fl, _, _, _, rfl, rfl, lp4, rfl, ?_⟩
    have cp4 := ext_over (o := .lst [.str Er.ord.text, .str Er.ord.text, .str Er.many.text, .str Er.few.text, .str Er.few.text, .str "", .str ""]) w1 (cp3.trans ep4)
    have tq4 := tabs_over (zs := [.str Er.ord.text, .str Er.ord.text, .str Er.many.text, .str Er.few.text, .str Er.few.text, .str "", .str ""]) lp4 tp4
    refine lam_ref .few tq4 (fun E Hx R ex tx rz => ⟨_, rfl, .of_le (by decide) (by decide) (by decide) (by decide), fun ta hta => ⟨by show 2 ≤ sizeLine; decide, fun tb htb => ref_few (o := List.range 13) (p := List.range 2) (dO_arg (.of (same_upd htb _ _ upd_same))) (dO_arg (.of upd_same)) (ord_range 13) (by decide) (by decide) (ord_range 2) (by decide) (by decide) (by decide) (rz.mono ((same_upd hta).trans (same_upd htb)))⟩⟩) fun Hp5 ep5 tp5 => ?_
    have lp5 := ext_lst ep5 upd_same
    refine ⟨_, rfl, fl, _, _, _, rfl, rfl, lp5, rfl, ?_⟩
    have cp5 := ext_over (o := .lst [.str Er.ord.text, .str Er.ord.text, .str Er.many.text, .str Er.few.text, .str Er.few.text, .str Er.few.text, .str ""]) w1 (cp4.trans ep5)
    have tq5 := tabs_over (zs := [.str Er.ord.text, .str Er.ord.text, .str Er.many.text, .str Er.few.text, .str Er.few.text, .str Er.few.text, .str ""]) lp5 tp5
    refine lam_ref .pat tq5 (fun E Hx R ex tx rz => ⟨_, rfl, .of_le (by decide) (by decide) (by decide) (by decide), fun ta hta => ⟨by show 2 ≤ sizeLine; decide, fun tb htb => ref_pat (a1 := argO (List.range 13)) (a2 := .tup [0, 0]) (dO_arg (.of (same_upd htb _ _ upd_same))) (dI_of (ns := [0, 0]) (.of upd_same)) (smallO (by decide)) (by show 2 ≤ 1000; decide) (fO_of (ord_range 13) (by decide) (by decide)) (by decide) (rz.mono ((same_upd hta).trans (same_upd htb)))⟩⟩) fun Hp6 ep6 tp6 => ?_
    have lp6 := ext_lst ep6 upd_same
    refine ⟨_, rfl, fl, _, _, _, rfl, rfl, lp6, rfl, ?_⟩
    have cp6 := ext_over (o := .lst (exp4.map V.str)) w1 (cp5.trans ep6)
    have tq6 := tabs_over (zs := (exp4.map V.str)) lp6 tp6
    have l9 := upd_same (H := Hp6) (a := fl) (o := .lst (exp4.map V.str))
    refine ⟨_, rfl, by show 1 ≤ sizeLine; decide, fun p1 g1 => ⟨p1, 2, _, rfl, rfl, upd_same, by decide, by decide, by show 2 ≤ sizeLine; decide, fun p2 g2 => ⟨by show 1 ≤ sizeLine; decide, fun p3 g3 => ?_⟩⟩⟩
    have z1 := same_upd (o := .lst [.str "order value"]) g1
    have z2 := same_upd (o := .lst [.str "order value", .str "order value"]) g2
    have z3 := same_upd (o := .lst [.str "things value"]) g3
    refine ⟨p2, p3, _, _, rfl, rfl, z3 _ _ upd_same, upd_same, by show 3 ≤ sizeLine; decide, fun p4 g4 => ?_⟩
    have z4 := same_upd (o := .lst [.str "order value", .str "order value", .str "things value"]) g4
    refine ⟨by show 1 ≤ sizeLine; decide, fun p5 g5 => ⟨p5, 3, _, rfl, rfl, upd_same, by decide, by decide, by show 3 ≤ sizeLine; decide, fun p6 g6 => ?_⟩⟩
    have z5 := same_upd (o := .lst [.str "many value"]) g5
    have z6 := same_upd (o := .lst [.str "many value", .str "many value", .str "many value"]) g6
    refine ⟨p4, p6, _, _, rfl, rfl, (z5.trans z6) _ _ upd_same, upd_same, by show 6 ≤ sizeLine; decide, fun p7 g7 => ?_⟩
    have z7 := same_upd (o := .lst [.str "order value", .str "order value", .str "things value", .str "many value", .str "many value", .str "many value"]) g7
    refine ⟨by show 1 ≤ sizeLine; decide, fun p8 g8 => ?_⟩
    have z8 := same_upd (o := .lst [.str "pattern value"]) g8
    refine ⟨p7, p8, _, _, rfl, rfl, z8 _ _ upd_same, upd_same, by show 7 ≤ sizeLine; decide, fun p9 g9 => ?_⟩
    have z9 := same_upd (o := .lst (exp3.map V.str)) g9
    have Z := ((((z1.trans z2).trans z3).trans z4).trans ((z5.trans z6).trans z7)).trans (z8.trans z9)
    refine ⟨dS exp4, dS exp3, dS_of (Z _ _ l9), dS_of upd_same, by decide +kernel, by decide +kernel, _, rfl, ?_⟩
    rw [show PyData.eqv (dS exp4) (dS exp3) = true by decide +kernel]
    refine iteF ?_
    exact q _ (eD.trans (cp6.trans (ExtN.of Z))) (tq6.ext Z)
end
end Wp
end

section
set_option linter.all false
/-! Plain law: what the law compares. -/
namespace WiM
/-! ### indices -/
theorem getD_map {f : Nat → Nat} {l : List Nat} {i : Nat} (h : i < l.length) : (l.map f).getD i 0 = f (l.getD i 0) := by
  rw [List.getD_eq_getElem?_getD, List.getElem?_map, List.getD_eq_getElem?_getD, List.getElem?_eq_getElem h]
  rfl
theorem getD_rev {l : List Nat} {i : Nat} (h : i < l.length) : l.reverse.getD i 0 = l.getD (l.length - 1 - i) 0 := by
  rw [List.getD_eq_getElem?_getD, List.getElem?_reverse h, List.getD_eq_getElem?_getD]
theorem getD_range {n i : Nat} (h : i < n) : (List.range n).getD i 0 = i := by
  rw [List.getD_eq_getElem?_getD, List.getElem?_range h]
  rfl
theorem ne_of_ord {o : List Nat} (h : o.Nodup) {i j : Nat} (hi : i < o.length) (hj : j < o.length) (n : i ≠ j) : o.getD i 0 ≠ o.getD j 0 := fun e => n (nodup_getD h hi hj e)
theorem ext_getD {a b : List Nat} (hl : a.length = b.length) (h : ∀ i, i < a.length → a.getD i 0 = b.getD i 0) : a = b := by
  apply List.ext_getElem hl
  intro i h1 h2
  have := h i h1
  rw [List.getD_eq_getElem?_getD, List.getD_eq_getElem?_getD, List.getElem?_eq_getElem h1, List.getElem?_eq_getElem h2] at this
  exact this
theorem rise_inj {n k : Nat} {pl : List Nat} (h : Rise n k pl) {a b : Nat} (ha : a < k) (hb : b < k) (n : a ≠ b) : pl.getD a 0 ≠ pl.getD b 0 := by
  rcases Nat.lt_or_gt_of_ne n with q | q
  · have := h.up a b q hb
    omega
  · have := h.up b a q ha
    omega
/-! ### the law's spots -/
theorem law_spots {o p : List Nat} (ho : Ord o) (hp : Ord p) : lawSpots o p = allSpots o p := by
  unfold lawSpots allSpots
  rw [line_eq]
  apply List.filter_congr
  intro pl hpl
  have hR := (mem_rise _ _ _).mp hpl
  have hlt : ∀ i, i < pl.length → pl.getD i 0 < o.length := fun i hi => hR.lt i (by rw [← hR.len]; exact hi)
  have hnd : (pl.map fun x => o.getD x 0).Nodup := by
    rw [List.nodup_iff_pairwise_ne, List.pairwise_map]
    rw [List.pairwise_iff_getElem]
    intro i j hi hj hij
    have e1 : pl[i] = pl.getD i 0 := by rw [List.getD_eq_getElem?_getD, List.getElem?_eq_getElem hi]; rfl
    have e2 : pl[j] = pl.getD j 0 := by rw [List.getD_eq_getElem?_getD, List.getElem?_eq_getElem hj]; rfl
    rw [e1, e2]
    refine ne_of_ord ho.nd (hlt i hi) (hlt j hj) ?_
    have := hR.up i j hij (by rw [← hR.len]; exact hj)
    omega
  have q := like_iff hnd hp (by rw [List.length_map, hR.len])
  rw [Bool.eq_iff_iff, q, decide_eq_true_iff]
  rw [List.length_map]
  constructor
  · intro h a b hab hb
    have := h a b hab hb
    rw [getD_map (by omega), getD_map hb] at this
    exact this
  · intro h a b hab hb
    rw [getD_map (by omega), getD_map hb]
    exact h a b hab hb
/-! ### turned orders are orders -/
theorem ord_rev {o : List Nat} (h : Ord o) : Ord o.reverse :=
  ⟨List.nodup_iff_pairwise_ne.mpr (List.pairwise_reverse.mpr ((List.nodup_iff_pairwise_ne.mp h.nd).imp fun q e => q e.symm)), fun x hx => by rw [List.length_reverse]; exact h.lt x (List.mem_reverse.mp hx)⟩
theorem turn_len (o : List Nat) : (turn o).length = o.length := by unfold turn; rw [List.length_map]
theorem ord_turn {o : List Nat} (h : Ord o) : Ord (turn o) := by
  refine ⟨?_, fun x hx => ?_⟩
  · unfold turn
    rw [List.nodup_iff_pairwise_ne, List.pairwise_map]
    refine (List.nodup_iff_pairwise_ne.mp h.nd).imp_of_mem fun {a b} ha hb q e => q ?_
    have h1 := h.lt a ha
    have h2 := h.lt b hb
    omega
  · rw [turn_len]
    unfold turn at hx
    obtain ⟨y, hy, rfl⟩ := List.mem_map.mp hx
    have := h.lt y hy
    omega
theorem inv_at {o : List Nat} {v : Nat} (hv : v < o.length) : (inv o).getD v 0 = o.idxOf v := by
  unfold inv
  rw [getD_map (by rw [List.length_range]; exact hv), getD_range hv]
theorem idx_lt {o : List Nat} (h : Ord o) {v : Nat} (hv : v < o.length) : o.idxOf v < o.length := List.idxOf_lt_length_of_mem (ord_mem h hv)
theorem at_idx {o : List Nat} (h : Ord o) {v : Nat} (hv : v < o.length) : o.getD (o.idxOf v) 0 = v := by
  rw [List.getD_eq_getElem?_getD, List.getElem?_eq_getElem (idx_lt h hv), List.getElem_idxOf (idx_lt h hv)]
  rfl
theorem idx_at {o : List Nat} (h : Ord o) {i : Nat} (hi : i < o.length) : o.idxOf (o.getD i 0) = i := by
  have hv := h.lt _ (getD_mem hi)
  exact nodup_getD h.nd (idx_lt h hv) hi (at_idx h hv)
theorem ord_inv {o : List Nat} (h : Ord o) : Ord (inv o) := by
  refine ⟨?_, fun x hx => ?_⟩
  · unfold inv
    rw [List.nodup_iff_pairwise_ne, List.pairwise_map]
    refine (List.nodup_iff_pairwise_ne.mp List.nodup_range).imp_of_mem fun {a b} ha hb q e => q ?_
    have e1 := at_idx h (List.mem_range.mp ha)
    have e2 := at_idx h (List.mem_range.mp hb)
    rw [← e1, ← e2, e]
  · rw [inv_len]
    unfold inv at hx
    obtain ⟨y, hy, rfl⟩ := List.mem_map.mp hx
    exact idx_lt h (List.mem_range.mp hy)
theorem inv_inv {o : List Nat} (h : Ord o) : inv (inv o) = o := by
  refine ext_getD (by rw [inv_len, inv_len]) fun i hi => ?_
  rw [inv_len, inv_len] at hi
  rw [inv_at (by rw [inv_len]; exact hi)]
  have hv := h.lt _ (getD_mem hi)
  have e : (inv o).getD (o.getD i 0) 0 = i := by rw [inv_at hv, idx_at h hi]
  have q := idx_at (ord_inv h) (i := o.getD i 0) (by rw [inv_len]; exact hv)
  rw [e] at q
  exact q
/-! ### counts -/
theorem mem_spots {o p pl : List Nat} : pl ∈ allSpots o p ↔ Rise o.length p.length pl ∧ iso o p pl := by
  unfold allSpots
  rw [line_eq, List.mem_filter, mem_rise, decide_eq_true_iff]
theorem nodup_spots (o p : List Nat) : (allSpots o p).Nodup := by
  unfold allSpots
  rw [line_eq]
  exact (nodup_rise _ _).filter _
theorem nodup_map_on {α β : Type} {f : α → β} : ∀ {l : List α}, l.Nodup → (∀ a ∈ l, ∀ b ∈ l, f a = f b → a = b) → (l.map f).Nodup := by
  intro l h hi
  rw [List.nodup_iff_pairwise_ne, List.pairwise_map]
  exact (List.nodup_iff_pairwise_ne.mp h).imp_of_mem fun {a b} ha hb q e => q (hi a ha b hb e)
theorem length_le_of_sub {α : Type} [DecidableEq α] : ∀ {a b : List α}, a.Nodup → (∀ x ∈ a, x ∈ b) → a.length ≤ b.length
  | [], _, _, _ => Nat.zero_le _
  | x :: a, b, hn, hs => by
    obtain ⟨h1, h2⟩ := List.nodup_cons.mp hn
    have hx : x ∈ b := hs x List.mem_cons_self
    have ih := length_le_of_sub (b := b.erase x) h2 fun y hy => (List.mem_erase_of_ne (fun (z : y = x) => h1 (by rw [← z]; exact hy))).mpr (hs y (List.mem_cons_of_mem _ hy))
    rw [List.length_erase_of_mem hx] at ih
    have := List.length_pos_of_mem hx
    rw [List.length_cons]
    omega
theorem count_le {α β : Type} [DecidableEq β] {f : α → β} {a : List α} {b : List β} (hn : a.Nodup) (hi : ∀ x ∈ a, ∀ y ∈ a, f x = f y → x = y) (hs : ∀ x ∈ a, f x ∈ b) : a.length ≤ b.length := by
  have := length_le_of_sub (nodup_map_on hn hi) fun y hy => by
    obtain ⟨x, hx, rfl⟩ := List.mem_map.mp hy
    exact hs x hx
  rw [List.length_map] at this
  exact this
/-- strictly less, both ways -/
theorem iso_lt {o p pl : List Nat} (ho : Ord o) (hp : Ord p) (hR : Rise o.length p.length pl) (h : iso o p pl) {a b : Nat} (ha : a < p.length) (hb : b < p.length) : o.getD (pl.getD a 0) 0 < o.getD (pl.getD b 0) 0 ↔ p.getD a 0 < p.getD b 0 := by
  by_cases e : a = b
  · subst e
    exact ⟨fun z => absurd z (Nat.lt_irrefl _), fun z => absurd z (Nat.lt_irrefl _)⟩
  · have n1 := ne_of_ord ho.nd (hR.lt a ha) (hR.lt b hb) (rise_inj hR ha hb e)
    have n2 := ne_of_ord hp.nd ha hb e
    rcases Nat.lt_or_gt_of_ne e with q | q
    · have := h a b q (by rw [hR.len]; exact hb)
      omega
    · have := h b a q (by rw [hR.len]; exact ha)
      omega
theorem turn_at' {o : List Nat} {i : Nat} (h : i < o.length) : (turn o).getD i 0 = o.length - 1 - o.getD i 0 := by
  unfold turn
  rw [getD_map h]
theorem cnt_turn {o p : List Nat} (ho : Ord o) (hp : Ord p) : (allSpots (turn o) (turn p)).length = (allSpots o p).length := by
  have key : allSpots (turn o) (turn p) = allSpots o p := by
    unfold allSpots
    rw [line_eq, line_eq, turn_len, turn_len]
    apply List.filter_congr
    intro pl hpl
    have hR := (mem_rise _ _ _).mp hpl
    rw [Bool.eq_iff_iff, decide_eq_true_iff, decide_eq_true_iff]
    have v : ∀ a, a < p.length → (turn o).getD (pl.getD a 0) 0 = o.length - 1 - o.getD (pl.getD a 0) 0 ∧ o.getD (pl.getD a 0) 0 < o.length ∧ (turn p).getD a 0 = p.length - 1 - p.getD a 0 ∧ p.getD a 0 < p.length := fun a ha =>
      ⟨turn_at' (hR.lt a ha), ho.lt _ (getD_mem (hR.lt a ha)), turn_at' ha, hp.lt _ (getD_mem ha)⟩
    constructor
    · intro h a b hab hb
      have hb' : b < p.length := by rw [← hR.len]; exact hb
      have q := h a b hab hb
      obtain ⟨a1, a2, a3, a4⟩ := v a (by omega)
      obtain ⟨b1, b2, b3, b4⟩ := v b hb'
      rw [a1, b1, a3, b3] at q
      have n1 := ne_of_ord ho.nd (hR.lt a (by omega)) (hR.lt b hb') (rise_inj hR (by omega) hb' (by omega))
      have n2 := ne_of_ord hp.nd (show a < p.length by omega) hb' (by omega)
      omega
    · intro h a b hab hb
      have hb' : b < p.length := by rw [← hR.len]; exact hb
      have q := h a b hab hb
      obtain ⟨a1, a2, a3, a4⟩ := v a (by omega)
      obtain ⟨b1, b2, b3, b4⟩ := v b hb'
      rw [a1, b1, a3, b3]
      have n1 := ne_of_ord ho.nd (hR.lt a (by omega)) (hR.lt b hb') (rise_inj hR (by omega) hb' (by omega))
      have n2 := ne_of_ord hp.nd (show a < p.length by omega) hb' (by omega)
      omega
  rw [key]
/-- a spot, turned about -/
def fRev (n : Nat) (pl : List Nat) : List Nat := (pl.map fun x => n - 1 - x).reverse
theorem fRev_len (n : Nat) (pl : List Nat) : (fRev n pl).length = pl.length := by unfold fRev; rw [List.length_reverse, List.length_map]
theorem fRev_at {n : Nat} {pl : List Nat} {a : Nat} (h : a < pl.length) : (fRev n pl).getD a 0 = n - 1 - pl.getD (pl.length - 1 - a) 0 := by
  unfold fRev
  rw [getD_rev (by rw [List.length_map]; exact h), List.length_map, getD_map (by omega)]
theorem rev_le {o p : List Nat} (ho : Ord o) (hp : Ord p) : (allSpots o p).length ≤ (allSpots o.reverse p.reverse).length := by
  refine count_le (f := fRev o.length) (nodup_spots o p) (fun x hx y hy e => ?_) (fun pl hpl => ?_)
  · obtain ⟨hx, _⟩ := mem_spots.mp hx
    obtain ⟨hy, _⟩ := mem_spots.mp hy
    refine ext_getD (by rw [hx.len, hy.len]) fun i hi => ?_
    have lx := hx.len
    have ly := hy.len
    have q1 := fRev_at (n := o.length) (pl := x) (a := x.length - 1 - i) (by omega)
    have q2 := fRev_at (n := o.length) (pl := y) (a := y.length - 1 - i) (by omega)
    rw [show x.length - 1 - (x.length - 1 - i) = i by omega] at q1
    rw [show y.length - 1 - (y.length - 1 - i) = i by omega] at q2
    rw [e, lx, ← ly] at q1
    rw [q1] at q2
    have := hx.lt i (by omega)
    have := hy.lt i (by omega)
    omega
  · obtain ⟨hR, hi⟩ := mem_spots.mp hpl
    have hl := hR.len
    refine mem_spots.mpr ⟨⟨by rw [fRev_len, List.length_reverse]; exact hl, fun i hi' => ?_, fun a b hab hb => ?_⟩, fun a b hab hb => ?_⟩
    · rw [List.length_reverse] at hi' ⊢
      rw [fRev_at (by omega)]
      have := hR.lt (pl.length - 1 - i) (by omega)
      omega
    · rw [List.length_reverse] at hb
      rw [fRev_at (by omega), fRev_at (by omega)]
      have h1 := hR.up (pl.length - 1 - b) (pl.length - 1 - a) (by omega) (by omega)
      have h2 := hR.lt (pl.length - 1 - a) (by omega)
      omega
    · rw [fRev_len] at hb
      have val : ∀ c, c < pl.length → o.reverse.getD ((fRev o.length pl).getD c 0) 0 = o.getD (pl.getD (pl.length - 1 - c) 0) 0 := fun c hc => by
        rw [fRev_at hc]
        have := hR.lt (pl.length - 1 - c) (by omega)
        rw [getD_rev (by omega), show o.length - 1 - (o.length - 1 - pl.getD (pl.length - 1 - c) 0) = pl.getD (pl.length - 1 - c) 0 by omega]
      rw [val a (by omega), val b hb, getD_rev (by omega), getD_rev (by omega), ← hl]
      exact iso_lt ho hp hR hi (by omega) (by omega)
theorem cnt_rev {o p : List Nat} (ho : Ord o) (hp : Ord p) : (allSpots o.reverse p.reverse).length = (allSpots o p).length := by
  have h1 := rev_le ho hp
  have h2 := rev_le (ord_rev ho) (ord_rev hp)
  rw [List.reverse_reverse, List.reverse_reverse] at h2
  omega
/-- a spot, places and things changed -/
def fInv (o p pl : List Nat) : List Nat := (inv p).map fun i => o.getD (pl.getD i 0) 0
theorem fInv_len (o p pl : List Nat) : (fInv o p pl).length = p.length := by unfold fInv; rw [List.length_map, inv_len]
theorem fInv_at {o p pl : List Nat} {a : Nat} (h : a < p.length) : (fInv o p pl).getD a 0 = o.getD (pl.getD (p.idxOf a) 0) 0 := by
  unfold fInv
  rw [getD_map (by rw [inv_len]; exact h), inv_at h]
theorem inv_le {o p : List Nat} (ho : Ord o) (hp : Ord p) : (allSpots o p).length ≤ (allSpots (inv o) (inv p)).length := by
  refine count_le (f := fInv o p) (nodup_spots o p) (fun x hx y hy e => ?_) (fun pl hpl => ?_)
  · obtain ⟨hx, _⟩ := mem_spots.mp hx
    obtain ⟨hy, _⟩ := mem_spots.mp hy
    refine ext_getD (by rw [hx.len, hy.len]) fun i hi => ?_
    have hip : i < p.length := by rw [← hx.len]; exact hi
    have hv := hp.lt _ (getD_mem hip)
    have q1 := fInv_at (o := o) (p := p) (pl := x) hv
    have q2 := fInv_at (o := o) (p := p) (pl := y) hv
    rw [idx_at hp hip] at q1 q2
    rw [e, q2] at q1
    exact (nodup_getD ho.nd (hy.lt i hip) (hx.lt i hip) q1).symm
  · obtain ⟨hR, hi⟩ := mem_spots.mp hpl
    have hl := hR.len
    refine mem_spots.mpr ⟨⟨by rw [fInv_len, inv_len], fun i hi' => ?_, fun a b hab hb => ?_⟩, fun a b hab hb => ?_⟩
    · rw [inv_len] at hi' ⊢
      rw [fInv_at hi']
      exact ho.lt _ (getD_mem (hR.lt _ (idx_lt hp hi')))
    · rw [inv_len] at hb
      rw [fInv_at (by omega), fInv_at hb]
      refine (iso_lt ho hp hR hi (idx_lt hp (by omega)) (idx_lt hp hb)).mpr ?_
      rw [at_idx hp (by omega), at_idx hp hb]
      exact hab
    · rw [fInv_len] at hb
      have ha : a < p.length := by omega
      have val : ∀ c, c < p.length → (inv o).getD ((fInv o p pl).getD c 0) 0 = pl.getD (p.idxOf c) 0 := fun c hc => by
        rw [fInv_at hc]
        have h1 := hR.lt _ (idx_lt hp hc)
        rw [inv_at (ho.lt _ (getD_mem h1)), idx_at ho h1]
      rw [val a ha, val b hb, inv_at ha, inv_at hb]
      have i1 := idx_lt hp ha
      have i2 := idx_lt hp hb
      constructor
      · intro z
        by_cases q : p.idxOf b < p.idxOf a
        · exact q
        · by_cases q2 : p.idxOf a = p.idxOf b
          · rw [q2] at z
            omega
          · have := hR.up (p.idxOf a) (p.idxOf b) (by omega) i2
            omega
      · intro z
        exact hR.up _ _ z i1
theorem cnt_inv {o p : List Nat} (ho : Ord o) (hp : Ord p) : (allSpots (inv o) (inv p)).length = (allSpots o p).length := by
  have h1 := inv_le ho hp
  have h2 := inv_le (ord_inv ho) (ord_inv hp)
  rw [inv_inv ho, inv_inv hp] at h2
  omega
theorem rise_le {n k : Nat} {pl : List Nat} (h : Rise n k pl) : k ≤ n := by
  have key : ∀ i, i < k → i ≤ pl.getD i 0 := fun i => by
    induction i with
    | zero => exact fun _ => Nat.zero_le _
    | succ i ih =>
      intro hi
      have h1 := ih (by omega)
      have h2 := h.up i (i + 1) (by omega) hi
      omega
  by_cases hk : k = 0
  · omega
  · have h1 := key (k - 1) (by omega)
    have h2 := h.lt (k - 1) (by omega)
    omega
theorem holds_iff (o p : List Nat) : holds o p = !decide (allSpots o p = []) := by
  unfold holds
  by_cases h : allSpots o p = []
  · rw [decide_eq_true h, decide_eq_false (not_not_intro h), Bool.and_false]
    rfl
  · rw [decide_eq_false h, decide_eq_true h, Bool.and_true]
    obtain ⟨pl, hpl⟩ := List.exists_mem_of_ne_nil _ h
    have := rise_le (mem_spots.mp hpl).1
    rw [decide_eq_true this]
    rfl
theorem last_spots : allSpots [3, 0, 4, 1, 2] [1, 0, 2] = [[0, 1, 2]] := by decide +kernel
theorem last_count : (allSpots [3, 0, 4, 1, 2] [0, 1]).length = 5 := by decide +kernel
theorem last_up : holds [3, 0, 4, 1, 2] [0, 1, 2] = true := by decide +kernel
theorem last_down : holds [3, 0, 4, 1, 2] [2, 1, 0] = false := by decide +kernel
theorem plain_down : holds (List.range 30) [1, 0] = false := by decide +kernel
theorem plain_up : holds (List.range 30) [0, 1] = true := by decide +kernel
def pairP : List (List Nat) := [[0, 1, 2], [2, 1, 0]]
def pairF (m : Nat) : Nat := (gAt pairP m).length
theorem pair_counts : ([3, 4, 5] : List Nat).map pairF = [4, 4, 0] := by decide +kernel
theorem pair_small : ∀ m ∈ ([3, 4, 5] : List Nat), (gAt pairP m).length < 64 ∧ 1 ≤ m ∧ m ≤ 7 := by decide +kernel
theorem ord_dec {o : List Nat} (h : (decide (o.Nodup) && o.all (fun x => decide (x < o.length))) = true) : Ord o := by
  rw [Bool.and_eq_true] at h
  exact ⟨of_decide_eq_true h.1, fun x hx => of_decide_eq_true (List.all_eq_true.mp h.2 x hx)⟩
theorem gAt_small {ps : List (List Nat)} {m : Nat} (h : m ≤ 4) : (gAt ps m).length < 64 := by
  have st : ∀ j, (gAt ps (j + 1)).length ≤ (gAt ps j).length * (j + 1) := fun j => grown_len fun o ho => gAt_len ho
  have h0 : (gAt ps 0).length = 1 := rfl
  have h1 : (gAt ps 1).length ≤ (gAt ps 0).length * 1 := st 0
  have h2 : (gAt ps 2).length ≤ (gAt ps 1).length * 2 := st 1
  have h3 : (gAt ps 3).length ≤ (gAt ps 2).length * 3 := st 2
  have h4 : (gAt ps 4).length ≤ (gAt ps 3).length * 4 := st 3
  match m, h with
  | 0, _ => omega
  | 1, _ => omega
  | 2, _ => omega
  | 3, _ => omega
  | 4, _ => omega
end WiM
end

section
set_option linter.all false
/-! Plain law: orders without patterns. -/
namespace WiM
theorem holds_ex (o p : List Nat) : holds o p = true ↔ ∃ pl, Rise o.length p.length pl ∧ iso o p pl := by
  rw [holds_iff, Bool.not_eq_true', decide_eq_false_iff_not]
  constructor
  · intro h
    obtain ⟨pl, hpl⟩ := List.exists_mem_of_ne_nil _ h
    exact ⟨pl, mem_spots.mp hpl⟩
  · rintro ⟨pl, h⟩ e
    have := mem_spots.mpr h
    rw [e] at this
    exact absurd this (by simp)
theorem ok_iff (ps : List (List Nat)) (x : List Nat) : ok ps x = true ↔ ∀ p ∈ ps, holds x p = false := by
  unfold ok
  rw [Bool.not_eq_true', List.any_eq_false]
  constructor
  · intro h p hp
    have := h p hp
    simpa using this
  · intro h p hp
    have := h p hp
    simpa using this
/-! ### the greatest thing put in, taken out -/
theorem ins_at {u : List Nat} {q i : Nat} (hq : q ≤ u.length) (hi : i < u.length) : (insAt u q).getD (if i < q then i else i + 1) 0 = u.getD i 0 := by
  unfold insAt
  rw [List.getD_eq_getElem?_getD, List.getD_eq_getElem?_getD]
  by_cases h : i < q
  · rw [if_pos h, List.append_assoc, List.getElem?_append_left (by rw [List.length_take]; omega), List.getElem?_take, if_pos h]
  · rw [if_neg h, List.append_assoc, List.getElem?_append_right (by rw [List.length_take]; omega), List.length_take, Nat.min_eq_left hq, List.getElem?_append_right (by rw [List.length_singleton]; omega), List.length_singleton, List.getElem?_drop]
    congr 2
    omega
theorem ins_perm (u : List Nat) (q : Nat) : (insAt u q).Perm (u.length :: u) := by
  unfold insAt
  rw [List.append_assoc]
  have e : u.take q ++ ([u.length] ++ u.drop q) = u.take q ++ u.length :: u.drop q := rfl
  rw [e]
  refine List.perm_middle.trans ?_
  rw [List.take_append_drop]
theorem ins_ord {u : List Nat} (h : Ord u) (q : Nat) : Ord (insAt u q) := by
  have p := ins_perm u q
  refine ⟨p.nodup_iff.mpr (List.nodup_cons.mpr ⟨fun z => absurd (h.lt _ z) (Nat.lt_irrefl _), h.nd⟩), fun x hx => ?_⟩
  rw [ins_len]
  rcases List.mem_cons.mp (p.mem_iff.mp hx) with e | e
  · omega
  · have := h.lt x e
    omega
theorem ins_filter {u : List Nat} (h : ∀ x ∈ u, x < u.length) (q : Nat) : (insAt u q).filter (fun x => decide (x < u.length)) = u := by
  unfold insAt
  rw [List.filter_append, List.filter_append]
  have e1 : (u.take q).filter (fun x => decide (x < u.length)) = u.take q := List.filter_eq_self.mpr fun x hx => decide_eq_true (h x (List.mem_of_mem_take hx))
  have e2 : (u.drop q).filter (fun x => decide (x < u.length)) = u.drop q := List.filter_eq_self.mpr fun x hx => decide_eq_true (h x (List.mem_of_mem_drop hx))
  have e3 : ([u.length]).filter (fun x => decide (x < u.length)) = [] := by
    rw [List.filter_eq_nil_iff]
    intro x hx
    rw [List.mem_singleton] at hx
    rw [hx]
    simp
  rw [e1, e2, e3, List.append_nil, List.take_append_drop]
theorem ins_idx {u : List Nat} (h : ∀ x ∈ u, x < u.length) {q : Nat} (hq : q ≤ u.length) : (insAt u q).idxOf u.length = q := by
  unfold insAt
  have n1 : u.length ∉ u.take q := fun z => absurd (h _ (List.mem_of_mem_take z)) (Nat.lt_irrefl _)
  rw [List.append_assoc, List.idxOf_append, if_neg n1, List.length_take, Nat.min_eq_left hq]
  have : ([u.length] ++ u.drop q).idxOf u.length = 0 := by
    show (u.length :: u.drop q).idxOf u.length = 0
    exact List.idxOf_cons_self
  omega
/-- every order is made so -/
theorem ins_of {x : List Nat} {m : Nat} (hx : Ord x) (hl : x.length = m + 1) : ∃ u q, Ord u ∧ u.length = m ∧ q ≤ m ∧ x = insAt u q := by
  have hm : m ∈ x := ord_mem hx (by omega)
  have hq : x.idxOf m < x.length := List.idxOf_lt_length_of_mem hm
  have hg : x[x.idxOf m] = m := List.getElem_idxOf hq
  let q := x.idxOf m
  have e : x = x.take q ++ m :: x.drop (q + 1) := by
    conv => lhs; rw [← List.take_append_drop q x, List.drop_eq_getElem_cons hq, hg]
  let u := x.take q ++ x.drop (q + 1)
  have hp : x.Perm (m :: u) := by
    conv => lhs; rw [e]
    exact List.perm_middle
  have lu : u.length = m := by
    have := hp.length_eq
    rw [List.length_cons] at this
    omega
  have hn := hp.nodup_iff.mp hx.nd
  obtain ⟨n1, n2⟩ := List.nodup_cons.mp hn
  refine ⟨u, q, ⟨n2, fun y hy => ?_⟩, lu, by show x.idxOf m ≤ m; omega, ?_⟩
  · have h1 := hx.lt y (hp.mem_iff.mpr (List.mem_cons_of_mem _ hy))
    have h2 : y ≠ m := fun z => n1 (by rw [← z]; exact hy)
    omega
  · unfold insAt
    have t1 : u.take q = x.take q := by
      show (x.take q ++ x.drop (q + 1)).take q = _
      rw [List.take_append_of_le_length (by rw [List.length_take]; omega), List.take_take, Nat.min_self]
    have t2 : u.drop q = x.drop (q + 1) := by
      show (x.take q ++ x.drop (q + 1)).drop q = _
      have hlq : (x.take q).length = q := by rw [List.length_take]; omega
      conv => lhs; rw [← hlq]
      rw [hlq, List.drop_append, hlq, Nat.sub_self, List.drop_zero, List.drop_of_length_le (by omega), List.nil_append]
    rw [t1, t2, lu, List.append_assoc]
    exact e
/-- a spot stays when the greatest is put in -/
theorem holds_ins {u p : List Nat} {q : Nat} (hq : q ≤ u.length) (h : holds u p = true) : holds (insAt u q) p = true := by
  obtain ⟨pl, hR, hi⟩ := (holds_ex _ _).mp h
  have hl := hR.len
  let sh : Nat → Nat := fun i => if i < q then i else i + 1
  have shm : ∀ a b, a < b → sh a < sh b := fun a b h => by
    show (if a < q then a else a + 1) < (if b < q then b else b + 1)
    split <;> split <;> omega
  have at' : ∀ c, c < p.length → (pl.map sh).getD c 0 = sh (pl.getD c 0) := fun c hc => getD_map (by omega)
  refine (holds_ex _ _).mpr ⟨pl.map sh, ⟨by rw [List.length_map]; exact hl, fun i hi' => ?_, fun a b hab hb => ?_⟩, fun a b hab hb => ?_⟩
  · rw [at' i hi', ins_len]
    have := hR.lt i hi'
    show (if pl.getD i 0 < q then pl.getD i 0 else pl.getD i 0 + 1) < _
    split <;> omega
  · rw [at' a (by omega), at' b hb]
    exact shm _ _ (hR.up a b hab hb)
  · rw [List.length_map] at hb
    rw [at' a (by omega), at' b (by omega)]
    have e1 := ins_at hq (hR.lt a (by omega))
    have e2 := ins_at hq (hR.lt b (by omega))
    show ((insAt u q).getD (if pl.getD a 0 < q then _ else _) 0 > (insAt u q).getD (if pl.getD b 0 < q then _ else _) 0 ↔ _)
    rw [e1, e2]
    exact hi a b hab hb
theorem mem_gAt {ps : List (List Nat)} : ∀ {m : Nat} {x : List Nat}, x ∈ gAt ps (m + 1) ↔ Ord x ∧ x.length = m + 1 ∧ ok ps x = true := by
  intro m
  induction m with
  | zero =>
    intro x
    constructor
    · intro h
      obtain ⟨u, hu, hm⟩ := List.mem_flatMap.mp h
      obtain ⟨hm, hok⟩ := List.mem_filter.mp hm
      obtain ⟨q, hq, rfl⟩ := List.mem_map.mp hm
      have hu0 : u = [] := by simpa [gAt] using hu
      subst hu0
      exact ⟨ins_ord ⟨List.nodup_nil, fun y hy => absurd hy (by simp)⟩ q, by rw [ins_len]; rfl, hok⟩
    · rintro ⟨h1, h2, h3⟩
      obtain ⟨u, q, hu, lu, hq, rfl⟩ := ins_of h1 h2
      have hu0 : u = [] := List.length_eq_zero_iff.mp lu
      refine List.mem_flatMap.mpr ⟨u, by rw [hu0]; simp [gAt], List.mem_filter.mpr ⟨List.mem_map.mpr ⟨q, List.mem_range.mpr (by omega), rfl⟩, h3⟩⟩
  | succ m ih =>
    intro x
    constructor
    · intro h
      obtain ⟨u, hu, hm⟩ := List.mem_flatMap.mp h
      obtain ⟨hm, hok⟩ := List.mem_filter.mp hm
      obtain ⟨q, hq, rfl⟩ := List.mem_map.mp hm
      obtain ⟨g1, g2, _⟩ := ih.mp hu
      exact ⟨ins_ord g1 q, by rw [ins_len, g2], hok⟩
    · rintro ⟨h1, h2, h3⟩
      obtain ⟨u, q, hu, lu, hq, rfl⟩ := ins_of h1 h2
      have hoku : ok ps u = true := by
        rw [ok_iff] at h3 ⊢
        intro p hp
        have h4 := h3 p hp
        cases e : holds u p with
        | false => rfl
        | true =>
          rw [holds_ins (by omega) e] at h4
          cases h4
      exact List.mem_flatMap.mpr ⟨u, ih.mpr ⟨hu, lu, hoku⟩, List.mem_filter.mpr ⟨List.mem_map.mpr ⟨q, List.mem_range.mpr (by omega), rfl⟩, h3⟩⟩
theorem gAt_ord {ps : List (List Nat)} : ∀ {m : Nat} {x : List Nat}, x ∈ gAt ps m → Ord x
  | 0, x, h => by
    have : x = [] := by simpa [gAt] using h
    rw [this]
    exact ⟨List.nodup_nil, fun y hy => absurd hy (by simp)⟩
  | m + 1, x, h => (mem_gAt.mp h).1
theorem nodup_gAt (ps : List (List Nat)) : ∀ m, (gAt ps m).Nodup
  | 0 => by simp [gAt]
  | m + 1 => by
    refine nodup_flat (nodup_gAt ps m) (fun u hu => ?_) (fun a ha b hb hab x hx hxb => ?_)
    · have ho := gAt_ord hu
      unfold grown1
      refine List.Pairwise.filter _ (nodup_map_on List.nodup_range fun q hq r hr e => ?_)
      have h1 := ins_idx ho.lt (q := q) (by have := List.mem_range.mp hq; omega)
      have h2 := ins_idx ho.lt (q := r) (by have := List.mem_range.mp hr; omega)
      rw [← h1, ← h2, e]
    · obtain ⟨hx, _⟩ := List.mem_filter.mp hx
      obtain ⟨q, _, rfl⟩ := List.mem_map.mp hx
      obtain ⟨hxb, _⟩ := List.mem_filter.mp hxb
      obtain ⟨r, _, e⟩ := List.mem_map.mp hxb
      have f1 := ins_filter (gAt_ord ha).lt q
      have f2 := ins_filter (gAt_ord hb).lt r
      have l1 := gAt_len ha
      have l2 := gAt_len hb
      rw [e, l2, ← l1, f1] at f2
      exact hab f2
/-! ### the law's list -/
theorem mem_lawAll {m : Nat} : ∀ {j : Nat} {x : List Nat}, x ∈ lawAll m j ↔ x.Nodup ∧ (∀ y ∈ x, y < m) ∧ x.length = j
  | 0, x => by
    show x ∈ [[]] ↔ _
    rw [List.mem_singleton]
    constructor
    · rintro rfl
      exact ⟨List.nodup_nil, fun y hy => absurd hy (by simp), rfl⟩
    · rintro ⟨_, _, h⟩
      exact List.length_eq_zero_iff.mp h
  | j + 1, x => by
    show x ∈ (lawAll m j).flatMap (all1 m) ↔ _
    rw [List.mem_flatMap]
    constructor
    · rintro ⟨u, hu, hm⟩
      obtain ⟨u1, u2, u3⟩ := mem_lawAll.mp hu
      obtain ⟨y, hy, rfl⟩ := List.mem_map.mp hm
      obtain ⟨hy1, hy2⟩ := List.mem_filter.mp hy
      have hy3 : y ∉ u := by simpa using hy2
      refine ⟨?_, fun z hz => ?_, by rw [List.length_append, u3]; rfl⟩
      · rw [List.nodup_append]
        refine ⟨u1, by simp, fun a ha b hb e => ?_⟩
        rw [List.mem_singleton] at hb
        exact hy3 (by rw [← hb, ← e]; exact ha)
      · rcases List.mem_append.mp hz with h | h
        · exact u2 z h
        · rw [List.mem_singleton] at h
          rw [h]
          exact List.mem_range.mp hy1
    · rintro ⟨h1, h2, h3⟩
      have hne : x ≠ [] := fun z => by
        rw [z] at h3
        simp at h3
      have e := List.dropLast_concat_getLast hne
      have hd : x.dropLast.Nodup := h1.sublist (List.dropLast_sublist x)
      have hy : x.getLast hne ∉ x.dropLast := by
        have h4 := h1
        rw [← e, List.nodup_append] at h4
        exact fun z => h4.2.2 _ z _ (by simp) rfl
      refine ⟨x.dropLast, mem_lawAll.mpr ⟨hd, fun y hy => h2 y ((List.dropLast_sublist x).subset hy), by rw [List.length_dropLast]; omega⟩, List.mem_map.mpr ⟨x.getLast hne, List.mem_filter.mpr ⟨List.mem_range.mpr (h2 _ (List.getLast_mem hne)), by simpa using hy⟩, e⟩⟩
theorem nodup_lawAll (m : Nat) : ∀ j, (lawAll m j).Nodup
  | 0 => by simp [lawAll]
  | j + 1 => by
    refine nodup_flat (nodup_lawAll m j) (fun u hu => ?_) (fun a ha b hb hab x hx hxb => ?_)
    · unfold all1
      refine nodup_map_on (List.nodup_range.filter _) fun q _ r _ e => ?_
      have := List.append_cancel_left e
      simpa using this
    · obtain ⟨u, _, rfl⟩ := List.mem_map.mp hx
      obtain ⟨v, _, e⟩ := List.mem_map.mp hxb
      have hl : a.length = b.length := by rw [lawAll_len ha, lawAll_len hb]
      exact hab (List.append_inj e hl.symm).1.symm
theorem none_ok {ps : List (List Nat)} {o : List Nat} (hp : ∀ p ∈ ps, Ord p) (ho : Ord o) : noneOf ps o = ok ps o := by
  rw [Bool.eq_iff_iff, ok_iff]
  unfold noneOf
  rw [decide_eq_true_iff, List.filter_eq_nil_iff]
  constructor
  · intro h p hpp
    have := h p hpp
    rw [decide_eq_true_iff, Classical.not_not, law_spots ho (hp p hpp)] at this
    rw [holds_iff, this]
    rfl
  · intro h p hpp
    have := h p hpp
    rw [holds_iff, Bool.not_eq_false', decide_eq_true_iff] at this
    rw [decide_eq_true_iff, Classical.not_not, law_spots ho (hp p hpp)]
    exact this
theorem mem_without {ps : List (List Nat)} {m : Nat} {x : List Nat} (hp : ∀ p ∈ ps, Ord p) : x ∈ lawWithout m ps ↔ Ord x ∧ x.length = m ∧ ok ps x = true := by
  unfold lawWithout
  rw [List.mem_filter, mem_lawAll]
  constructor
  · rintro ⟨⟨h1, h2, h3⟩, h4⟩
    have ho : Ord x := ⟨h1, fun y hy => by rw [h3]; exact h2 y hy⟩
    rw [none_ok hp ho] at h4
    exact ⟨ho, h3, h4⟩
  · rintro ⟨h1, h2, h3⟩
    exact ⟨⟨h1.nd, fun y hy => by rw [← h2]; exact h1.lt y hy, h2⟩, by rw [none_ok hp h1]; exact h3⟩
theorem perm_of_same {α : Type} [DecidableEq α] : ∀ {a b : List α}, a.Nodup → b.Nodup → (∀ x, x ∈ a ↔ x ∈ b) → a.Perm b
  | [], b, _, _, h => by
    have : b = [] := List.eq_nil_iff_forall_not_mem.mpr fun x hx => absurd ((h x).mpr hx) (by simp)
    rw [this]
  | x :: a, b, hn, hb, h => by
    obtain ⟨h1, h2⟩ := List.nodup_cons.mp hn
    have hx : x ∈ b := (h x).mp List.mem_cons_self
    have hpp := List.perm_cons_erase hx
    refine (List.Perm.cons x (perm_of_same h2 (hb.erase x) fun y => ?_)).trans hpp.symm
    constructor
    · intro hy
      have hne : y ≠ x := fun z => h1 (by rw [← z]; exact hy)
      exact (List.mem_erase_of_ne hne).mpr ((h y).mp (List.mem_cons_of_mem _ hy))
    · intro hy
      have hne : y ≠ x := fun z => by
        rw [z] at hy
        exact (List.Nodup.not_mem_erase hb) hy
      have := (h y).mpr (List.mem_of_mem_erase hy)
      rcases List.mem_cons.mp this with e | e
      · exact absurd e hne
      · exact e
theorem without_perm {ps : List (List Nat)} {m : Nat} (hp : ∀ p ∈ ps, Ord p) (h1 : 1 ≤ m) : (lawWithout m ps).Perm (gAt ps m) := by
  refine perm_of_same ((nodup_lawAll m m).filter _) (nodup_gAt ps m) fun x => ?_
  obtain ⟨n, rfl⟩ : ∃ n, m = n + 1 := ⟨m - 1, by omega⟩
  have e1 := mem_without (m := n + 1) (x := x) hp
  have e2 := mem_gAt (ps := ps) (m := n) (x := x)
  exact e1.trans e2.symm
/-! ### the opposite patterns -/
theorem holds_inv {o p : List Nat} (ho : Ord o) (hp : Ord p) : holds (inv o) (inv p) = holds o p := by
  rw [holds_iff, holds_iff]
  congr 1
  have h := cnt_inv ho hp
  by_cases e : allSpots o p = []
  · rw [e] at h
    rw [decide_eq_true e, decide_eq_true (List.length_eq_zero_iff.mp h)]
  · have n : allSpots (inv o) (inv p) ≠ [] := fun z => by
      rw [z] at h
      exact e (List.length_eq_zero_iff.mp h.symm)
    rw [decide_eq_false e, decide_eq_false n]
theorem gAt_inv_le {ps : List (List Nat)} {m : Nat} (hp : ∀ p ∈ ps, Ord p) (h1 : 1 ≤ m) : (gAt ps m).length ≤ (gAt (ps.map inv) m).length := by
  obtain ⟨n, rfl⟩ : ∃ n, m = n + 1 := ⟨m - 1, by omega⟩
  refine count_le (f := inv) (nodup_gAt ps _) (fun x hx y hy e => ?_) (fun x hx => ?_)
  · have q1 := inv_inv (gAt_ord hx)
    have q2 := inv_inv (gAt_ord hy)
    rw [← q1, ← q2, e]
  · obtain ⟨g1, g2, g3⟩ := mem_gAt.mp hx
    refine mem_gAt.mpr ⟨ord_inv g1, by rw [inv_len]; exact g2, ?_⟩
    rw [ok_iff] at g3 ⊢
    intro q hq
    obtain ⟨p, hpp, rfl⟩ := List.mem_map.mp hq
    rw [holds_inv g1 (hp p hpp)]
    exact g3 p hpp
theorem gAt_inv {ps : List (List Nat)} {m : Nat} (hp : ∀ p ∈ ps, Ord p) (h1 : 1 ≤ m) : (gAt (ps.map inv) m).length = (gAt ps m).length := by
  have a := gAt_inv_le (m := m) hp h1
  have b := gAt_inv_le (ps := ps.map inv) (m := m) (fun q hq => by
    obtain ⟨p, hpp, rfl⟩ := List.mem_map.mp hq
    exact ord_inv (hp p hpp)) h1
  have e : (ps.map inv).map inv = ps := by
    rw [List.map_map]
    conv => rhs; rw [← List.map_id ps]
    exact List.map_congr_left fun p hpp => inv_inv (hp p hpp)
  rw [e] at b
  omega
end WiM
end

section
set_option Elab.async false
set_option linter.all false
set_option maxRecDepth 100000
set_option maxHeartbeats 8000000
/-! The law. -/
namespace Wp
open PySem PySem.Spec PyProof.Rows L2 L2H LamX Wq
open WiM (gAt allSpots holds lawWithout lawSpots inv turn)
/-- xs + ys, lists that are read -/
def rCatL (K : PySem.W.Frag) : R2 := fun x y H Q => ∃ l b xs zs, x = .ref l ∧ y = .ref b ∧ SqL K H l xs ∧ SqL K H b zs ∧ xs.length + zs.length ≤ sizeLine ∧ ∀ p, H p = none → Q (.ref p) (upd H p (.lst (xs ++ zs)))
theorem op_catL {X : Cx} : OpR X (binaryOp .Add) (rCatL X.K) := by
  intro pins s σ H x y v u Q I rx ry h
  obtain ⟨l, b, xs, zs, rfl, rfl, h1, h2, hz, q⟩ := h
  cases rx
  cases ry
  obtain ⟨its, r, ⟨⟨c1, d1, a1, sl1⟩, n1, o1, e1, e2, e3⟩, _⟩ := I.list h1
  obtain ⟨its2, r2, ⟨⟨c2, d2, a2, sl2⟩, n2, o2, f1, f2, f3⟩, _⟩ := I.list h2
  simp only at e1 e2 e3 f1 f2 f3
  subst e1 e2 e3 f1 f2 f3
  have hl := r.length
  have hl2 := r2.length
  refine concat_meets ⟨_, o1, rfl⟩ ⟨_, o2, rfl⟩ noFill_list_add seq_list_add PySem.F.slot_list_add PySem.F.entry_list_add (PySem.F.args_list_add_2 _ _) (list_addW l b its.toArray its2.toArray n1 n2 _ _ sl1 sl2 (by rw [List.size_toArray, List.size_toArray]; omega)) ⟨o1, o2, ?_⟩
  have ea : its.toArray ++ its2.toArray = (its ++ its2).toArray := by simp
  rw [ea]
  exact ⟨.ref _, _, I.lnew (t' := s.toks) (r.append r2) (by rw [List.length_append]; omega), rfl, q _ I.fresh⟩
theorem pe_d0 {X : Cx} {CX : CXT} {k j : Nat} {x : Str} {sp : Sp} {p pos : Pos} {E : XK} (F : Df X.prog X.w X.K X.mg X.base CX k x [] sp) (hr : Room j X.A) (hk : k ≤ j) (hg : Gl X x) (hx : Passes CX X E) (hdb : (x == ("__debug__" : Str)) = false := by decide) :
    PE X (.Call (.Name x p) [] [] pos) (tD sp E tNil) := by
  obtain ⟨f, fd, F, hm, kp, b⟩ := F.ex
  exact ⟨fun pins s σ H Q I h => (pe_call0 F (hr.mono hk) hg hm kp b .nil hx hdb).run pins s σ H Q I h⟩
/-- the law's defs -/
structure DfL (P : Program) (w : World) (K : PySem.W.Frag) (mg : Str → Option Value) (base : Heap) (Pt : Addr) : Prop where
  drum : Df P w K mg base CX0 1 "_law_drum" ["_law_cell", "_law_turn"] spDrum
  roll : Df P w K mg base CX0 1 "_law_roll" ["_law_keg", "_law_many"] spRoll
  order : Df P w K mg base CX0 2 "_law_order" ["_law_keg", "_law_many"] (spLOrder K)
  lspots : Df P w K mg base CX0 2 "_law_spots" ["_law_row", "_law_shape"] (spLSpots K)
  without : Df P w K mg base CX0 3 "_law_without" ["_law_many", "_law_shapes"] (spWithout K)
  known : Df P w K mg base CX0 1 "_law_known" [] (spKnown K)
  refused : Df P w K mg base CX0 9 "_law_refused" ["_law_row"] (spRefused K Pt)
  opp : Df P w K mg base (L2N.CX P w) 4 "opposite" ["order"] (spMap K inv)
  about : Df P w K mg base (L2N.CX P w) 4 "turned_about" ["order"] (spMap K List.reverse)
  over : Df P w K mg base (L2N.CX P w) 4 "turned_over" ["order"] (spMap K turn)
section
variable {P : Program} {w : World} {K : PySem.W.Frag} {mg : Str → Option Value} {base : Heap} {A : Ad}
theorem spOP_val {few : Bool} {R : List Nat → List Nat → Hp → VK → Prop} {v1 v2 : V} {o p : List Nat} {H : Hp} {Q : VK} {E : XK} (d1 : Dp K H v1 (dO o)) (d2 : Dp K H v2 (dO p)) (hO : WiM.Ord o) (hP : WiM.Ord p) (h1 : 1 ≤ o.length) (h2 : o.length ≤ 30) (h3 : 1 ≤ p.length) (h4 : p.length ≤ 5)
    (hf : few = true → o.length ≤ 12) (hw : o.length ^ p.length ≤ 1000000) (q : ∀ H', Same H H' → R o p H' Q) : spOP K A few R [v1, v2] H Q E :=
  ⟨v1, v2, argO o, argO p, rfl, argD d1, argD d2, smallO (by omega), smallO (by omega), noO hO h1 h2, fun _ => noP hP h3 h4, fun o' p' e1 e2 _ _ _ _ _ _ => by
    rw [← argO_inj e1, ← argO_inj e2]
    exact ⟨fun z hl => absurd (hf z) (by omega), fun _ => ⟨hw, q⟩⟩⟩
theorem argsO_inj : ∀ {a b : List (List Nat)}, a.map argO = b.map argO → a = b
  | [], [], _ => rfl
  | [], _ :: _, h => by simp at h
  | _ :: _, [], h => by simp at h
  | x :: a, y :: b, h => by
    rw [List.map_cons, List.map_cons] at h
    obtain ⟨h1, h2⟩ := List.cons.inj h
    rw [argO_inj h1, argsO_inj h2]
theorem dT_arg {H : Hp} {v : V} {ps : List (List Nat)} (h : Dp K H v (dT ps)) : Dp K H v (PArg.tup (ps.map argO)).d := by
  have e : (PArg.tup (ps.map argO)).d = dT ps := by
    show PyData.tuple ((ps.map argO).map Arg.d) = PyData.tuple (ps.map dO)
    rw [List.map_map]
    congr 1
    apply List.map_congr_left
    intro o _
    exact argO_d o
  rw [e]
  exact h
theorem spMP_val {lim m : Nat} {R : Nat → List (List Nat) → Hp → VK → Prop} {v2 : V} {ps : List (List Nat)} {H : Hp} {Q : VK} {E : XK} (d2 : Dp K H v2 (dT ps)) (hp : ∀ p ∈ ps, WiM.Ord p ∧ 1 ≤ p.length ∧ p.length ≤ 5) (h1 : 1 ≤ ps.length) (h6 : ps.length ≤ 6) (m1 : 1 ≤ m) (hl : m ≤ lim) (h30 : lim ≤ 30)
    (h64 : (gAt ps m).length < 64) (q : ∀ H', Same H H' → R m ps H' Q) : spMP K A lim R [.int (m : Int), v2] H Q E :=
  ⟨m, v2, _, rfl, dT_arg d2, ⟨by rw [List.length_map]; omega, fun a ha => by
    obtain ⟨p, hpp, rfl⟩ := List.mem_map.mp ha
    have := (hp p hpp).2.2
    exact smallO (by omega)⟩, fun z => absurd ⟨by omega, by omega⟩ z, fun _ z => (by rw [fPs_of hp h1 h6] at z; cases z), fun m' ps' e e2 _ _ _ _ => by
    have em : m = m' := by omega
    subst em
    rw [← argsO_inj (PArg.tup.inj e2)]
    exact ⟨fun z => absurd hl (by omega), fun _ => ⟨h64, q⟩⟩⟩
/-! ### what an iteration keeps -/
structure Rel (T : List (Addr × Str)) (kg : Addr) (Hc H : Hp) : Prop where
  kg : KegIs kg H
  ext : ExtN Hc H
  tab : Tabs T H
theorem Rel.same {T : List (Addr × Str)} {kg : Addr} {Hc H H' : Hp} (r : Rel T kg Hc H) (s : Same H H') : Rel T kg Hc H' := ⟨r.kg.mono s, r.ext.trans (ExtN.of s), r.tab.ext s⟩
theorem Rel.keg {T : List (Addr × Str)} {kg : Addr} {Hc H H' : Hp} (hn : Hc kg = none) (r : Rel T kg Hc H) (s : SameE kg H H') : Rel T kg Hc H' := by
  refine ⟨s.1, fun b o hb hnt => ?_, fun p hp => ?_⟩
  · have nb : b ≠ kg := fun z => by
      rw [z, hn] at hb
      cases hb
    exact s.2 b o nb (r.ext b o hb hnt)
  · obtain ⟨g, k, _, hk⟩ := r.kg
    obtain ⟨ps, h1, h2, h3⟩ := r.tab p hp
    have n1 : p.1 ≠ kg := fun z => by
      rw [z, hk] at h1
      cases h1
    refine ⟨ps, s.2 _ _ n1 h1, h2, fun pos cv hc => ?_⟩
    obtain ⟨c, e, hco⟩ := h3 pos cv hc
    have n2 : c ≠ kg := fun z => by
      rw [z, hk] at hco
      cases hco
    exact ⟨c, e, s.2 _ _ n2 hco⟩
theorem Rel.lam {T : List (Addr × Str)} {kg : Addr} {Hc H H' : Hp} (r : Rel T kg Hc H) (e : ExtN H H') (t : Tabs T H') : Rel T kg Hc H' := by
  obtain ⟨g, k, hg, hk⟩ := r.kg
  exact ⟨⟨g, k, hg, ext_lst e hk⟩, r.ext.trans e, t⟩
def spLaw (K : PySem.W.Frag) (Pt : Addr) : Sp := fun vs H Q _ => ∃ (a : Addr) (ns : List Int), vs = [.ref a] ∧ SqL K H a (ns.map V.int) ∧ ns.length ≤ 63 ∧ Tabs [(Pt, qRef)] H ∧ ∀ H', Q (.bl true) H'
theorem scLaw : FnScope ["_law_script", "_law_cell", "_law_keg", "_law_row", "_law_shape", "_law_due", "_law_call", "_law_shapes", "_law_many", "_law_some", "_law_last", "_law_plain", "_law_turn", "_law_one"] ["_law_script"] (defScope sLaw) := ⟨rfl, rfl, rfl, by decide +kernel, rfl, by decide +kernel, by decide +kernel⟩
theorem code_snoc (B : Int) : ∀ (l : List Int) (x : Int), TS.code B (l ++ [x]) = TS.code B l * B + x
  | [], x => by
    show x * B ^ 0 + 0 = 0 * B + x
    rw [Int.pow_zero]
    omega
  | d :: r, x => by
    show d * B ^ (r ++ [x]).length + TS.code B (r ++ [x]) = (d * B ^ r.length + TS.code B r) * B + x
    rw [code_snoc B r x, List.length_append, List.length_singleton, Int.pow_succ, Int.add_mul, Int.mul_assoc, Int.add_assoc]
theorem cd_snoc (u : List Nat) (x : Nat) : cd (u ++ [x]) = cd u * 8 + (x : Int) := by
  unfold cd
  rw [List.map_append]
  exact code_snoc 8 _ _
theorem all_sorted {m : Nat} (hm : m ≤ 7) : ∀ j, (WiM.lawAll m j).Pairwise fun a b => cd a < cd b
  | 0 => by
    show List.Pairwise _ [[]]
    exact List.pairwise_singleton _ _
  | j + 1 => by
    show List.Pairwise _ ((WiM.lawAll m j).flatMap (WiM.all1 m))
    rw [List.pairwise_flatMap]
    refine ⟨fun u hu => ?_, (all_sorted hm j).imp fun {a b} hab x hx y hy => ?_⟩
    · unfold WiM.all1
      rw [List.pairwise_map]
      refine (List.pairwise_lt_range.filter _).imp fun {a b} h => ?_
      rw [cd_snoc, cd_snoc]
      omega
    · unfold WiM.all1 at hx hy
      obtain ⟨c, hc, rfl⟩ := List.mem_map.mp hx
      obtain ⟨d, hd, rfl⟩ := List.mem_map.mp hy
      have h1 := List.mem_range.mp (List.mem_filter.mp hc).1
      rw [cd_snoc, cd_snoc]
      omega
theorem sorted_one : ∀ {us ws : List (List Nat)}, us.Perm ws → (us.Pairwise fun a b => cd a ≤ cd b) → (ws.Pairwise fun a b => cd a < cd b) → us = ws
  | us, [], p, _, _ => p.eq_nil
  | [], b :: ws, p, _, _ => by
    have := p.length_eq
    simp at this
  | a :: us, b :: ws, p, h1, h2 => by
    obtain ⟨p1, p2⟩ := List.pairwise_cons.mp h1
    obtain ⟨q1, q2⟩ := List.pairwise_cons.mp h2
    have ha : a ∈ b :: ws := p.mem_iff.mp List.mem_cons_self
    have hb : b ∈ a :: us := p.mem_iff.mpr List.mem_cons_self
    have e : a = b := by
      rcases List.mem_cons.mp ha with e | h
      · exact e
      · have l1 := q1 a h
        rcases List.mem_cons.mp hb with e | h'
        · exact e.symm
        · have l2 := p1 b h'
          omega
    subst e
    rw [sorted_one (List.perm_cons _ |>.mp p) p2 q2]
theorem us_eq {us ps : List (List Nat)} {m : Nat} (hp : ∀ p ∈ ps, WiM.Ord p) (h1 : us.Perm (gAt ps m)) (h2 : us.Pairwise fun a b => cd a ≤ cd b) (hm : 1 ≤ m) (h4 : m ≤ 4) : us = lawWithout m ps :=
  sorted_one (h1.trans (WiM.without_perm hp hm).symm) h2 ((all_sorted (by omega) m).filter _)
/-- one of the three -/
def Cturn (fo fa fv : Addr) (K : PySem.W.Frag) (f : Addr) (sp : Sp) : Prop := (f = fo ∧ sp = spMap K inv) ∨ (f = fa ∧ sp = spMap K List.reverse) ∨ (f = fv ∧ sp = spMap K turn)
def dN (o : List Nat) : PyData := .list (o.map fun (n : Nat) => .int (n : Int))
theorem turn_at {fo fa fv : Addr} {i : Nat} {x : V} {o p : List Nat} (hO : WiM.Ord o) (hP : WiM.Ord p) (h : [V.ref fo, .ref fa, .ref fv][i]? = some x) : ∃ (f : Addr) (g : List Nat → List Nat), x = .ref f ∧ Cturn fo fa fv K f (spMap K g) ∧ WiM.Ord (g o) ∧ WiM.Ord (g p) ∧ (g o).length = o.length ∧ (g p).length = p.length ∧ (allSpots (g o) (g p)).length = (allSpots o p).length := by
  match i, h with
  | 0, h =>
    cases h
    exact ⟨fo, inv, rfl, .inl ⟨rfl, rfl⟩, WiM.ord_inv hO, WiM.ord_inv hP, WiM.inv_len o, WiM.inv_len p, WiM.cnt_inv hO hP⟩
  | 1, h =>
    cases h
    exact ⟨fa, List.reverse, rfl, .inr (.inl ⟨rfl, rfl⟩), WiM.ord_rev hO, WiM.ord_rev hP, List.length_reverse, List.length_reverse, WiM.cnt_rev hO hP⟩
  | 2, h =>
    cases h
    exact ⟨fv, turn, rfl, .inr (.inr ⟨rfl, rfl⟩), WiM.ord_turn hO, WiM.ord_turn hP, by unfold turn; rw [List.length_map], by unfold turn; rw [List.length_map], WiM.cnt_turn hO hP⟩
theorem ok_law {f Pt : Addr} {fd : FuncData} (F : Fun K "law" "law" sLaw f fd) (N : Nm mg) (DL : DfL P w K mg base Pt) (DP : DfP P w K mg base A) : FnOk P w K mg base CX0 10 f fd ["_law_script"] (spLaw K Pt) := by
  obtain ⟨fo, fdo, Fo, mo, ko, bo⟩ := DL.opp.ex
  obtain ⟨fa, fda, Fa, ma, ka, ba⟩ := DL.about.ex
  obtain ⟨fv, fdv, Fv, mv, kv, bv⟩ := DL.over.ex
  have hC : ∀ (f : Addr) (sp : Sp), Cturn fo fa fv K f sp → ∃ (fd : FuncData) (ps : List Str), FnOk P w K mg base (L2N.CX P w) 4 f fd ps sp ∧ PySem.W.keepIn K (.ref f) = true ∧ Binds K fd ps [] := fun f sp h => by
    rcases h with ⟨rfl, rfl⟩ | ⟨rfl, rfl⟩ | ⟨rfl, rfl⟩
    · exact ⟨_, _, Fo, ko, bo⟩
    · exact ⟨_, _, Fa, ka, ba⟩
    · exact ⟨_, _, Fv, kv, bv⟩
  refine F.ok scLaw (fun vs H Q E h => ?_) (fun cdv A' outer s H vs Q E hr h => ?_)
  · obtain ⟨a, ns, rfl, _⟩ := h
    rfl
  · obtain ⟨a, ns, rfl, hS, h63, hT, q⟩ := h
    refine ⟨_, (pss_cons (ps_for PassesOwn.never rfl (pi_list (pe_slice sl_list (pe_op op_catL (pv 0) (pe_lst (pa_cons pe_int (pa_cons pe_int pa_nil)))) po_none (po_some pe_int))) (pg_name (i := 1) scLaw.nd rfl (Or.inl rfl))
        (pss_cons (ps_set (i := 2) scLaw.nd rfl (Or.inr rfl) (pe_d DL.drum hr (by decide) (by rfl) pass0 (pa_cons (pv 1) (pa_cons pe_int pa_nil))))
        (pss_cons (ps_par (i := 3) (j := 4) rfl scLaw.nd rfl rfl (by decide) rfl rfl (pa_cons (pe_d DL.order hr (by decide) (by rfl) pass0 (pa_cons (pv 2) (pa_cons (pe_op op_add pe_int (pe_d DL.roll hr (by decide) (by rfl) pass0 (pa_cons (pv 2) (pa_cons pe_int pa_nil)))) pa_nil))) (pa_cons (pe_d DL.order hr (by decide) (by rfl) pass0 (pa_cons (pv 2) (pa_cons (pe_op op_add pe_int (pe_d DL.roll hr (by decide) (by rfl) pass0 (pa_cons (pv 2) (pa_cons pe_int pa_nil)))) pa_nil))) pa_nil)) rfl)
        (pss_cons (ps_set (i := 5) scLaw.nd rfl (Or.inl rfl) (pe_d DL.lspots hr (by decide) (by rfl) pass0 (pa_cons (pv 3) (pa_cons (pv 4) pa_nil))))
        (pss_cons (ps_if (PW.pt (pw_or (pt_cmpR (op_neD hr.units) (pe_d DP.spots hr (by decide) (by rfl) passN (pa_cons (pv 3) (pa_cons (pv 4) pa_nil))) (pv 5) (nomark _)) (pw_or (pt_cmpR op_ne (pe_d DP.count hr (by decide) (by rfl) passN (pa_cons (pv 3) (pa_cons (pv 4) pa_nil))) (lenE K (by rfl) N.len (pv 5)) (nomark _)) (pw_or1 (pt_cmpR op_ne (pe_d DP.has hr (by decide) (by rfl) passN (pa_cons (pv 3) (pa_cons (pv 4) pa_nil))) (pe_cmpR (op_neD hr.units) (pv 5) (pe_lst pa_nil) (nomark _)) (nomark _)))))) (pss_one (ps_ret pe_bl)) pss_nil)
        (pss_cons (ps_if (pt_not (pt_val (pe_callB call_isi (by rfl) N.isinst boot_isinstance (pa_cons (pe_d DP.has hr (by decide) (by rfl) passN (pa_cons (pv 3) (pa_cons (pv 4) pa_nil))) (pa_cons (pe_bltn (v := .ty "bool") (by rfl) N.bool boot_bool rfl) pa_nil))))) (pss_one (ps_ret pe_bl)) pss_nil)
        (pss_cons (ps_for PassesOwn.never rfl (pi_tup (pe_tup (pa_cons (pe_glob (v := .ref fo) (by rfl) mo rfl) (pa_cons (pe_glob (v := .ref fa) (by rfl) ma rfl) (pa_cons (pe_glob (v := .ref fv) (by rfl) mv rfl) pa_nil))))) (pg_name (i := 6) scLaw.nd rfl (Or.inl rfl))
        (pss_one (ps_if (pt_cmpR op_ne (pe_d DP.count hr (by decide) (by rfl) passN (pa_cons (pe_cw (i := 6) hC (hr.mono (show 4 ≤ 9 by decide)) passN rfl (Or.inl rfl) (pa_cons (pv 3) pa_nil)) (pa_cons (pe_cw (i := 6) hC (hr.mono (show 4 ≤ 9 by decide)) passN rfl (Or.inl rfl) (pa_cons (pv 4) pa_nil)) pa_nil))) (lenE K (by rfl) N.len (pv 5)) (nomark _)) (pss_one (ps_ret pe_bl)) pss_nil)))
        (pss_cons (ps_set (i := 7) scLaw.nd rfl (Or.inl rfl) (pe_callTy call_tuple_of (by rfl) N.tuple boot_tuple (pa_cons (pe_lc (own := [("_law_turn", 12)]) (g := gName 12) (tt := tYes) rfl scLaw.nd (pi_range1 (by rfl) N.range (pa_cons (pe_op op_add pe_int (pe_d DL.roll hr (by decide) (by rfl) pass0 (pa_cons (pv 2) (pa_cons pe_int pa_nil)))) pa_nil)) (blkOk_by (N := ["_law_script", "_law_cell", "_law_keg", "_law_row", "_law_shape", "_law_due", "_law_call", "_law_shapes", "_law_many", "_law_some", "_law_last", "_law_plain", "_law_turn", "_law_one"]) (sc := defScope sLaw) (by decide +kernel)) (fun _ _ _ _ _ => pg_name (i := 12) scLaw.nd rfl (Or.inl rfl)) (fun _ _ _ _ _ => pts_nil) (fun _ _ _ _ _ => by exact (pe_d DL.order hr (by decide) (by rfl) pass0 (pa_cons (pv 2) (pa_cons (pe_op op_add pe_int (pe_d DL.roll hr (by decide) (by rfl) pass0 (pa_cons (pv 2) (pa_cons pe_int pa_nil)))) pa_nil))))) pa_nil)))
        (pss_cons (ps_set (i := 8) scLaw.nd rfl (Or.inl rfl) (pe_op op_add pe_int (pe_d DL.roll hr (by decide) (by rfl) pass0 (pa_cons (pv 2) (pa_cons pe_int pa_nil)))))
        (pss_cons (ps_set (i := 9) scLaw.nd rfl (Or.inl rfl) (pe_d DL.without hr (by decide) (by rfl) pass0 (pa_cons (pv 8) (pa_cons (pv 7) pa_nil))))
        (pss_cons (ps_if (PW.pt (pw_or (pt_cmpR (op_neD hr.units) (pe_d DP.ordW hr (by decide) (by rfl) passN (pa_cons (pv 8) (pa_cons (pv 7) pa_nil))) (pv 9) (nomark _)) (pw_or1 (pt_cmpR op_ne (pe_d DP.countW hr (by decide) (by rfl) passN (pa_cons (pv 8) (pa_cons (pv 7) pa_nil))) (lenE K (by rfl) N.len (pv 9)) (nomark _))))) (pss_one (ps_ret pe_bl)) pss_nil)
        (pss_cons (ps_if (pt_cmpR op_ne (pe_d DP.countW hr (by decide) (by rfl) passN (pa_cons (pv 8) (pa_cons (pe_callTy call_tuple_of (by rfl) N.tuple boot_tuple (pa_cons (pe_lc (own := [("_law_one", 13)]) (g := gName 13) (tt := tYes) rfl scLaw.nd (pi_tup (pv 7)) (blkOk_by (N := ["_law_script", "_law_cell", "_law_keg", "_law_row", "_law_shape", "_law_due", "_law_call", "_law_shapes", "_law_many", "_law_some", "_law_last", "_law_plain", "_law_turn", "_law_one"]) (sc := defScope sLaw) (by decide +kernel)) (fun _ _ _ _ _ => pg_name (i := 13) scLaw.nd rfl (Or.inl rfl)) (fun _ _ _ _ _ => pts_nil) (fun _ _ _ _ _ => by exact (pe_d DL.opp hr (by decide) (by rfl) passN (pa_cons (pv 13) pa_nil)))) pa_nil)) pa_nil))) (lenE K (by rfl) N.len (pv 9)) (nomark _)) (pss_one (ps_ret pe_bl)) pss_nil)
        (pss_one (ps_if (pt_not (pt_val (pe_d DL.refused hr (by decide) (by rfl) pass0 (pa_cons (pv 3) pa_nil)))) (pss_one (ps_ret pe_bl)) pss_nil))))))))))))))
        (pss_cons (ps_set (i := 10) scLaw.nd rfl (Or.inl rfl) (ixLE K (pe_d0 DL.known hr (by decide) (by rfl) pass0) pe_int))
        (pss_cons (ps_if (PW.pt (pw_or (pt_cmpR (op_neD hr.units) (pe_d DP.spots hr (by decide) (by rfl) passN (pa_cons (pv 10) (pa_cons (pe_tup (pa_cons pe_int (pa_cons pe_int (pa_cons pe_int pa_nil)))) pa_nil))) (pe_lst (pa_cons (pe_tup (pa_cons pe_int (pa_cons pe_int (pa_cons pe_int pa_nil)))) pa_nil)) (nomark _)) (pw_or (pt_cmpR op_ne (pe_d DP.count hr (by decide) (by rfl) passN (pa_cons (pv 10) (pa_cons (pe_tup (pa_cons pe_int (pa_cons pe_int pa_nil))) pa_nil))) pe_int (nomark _)) (pw_or1 (pt_not (pt_val (pe_d DP.has hr (by decide) (by rfl) passN (pa_cons (pv 10) (pa_cons (pe_tup (pa_cons pe_int (pa_cons pe_int (pa_cons pe_int pa_nil)))) pa_nil))))))))) (pss_one (ps_ret pe_bl)) pss_nil)
        (pss_cons (ps_set (i := 11) scLaw.nd rfl (Or.inl rfl) (pe_tupRg rfl (by rfl) N.tuple (prg_1 (by rfl) N.range pe_int)))
        (pss_cons (ps_if (PW.pt (pw_or (pt_val (pe_d DP.has hr (by decide) (by rfl) passN (pa_cons (pv 10) (pa_cons (pe_tup (pa_cons pe_int (pa_cons pe_int (pa_cons pe_int pa_nil)))) pa_nil)))) (pw_or (pt_val (pe_d DP.has hr (by decide) (by rfl) passN (pa_cons (pv 11) (pa_cons (pe_tup (pa_cons pe_int (pa_cons pe_int pa_nil))) pa_nil)))) (pw_or1 (pt_not (pt_val (pe_d DP.has hr (by decide) (by rfl) passN (pa_cons (pv 11) (pa_cons (pe_tup (pa_cons pe_int (pa_cons pe_int pa_nil))) pa_nil))))))))) (pss_one (ps_ret pe_bl)) pss_nil)
        (pss_one (ps_ret (pe_cmpR (op_eqD hr.units) (pe_lc (own := [("_law_many", 8)]) (g := gName 8) (tt := tYes) rfl scLaw.nd (pi_tup (pe_tup (pa_cons pe_int (pa_cons pe_int (pa_cons pe_int pa_nil))))) (blkOk_by (N := ["_law_script", "_law_cell", "_law_keg", "_law_row", "_law_shape", "_law_due", "_law_call", "_law_shapes", "_law_many", "_law_some", "_law_last", "_law_plain", "_law_turn", "_law_one"]) (sc := defScope sLaw) (by decide +kernel)) (fun _ _ _ _ _ => pg_name (i := 8) scLaw.nd rfl (Or.inl rfl)) (fun _ _ _ _ _ => pts_nil) (fun _ _ _ _ _ => by exact (pe_d DP.countW hr (by decide) (by rfl) passN (pa_cons (pv 8) (pa_cons (pe_tup (pa_cons (pe_tup (pa_cons pe_int (pa_cons pe_int (pa_cons pe_int pa_nil)))) (pa_cons (pe_tup (pa_cons pe_int (pa_cons pe_int (pa_cons pe_int pa_nil)))) pa_nil))) pa_nil))))) (pe_lst (pa_cons pe_int (pa_cons pe_int (pa_cons pe_int pa_nil)))) (nomark _))))))))), ?_⟩
    refine ⟨_, rfl, by show 2 ≤ sizeLine; decide, fun l1 hl1 => ⟨a, l1, ns.map V.int, [.int 0, .int 1], rfl, rfl, (same_upd hl1).seq hS, .of upd_same, by rw [List.length_map]; exact small_t (by simp; omega), fun l2 hl2 => ?_⟩⟩
    refine ⟨2, rfl, l2, _, rfl, .of upd_same, fun l3 hl3 => ⟨l3, rfl, ⟨_, .of upd_same⟩, ?_⟩⟩
    have S3 := ((same_upd (o := .lst [.int 0, .int 1]) hl1).trans (same_upd (o := .lst (ns.map V.int ++ [.int 0, .int 1])) hl2)).trans (same_upd (o := .lst (cutV (ns.map V.int ++ [.int 0, .int 1]) none (some 2))) hl3)
    have allI : ∀ (i : Nat) (x : V), (cutV (ns.map V.int ++ [.int 0, .int 1]) none (some 2))[i]? = some x → ∃ c, x = .int c := fun i x hx => by
      have hm := List.mem_of_getElem? hx
      unfold cutV at hm
      have hm := List.mem_of_mem_drop (List.mem_of_mem_take hm)
      rcases List.mem_append.mp hm with h | h
      · obtain ⟨n, _, e⟩ := List.mem_map.mp h
        exact ⟨n, e.symm⟩
      · simp only [List.mem_cons, List.not_mem_nil, or_false] at h
        rcases h with e | e
        · exact ⟨_, e⟩
        · exact ⟨_, e⟩
    refine for_list (K := K) (xs := cutV (ns.map V.int ++ [.int 0, .int 1]) none (some 2)) (fun i σ Hc => ∃ y1 y2 y3 y4 y5 y6 y7 y8 y9 y10 y11 y12 y13 : Option V, σ = [some (.ref a), y1, y2, y3, y4, y5, y6, y7, y8, y9, y10, y11, y12, y13] ∧ Tabs [(Pt, qRef)] Hc ∧ Hc l3 = some (.lst (cutV (ns.map V.int ++ [.int 0, .int 1]) none (some 2))))
      ⟨none, none, none, none, none, none, none, none, none, none, none, none, none, rfl, hT.ext S3, upd_same⟩ (fun i σ Hc _ h => ?_) (fun i x σ Hc hx h => ?_) (fun σ Hc h => ?_)
    · obtain ⟨_, _, _, _, _, _, _, _, _, _, _, _, _, _, _, z⟩ := h
      exact .of z
    · obtain ⟨y1, y2, y3, y4, y5, y6, y7, y8, y9, y10, y11, y12, y13, rfl, tT, hl⟩ := h
      obtain ⟨c, rfl⟩ := allI i x hx
      -- the keg
      refine ⟨_, rfl, c, rfl, fun kg g k hg hkg => ?_⟩
      have R1 : Rel [(Pt, qRef)] kg Hc (upd Hc kg (.lst [.int g, .int k])) := ⟨⟨g, k, hg, upd_same⟩, ExtN.of (same_upd hkg), tT.ext (same_upd hkg)⟩
      -- row and shape
      refine ⟨_, rfl, _, rfl, kg, 8, g, k, rfl, by decide, by decide, hg, upd_same, fun r1 g1 k1 hg1 hr1 => ⟨1, r1, rfl, rfl, kg, 1 + r1, rfl, by omega, by omega, ⟨g1, k1, hg1, upd_same⟩, fun H2 row o e2 hO ho do2 => ?_⟩⟩
      have R2 := (R1.keg hkg (.upd (k := k1) hg1)).keg hkg e2
      obtain ⟨g2, k2, hg2, hk2⟩ := R2.kg
      refine ⟨_, rfl, _, rfl, kg, 5, g2, k2, rfl, by decide, by decide, hg2, hk2, fun r2 g3 k3 hg3 hr2 => ⟨1, r2, rfl, rfl, kg, 1 + r2, rfl, by omega, by omega, ⟨g3, k3, hg3, upd_same⟩, fun H3 shape p e3 hP hp dp3 => ?_⟩⟩
      have R3 := (R2.keg hkg (.upd (k := k3) hg3)).keg hkg e3
      have do3 := dO_keg (SameE.upd (k := k3) hg3 : SameE kg H2 _).1 e3 (dO_keg R2.kg (.upd hg3) do2)
      have o8 : o.length ≤ 8 := by omega
      have o1 : 1 ≤ o.length := by omega
      have p5 : p.length ≤ 5 := by omega
      have p1 : 1 ≤ p.length := by omega
      have hpow : o.length ^ p.length ≤ 1000000 := Nat.le_trans (Nat.pow_le_pow_left o8 _) (Nat.le_trans (Nat.pow_le_pow_right (by decide) p5) (by decide))
      refine ⟨row, shape, rfl, ?_⟩
      -- due
      refine ⟨_, rfl, _, rfl, row, shape, o, p, rfl, do3, dp3, o1, o8, p5, fun H4 due s4 hD4 => ?_⟩
      rw [WiM.law_spots hO hP] at hD4
      have R4 := R3.same s4
      have do4 := dmn s4 do3
      have dp4 := dmn s4 dp3
      obtain ⟨xd, hxd, hAd⟩ := hD4
      have hld : xd.length = (allSpots o p).length := lenO hAd
      have due4 : ∀ {H' : Hp}, Same H4 H' → LstO K H' due (allSpots o p) := fun s => ⟨xd, s _ _ hxd, dmns s hAd⟩
      refine ⟨_, rfl, _, rfl, spOP_val do4 dp4 hO hP o1 (by omega) p1 p5 (fun _ => by omega) hpow fun H5 s5 H6 l6 s6 hL6 => ⟨_, rfl, dL (allSpots o p), dL (allSpots o p), hL6.dp, (due4 (s5.trans s6)).dp, shaped_L _, shaped_L _, _, rfl, ?_⟩⟩
      rw [eqv_L, decide_eq_true rfl]
      have s46 := s5.trans s6
      refine iteF ⟨_, rfl, _, rfl, spOP_val (dmn s46 do4) (dmn s46 dp4) hO hP o1 (by omega) p1 p5 (fun _ => by omega) hpow fun H7 s7 H8 s8 => ⟨_, rfl, due, xd, rfl, .inl (.of ((s46.trans (s7.trans s8)) _ _ hxd)), rfl, _, rfl, ?_⟩⟩
      have s48 := s46.trans (s7.trans s8)
      rw [hld, decide_eq_true rfl]
      refine iteF ⟨_, rfl, _, rfl, spOP_val (dmn s48 do4) (dmn s48 dp4) hO hP o1 (by omega) p1 p5 (fun _ => by omega) hpow fun H9 s9 H10 s10 => ⟨_, rfl, Nat.zero_le _, fun e he => ⟨dL (allSpots o p), dL [], (due4 ((s48.trans (s9.trans s10)).trans (same_upd he))).dp, .lst (.of upd_same) .nil, shaped_L _, shaped_L _, rfl, _, rfl, ?_⟩⟩⟩
      rw [eqv_L, WiM.holds_iff, decide_eq_true rfl]
      have s411 := (s48.trans (s9.trans s10)).trans (same_upd (o := .lst []) he)
      refine iteF ?_
      -- isinstance
      refine ⟨_, rfl, _, rfl, spOP_val (dmn s411 do4) (dmn s411 dp4) hO hP o1 (by omega) p1 p5 (fun _ => by omega) hpow fun H12 s12 H13 s13 => ⟨_, _, _, _, _, rfl, .ty "bool", .base (.bl _), kit_bb, _, rfl, ?_⟩⟩
      have s413 := s411.trans (s12.trans s13)
      refine iteF ?_
      -- the three turnings
      refine ⟨by show 3 ≤ sizeLine; decide, fun t3 ht3 => ⟨t3, rfl, ⟨_, .of upd_same⟩, ?_⟩⟩
      refine for_tup (K := K) (xs := [.ref fo, .ref fa, .ref fv]) (fun j σ Hd => ∃ z6 : Option V, σ = [some (.ref a), some (.int c), some (.ref kg), some row, some shape, some (.ref due), z6, y7, y8, y9, y10, y11, y12, y13] ∧ Same H4 Hd ∧ SqT K Hd t3 [.ref fo, .ref fa, .ref fv])
        ⟨_, rfl, s413.trans (same_upd ht3), .of upd_same⟩ (fun j σ Hd _ h => ?_) (fun j x σ Hd hx h => ?_) (fun σ Hd h => ?_)
      · obtain ⟨_, _, _, z⟩ := h
        exact z
      · obtain ⟨z6, rfl, sd, hq3⟩ := h
        obtain ⟨ff, gg, rfl, hCt, gO, gP, lo, lp, hcnt⟩ := turn_at (K := K) hO hP hx
        refine ⟨ff, spMap K gg, rfl, hCt, _, rfl, row, o, rfl, dmn sd do4, hO, o1, by omega, fun H5 q1 s5 e5 => ⟨ff, spMap K gg, rfl, hCt, _, rfl, shape, p, rfl, dmn (sd.trans s5) dp4, hP, p1, by omega, fun H6 q2 s6 e6 =>
          spOP_val (o := gg o) (p := gg p) (dO_of (.of (s6 _ _ e5))) (dO_of (.of e6)) gO gP (by omega) (by omega) (by omega) (by omega) (fun _ => by omega) (by rw [lo, lp]; exact hpow) fun H7 s7 H8 s8 => ⟨_, rfl, due, xd, rfl, .inl (.of ((((sd.trans s5).trans s6).trans (s7.trans s8)) _ _ hxd)), rfl, _, rfl, ?_⟩⟩⟩
        rw [hcnt, hld, decide_eq_true rfl]
        have sE := ((sd.trans s5).trans s6).trans (s7.trans s8)
        exact iteF ⟨_, rfl, sE, seqT ((s5.trans s6).trans (s7.trans s8)) hq3⟩
      obtain ⟨z6, rfl, sd, _⟩ := h
      have R5 := R4.same sd
      have do5 := dmn sd do4
      -- the shapes
      obtain ⟨g5, k5, hg5, hk5⟩ := R5.kg
      refine ⟨_, rfl, kg, 2, g5, k5, rfl, by decide, by decide, hg5, hk5, fun r3 g6 k6 hg6 hr3 => ⟨1, r3, rfl, rfl, ((1 + r3 : Nat) : Int), rfl, by omega, by omega, fun D hD => ?_⟩⟩
      have uk := SameE.upd (a := kg) (H := Hd) (k := k6) hg6
      have hDk : D ≠ kg := fun z => by
        rw [z, upd_same] at hD
        cases hD
      have hDd : Hd D = none := by
        rw [upd_ne hDk] at hD
        exact hD
      refine lc_range (lo := 0) (n := ((1 + r3 : Nat) : Int).toNat) (fun k H4 => SameE kg Hd H4 ∧ ∃ os, LstO K H4 D os ∧ os.length = k ∧ ∀ p ∈ os, WiM.Ord p ∧ 1 ≤ p.length ∧ p.length ≤ 5)
        ⟨uk.same (same_upd hD), [], ⟨[], upd_same, .nil⟩, rfl, fun p hp => absurd hp (by simp)⟩ (fun k H6 hk h => ?_) (fun H6 h => ?_)
      · obtain ⟨e6, os, ⟨xs, hx1, hx2⟩, hol, hos⟩ := h
        obtain ⟨g7, k7, hg7, hk7⟩ := e6.1
        refine ⟨rfl, _, rfl, _, rfl, kg, 3, g7, k7, rfl, by decide, by decide, hg7, hk7, fun r4 g8 k8 hg8 hr4 => ⟨2, r4, rfl, rfl, kg, 2 + r4, rfl, by omega, by omega, ⟨g8, k8, hg8, upd_same⟩, fun H7 v7 o7 e7 hO7 ho7 d7 => ?_⟩⟩
        have e8 := (SameE.upd (H := H6) (k := k8) hg8).trans e7
        have hx3 : H7 D = some (.lst xs) := e8.2 _ _ hDk hx1
        refine ⟨xs, hx3, small1000 (by rw [lenO hx2]; omega), ⟨?_, fun b u nb hb => ?_⟩, os ++ [o7], ⟨xs ++ [v7], upd_same, ?_⟩, by rw [List.length_append, hol]; rfl, fun p hp => ?_⟩
        · obtain ⟨g9, k9, h9, h9'⟩ := e8.1
          exact ⟨g9, k9, h9, by rw [upd_ne (Ne.symm hDk)]; exact h9'⟩
        · have nD : b ≠ D := fun z => by
            rw [z, hDd] at hb
            cases hb
          rw [upd_ne nD]
          exact (e6.trans e8).2 b u nb hb
        · rw [List.map_append]
          exact dall_app (dOs_over hx3 (dOs_keg e6.1 e8 hx2)) (.cons (dO_over hx3 d7) .nil)
        · rcases List.mem_append.mp hp with h | h
          · exact hos p h
          · rw [List.mem_singleton] at h
            rw [h]
            exact ⟨hO7, by omega, by omega⟩
      obtain ⟨e6, os, ⟨xs, hx1, hx2⟩, hol, hos⟩ := h
      have hol' : os.length = 1 + r3 := by omega
      refine ⟨D, xs, rfl, .inl ⟨.of hx1, fun sh hsh => ?_⟩⟩
      have R6 := (R5.keg hkg e6).same (same_upd (o := .tup xs) hsh)
      have do6 := dmn (same_upd (o := .tup xs) hsh) (dO_keg R5.kg e6 do5)
      have dT6 : Dp K (upd H6 sh (.tup xs)) (.ref sh) (dT os) := .tup (.of upd_same) (dmns (same_upd hsh) hx2)
      -- how many, and which
      obtain ⟨g7, k7, hg7, hk7⟩ := R6.kg
      refine ⟨_, rfl, kg, 4, g7, k7, rfl, by decide, by decide, hg7, hk7, fun r4 g8 k8 hg8 hr4 => ⟨1, r4, rfl, rfl, ?_⟩⟩
      have e8 := SameE.upd (a := kg) (H := upd H6 sh (.tup xs)) (k := k8) hg8
      have R7 := R6.keg hkg e8
      have do7 := dO_keg R6.kg e8 do6
      have dT7 : Dp K (upd (upd H6 sh (.tup xs)) kg (.lst [.int g8, .int k8])) (.ref sh) (dT os) := by
        obtain ⟨ap, ws, e, T9, A9⟩ := dT_inv dT6
        rw [e]
        exact .tup (seqT_keg R6.kg e8 T9) (dOs_keg R6.kg e8 A9)
      have hosO : ∀ p ∈ os, WiM.Ord p := fun p hp => (hos p hp).1
      refine ⟨_, rfl, _, rfl, 1 + r4, .ref sh, os, rfl, by omega, by omega, dT7, by omega, fun p hp => (hos p hp).2.2, fun H8 some1 s8 hSo => ?_⟩
      have R8 := R7.same s8
      have do8 := dmn s8 do7
      have dT8 := dmn s8 dT7
      obtain ⟨xo, hxo, hAo⟩ := hSo
      have hlo : xo.length = (lawWithout (1 + r4) os).length := lenO hAo
      have so8 : ∀ {H' : Hp}, Same H8 H' → LstO K H' some1 (lawWithout (1 + r4) os) := fun s => ⟨xo, s _ _ hxo, dmns s hAo⟩
      have h64 : (gAt os (1 + r4)).length < 64 := WiM.gAt_small (by omega)
      have hcw : (gAt os (1 + r4)).length = (lawWithout (1 + r4) os).length := (WiM.without_perm hosO (by omega)).length_eq.symm
      refine ⟨_, rfl, _, rfl, spMP_val (m := 1 + r4) dT8 hos (by omega) (by omega) (by omega) (by omega) (by decide) h64 fun H9 s9 H10 l10 us s10 hL10 hp10 hw10 => ⟨_, rfl, dL us, dL (lawWithout (1 + r4) os), hL10.dp, (so8 (s9.trans s10)).dp, shaped_L _, shaped_L _, _, rfl, ?_⟩⟩
      rw [us_eq hosO hp10 hw10 (by omega) (by omega), eqv_L, decide_eq_true rfl]
      have s810 := s9.trans s10
      refine iteF ⟨_, rfl, _, rfl, spMP_val (m := 1 + r4) (dmn s810 dT8) hos (by omega) (by omega) (by omega) (by omega) (by decide) h64 fun H11 s11 H12 s12 => ⟨_, rfl, some1, xo, rfl, .inl (.of ((s810.trans (s11.trans s12)) _ _ hxo)), rfl, _, rfl, ?_⟩⟩
      have s812 := s810.trans (s11.trans s12)
      rw [hlo, hcw, decide_eq_true rfl]
      refine iteF ?_
      -- the opposite ones
      obtain ⟨ap, ws, eap, T12, A12⟩ := dT_inv (dmn s812 dT8)
      cases eap
      refine ⟨_, rfl, _, rfl, sh, rfl, ⟨_, T12⟩, fun D2 hD2 => ?_⟩
      refine lc_tup (K := K) (xs := ws) (fun k H13 => Same H12 H13 ∧ LstO K H13 D2 ((os.map inv).take k)) ⟨same_upd hD2, [], upd_same, by rw [List.take_zero]; exact .nil⟩ (fun k H13 _ h => seqT h.1 T12) (fun k x H13 hx13 h => ?_) (fun H13 h => ?_)
      · obtain ⟨s13, xe, he1, he2⟩ := h
        obtain ⟨p9, hp9, dp9⟩ := dOs_get (dmns s13 A12) hx13
        obtain ⟨q1, q2, q3⟩ := hos p9 (List.mem_of_getElem? hp9)
        have hk9 : k < os.length := (List.getElem?_eq_some_iff.mp hp9).1
        refine ⟨rfl, _, rfl, _, p9, rfl, dp9, q1, q2, by omega, fun H14 pz s14 ez => ?_⟩
        have he3 := s14 _ _ he1
        refine ⟨xe, he3, ?_, over hD2 (s13.trans s14), xe ++ [.ref pz], upd_same, ?_⟩
        · rw [lenO he2, List.length_take]
          exact small1000 (by omega)
        · rw [take_snoc inv hp9, List.map_append]
          exact dall_app (dOs_over he3 (dmns s14 he2)) (.cons (dO_over he3 (dO_of (.of ez))) .nil)
      obtain ⟨s13, hL13⟩ := h
      rw [lenO A12, List.take_of_length_le (by rw [List.length_map]; exact Nat.le_refl _)] at hL13
      obtain ⟨xe, he1, he2⟩ := hL13
      refine ⟨D2, xe, rfl, .inl ⟨.of he1, fun si hsi => ?_⟩⟩
      have s14 := same_upd (o := .tup xe) hsi
      refine spMP_val (m := 1 + r4) (ps := os.map inv) (.tup (.of upd_same) (dmns s14 he2)) (fun p hp => ?_) (by rw [List.length_map]; omega) (by rw [List.length_map]; omega) (by omega) (by omega) (by decide) (WiM.gAt_small (by omega)) fun H15 s15 H16 s16 => ⟨_, rfl, some1, xo, rfl, .inl (.of ((((s812.trans s13).trans s14).trans (s15.trans s16)) _ _ hxo)), rfl, _, rfl, ?_⟩
      · obtain ⟨p9, hp9, rfl⟩ := List.mem_map.mp hp
        obtain ⟨q1, q2, q3⟩ := hos p9 hp9
        rw [WiM.inv_len]
        exact ⟨WiM.ord_inv q1, q2, q3⟩
      rw [hlo, WiM.gAt_inv hosO (by omega), hcw, decide_eq_true rfl]
      have s816 := ((s812.trans s13).trans s14).trans (s15.trans s16)
      have R9 := R8.same s816
      refine iteF ?_
      -- the refused ones
      refine ⟨_, rfl, row, o, rfl, dmn s816 do8, hO, o1, o8, R9.tab, fun H17 e17 t17 => ⟨_, rfl, ?_⟩⟩
      refine iteF ?_
      have R10 := R9.lam e17 t17
      exact ⟨_, _, _, _, _, _, _, _, _, _, _, _, _, rfl, t17, ext_lst R10.ext hl⟩
    · obtain ⟨y1, y2, y3, y4, y5, y6, y7, y8, y9, y10, y11, y12, y13, rfl, tT, _⟩ := h
      -- the known one
      refine ⟨rfl, fun H1 lk s1 hL => ?_⟩
      obtain ⟨xk, hk1, hk2⟩ := hL
      obtain ⟨v4, hv4, dv4⟩ : ∃ v4, xk[3]? = some v4 ∧ Dp K H1 v4 (dO [3, 0, 4, 1, 2]) := by
        have hl : xk.length = 4 := lenO hk2
        have hx : xk[3]? = some (xk[3]'(by omega)) := List.getElem?_eq_getElem (by omega)
        obtain ⟨o, ho, d⟩ := dOs_get hk2 hx
        cases ho
        exact ⟨_, hx, d⟩
      refine ⟨lk, xk, 3, v4, rfl, rfl, .of hk1, atI_nat hv4, ?_⟩
      have O1 : WiM.Ord [3, 0, 4, 1, 2] := WiM.ord_dec (by decide)
      refine ⟨_, rfl, by show 3 ≤ sizeLine; decide, fun ta hta => spOP_val (p := [1, 0, 2]) (dmn (same_upd hta) dv4) (dO_of (.of upd_same)) O1 (WiM.ord_dec (by decide)) (by decide) (by decide) (by decide) (by decide) (fun _ => by decide) (by decide) fun H2 s2 H3 l3' s3 hL3 => ⟨by show 3 ≤ sizeLine; decide, fun tb htb => ⟨by show 1 ≤ sizeLine; decide, fun lb hlb => ?_⟩⟩⟩
      have z1 := (same_upd (o := .tup (vN [1, 0, 2])) hta).trans (s2.trans s3)
      have z2 := (same_upd (o := .tup (vN [0, 1, 2])) htb).trans (same_upd (o := .lst [.ref tb]) hlb)
      refine ⟨dL (allSpots [3, 0, 4, 1, 2] [1, 0, 2]), dL [[0, 1, 2]], (hL3.mono z2).dp, .lst (.of upd_same) (.cons (dO_of (o := [0, 1, 2]) (.of (same_upd hlb _ _ upd_same))) .nil), shaped_L _, shaped_L _, _, rfl, ?_⟩
      rw [eqv_L, WiM.last_spots, decide_eq_true rfl]
      have z3 := z1.trans z2
      refine iteF ⟨_, rfl, by show 2 ≤ sizeLine; decide, fun tc htc => spOP_val (p := [0, 1]) (dmn (z3.trans (same_upd htc)) dv4) (dO_of (.of upd_same)) O1 (WiM.ord_dec (by decide)) (by decide) (by decide) (by decide) (by decide) (fun _ => by decide) (by decide) fun H4 s4 H5 s5 => ⟨rfl, _, rfl, ?_⟩⟩
      rw [WiM.last_count]
      have z4 := (z3.trans (same_upd (o := .tup (vN [0, 1])) htc)).trans (s4.trans s5)
      refine iteF ⟨_, rfl, by show 3 ≤ sizeLine; decide, fun td htd => spOP_val (p := [0, 1, 2]) (dmn (z4.trans (same_upd htd)) dv4) (dO_of (.of upd_same)) O1 (WiM.ord_dec (by decide)) (by decide) (by decide) (by decide) (by decide) (fun z => nomatch z) (by decide) fun H6 s6 H7 s7 => ⟨_, rfl, ?_⟩⟩
      rw [WiM.last_up]
      have z5 := (z4.trans (same_upd (o := .tup (vN [0, 1, 2])) htd)).trans (s6.trans s7)
      refine iteF ?_
      -- the plain one
      refine ⟨30, rfl, .of_le (by decide) (by decide) (by decide) (by decide), fun tp htp => ?_⟩
      have z6 := z5.trans (same_upd (o := .tup (vN (List.range 30))) htp)
      have dp6 : ∀ {H' : Hp}, Same (upd H7 tp (.tup (vN (List.range 30)))) H' → Dp K H' (.ref tp) (dO (List.range 30)) := fun s => dO_of (.of (s _ _ upd_same))
      refine ⟨_, rfl, by show 3 ≤ sizeLine; decide, fun te hte => spOP_val (p := [2, 1, 0]) (dmn (z6.trans (same_upd hte)) dv4) (dO_of (.of upd_same)) O1 (WiM.ord_dec (by decide)) (by decide) (by decide) (by decide) (by decide) (fun z => nomatch z) (by decide) fun H8 s8 H9 s9 => ⟨_, rfl, ?_⟩⟩
      rw [WiM.last_down]
      have w1 := (same_upd (o := .tup (vN [2, 1, 0])) hte).trans (s8.trans s9)
      refine iteF ⟨_, rfl, by show 2 ≤ sizeLine; decide, fun tf htf => spOP_val (o := List.range 30) (p := [1, 0]) (dp6 (w1.trans (same_upd htf))) (dO_of (.of upd_same)) (ord_range 30) (WiM.ord_dec (by decide)) (by decide) (by decide) (by decide) (by decide) (fun z => nomatch z) (by decide) fun H10 s10 H11 s11 => ⟨_, rfl, ?_⟩⟩
      rw [WiM.plain_down]
      have w2 := (w1.trans (same_upd (o := .tup (vN [1, 0])) htf)).trans (s10.trans s11)
      refine iteF ⟨_, rfl, by show 2 ≤ sizeLine; decide, fun tg htg => spOP_val (o := List.range 30) (p := [0, 1]) (dp6 (w2.trans (same_upd htg))) (dO_of (.of upd_same)) (ord_range 30) (WiM.ord_dec (by decide)) (by decide) (by decide) (by decide) (by decide) (fun z => nomatch z) (by decide) fun H12 s12 H13 s13 => ⟨_, rfl, ?_⟩⟩
      rw [WiM.plain_up]
      refine iteF ?_
      -- the counts
      refine ⟨by show 3 ≤ sizeLine; decide, fun th hth => ⟨th, rfl, ⟨_, .of upd_same⟩, fun D hD => ?_⟩⟩
      refine lc_tup (K := K) (xs := vN [3, 4, 5]) (fun k H14 => SqT K H14 th (vN [3, 4, 5]) ∧ H14 D = some (.lst (vN ((([3, 4, 5] : List Nat).map WiM.pairF).take k)))) ⟨seqT (same_upd hD) (.of upd_same), by rw [upd_same]; rfl⟩ (fun k H14 _ h => h.1) (fun k x H14 hx14 h => ?_) (fun H14 h => ?_)
      · obtain ⟨q1, q2⟩ := h
        obtain ⟨m, hm, rfl⟩ := vN_get hx14
        obtain ⟨m64, m1, m7⟩ := WiM.pair_small m (List.mem_of_getElem? hm)
        have hk3 : k < 3 := (List.getElem?_eq_some_iff.mp hm).1
        refine ⟨rfl, _, rfl, by show 3 ≤ sizeLine; decide, fun ua hua => ⟨by show 3 ≤ sizeLine; decide, fun ub hub => ⟨by show 2 ≤ sizeLine; decide, fun uc huc => spMP_val (m := m) (ps := WiM.pairP) (.tup (.of upd_same) (.cons (dO_of (o := [0, 1, 2]) (.of (((same_upd hub).trans (same_upd huc)) _ _ upd_same))) (.cons (dO_of (o := [2, 1, 0]) (.of (same_upd huc _ _ upd_same))) .nil)))
          (fun p hp => ?_) (by decide) (by decide) m1 m7 (by decide) m64 fun H15 s15 H16 s16 => ?_⟩⟩⟩
        · unfold WiM.pairP at hp
          simp only [List.mem_cons, List.not_mem_nil, or_false] at hp
          rcases hp with rfl | rfl
          · exact ⟨WiM.ord_dec (by decide), by decide, by decide⟩
          · exact ⟨WiM.ord_dec (by decide), by decide, by decide⟩
        · have sE := (((same_upd (o := .tup (vN [0, 1, 2])) hua).trans (same_upd (o := .tup (vN [2, 1, 0])) hub)).trans (same_upd (o := .tup [.ref ua, .ref ub]) huc)).trans (s15.trans s16)
          have q3 := sE _ _ q2
          refine ⟨_, q3, ?_, seqT_over q3 (seqT sE q1), ?_⟩
          · rw [vN_len, List.length_take]
            exact small1000 (by omega)
          · rw [upd_same, take_snoc WiM.pairF hm, vN_app]
            rfl
      obtain ⟨q1, q2⟩ := h
      rw [WiM.pair_counts] at q2
      refine ⟨by show 3 ≤ sizeLine; decide, fun lz hlz => ⟨dN [4, 4, 0], dN [4, 4, 0], .lst (.of (same_upd hlz _ _ q2)) (dall_ints _), .lst (.of upd_same) (dall_ints [4, 4, 0]), by decide +kernel, by decide +kernel, ?_⟩⟩
      rw [show PyData.eqv (dN [4, 4, 0]) (dN [4, 4, 0]) = true by decide +kernel]
      exact q _
end
end Wp
end

section
set_option Elab.async false
set_option linter.all false
set_option maxRecDepth 100000
set_option maxHeartbeats 4000000
/-! All the promises from where the defs stand. -/
namespace Wp
open PySem PySem.Spec PyProof.Rows L2 L2H LamX Wq
open WiM (inv turn)
structure DefIn (K : PySem.W.Frag) (mg : Str → Option Value) (x : Str) (st : Stmt) : Prop where
  ex : ∃ (f : Addr) (fd : FuncData), Fun K x x st f fd ∧ mg x = some (.ref f)
theorem build {P : Program} {w : World} {K : PySem.W.Frag} {mg : Str → Option Value} {base : Heap} {A : Ad} {c Pt f : Addr} {fd : FuncData} (N : Nm mg) (T : Ers P K mg A) (I : IsF K mg A) (gb : mg "OrderError" = some (.ref A.b)) (exm : ∀ er : Er, PySem.W.exmOne K (.ref (A.at er)) (.ref A.b) = some true)
    (d_is_whole : DefIn K mg "is_whole" sIsWhole) (d_fits_order : DefIn K mg "fits_order" sFits) (d_opposite_of : DefIn K mg "opposite_of" sOppOf) (d_need_order : DefIn K mg "need_order" sNeedOrder) (d_need_many : DefIn K mg "need_many" sNeedMany) (d_need_few : DefIn K mg "need_few" sNeedFew) (d_opposite : DefIn K mg "opposite" sOpp) (d_turned_about : DefIn K mg "turned_about" sAbout) (d_turned_over : DefIn K mg "turned_over" sOver) (d_fits_pattern : DefIn K mg "fits_pattern" sFitsP) (d_goes_on : DefIn K mg "goes_on" sGoes) (d_all_spots : DefIn K mg "all_spots" sAllSpots) (d_holds : DefIn K mg "holds" sHolds) (d_grown_without : DefIn K mg "grown_without" sGrown) (d_all_without : DefIn K mg "all_without" sAllW) (d_need_pattern : DefIn K mg "need_pattern" sNeedP) (d_need_patterns : DefIn K mg "need_patterns" sNeedPs) (d_spots : DefIn K mg "spots" sSpots) (d_count_spots : DefIn K mg "count_spots" sCount) (d_has_pattern : DefIn K mg "has_pattern" sHas) (d_orders_without : DefIn K mg "orders_without" sOrdW) (d_count_without : DefIn K mg "count_without" sCountW) (d__law_drum : DefIn K mg "_law_drum" sDrum) (d__law_roll : DefIn K mg "_law_roll" sRoll) (d__law_order : DefIn K mg "_law_order" sOrder) (d__law_all : DefIn K mg "_law_all" sAll) (d__law_known : DefIn K mg "_law_known" sKnown) (d__law_names : DefIn K mg "_law_names" sNames) (d__law_error : DefIn K mg "_law_error" sError) (d__law_spots : DefIn K mg "_law_spots" sLSpots) (d__law_like : DefIn K mg "_law_like" sLike) (d__law_without : DefIn K mg "_law_without" sWithout)
    (dr : ∃ (f : Addr) (fd : FuncData), FunC K "_law_refused" "_law_refused" sRefused f fd c ∧ mg "_law_refused" = some (.ref f)) (TB : TabB base mg c Pt) (FL : Fun K "law" "law" sLaw f fd) : FnOk P w K mg base CX0 10 f fd ["_law_script"] (spLaw K Pt) := by
  have e_is_whole : Df P w K mg base CX0 1 "is_whole" ["value", "low", "high"] spWhole := by
    obtain ⟨f, fd, F, m⟩ := d_is_whole.ex
    exact ⟨f, fd, ok_whole F N, m, F.kp, F.binds (fun _ _ _ _ _ _ us hl => match us, hl with | [_, _, _], _ => rfl)⟩
  have e_fits_order : Df P w K mg base CX0 2 "fits_order" ["value"] (spFits K) := by
    obtain ⟨f, fd, F, m⟩ := d_fits_order.ex
    exact ⟨f, fd, ok_fits F N e_is_whole, m, F.kp, F.binds (fun _ _ _ _ _ _ us hl => match us, hl with | [_], _ => rfl)⟩
  have e_opposite_of : Df P w K mg base CX0 1 "opposite_of" ["order"] (spMap K inv) := by
    obtain ⟨f, fd, F, m⟩ := d_opposite_of.ex
    exact ⟨f, fd, ok_oppOf F N, m, F.kp, F.binds (fun _ _ _ _ _ _ us hl => match us, hl with | [_], _ => rfl)⟩
  have e_need_order : Df P w K mg base (L2N.CX P w) 3 "need_order" ["value"] (spNeedA K A .ord fO) := by
    obtain ⟨f, fd, F, m⟩ := d_need_order.ex
    exact ⟨f, fd, ok_needO F T e_fits_order, m, F.kp, F.binds (fun _ _ _ _ _ _ us hl => match us, hl with | [_], _ => rfl)⟩
  have e_need_many : Df P w K mg base (L2N.CX P w) 2 "need_many" ["value"] (spNeedM A) := by
    obtain ⟨f, fd, F, m⟩ := d_need_many.ex
    exact ⟨f, fd, ok_needM F T N e_is_whole, m, F.kp, F.binds (fun _ _ _ _ _ _ us hl => match us, hl with | [_], _ => rfl)⟩
  have e_need_few : Df P w K mg base (L2N.CX P w) 2 "need_few" ["many", "limit"] (spNeedF A) := by
    obtain ⟨f, fd, F, m⟩ := d_need_few.ex
    exact ⟨f, fd, ok_needF F T, m, F.kp, F.binds (fun _ _ _ _ _ _ us hl => match us, hl with | [_, _], _ => rfl)⟩
  have e_opposite : Df P w K mg base (L2N.CX P w) 4 "opposite" ["order"] (spMap K inv) := by
    obtain ⟨f, fd, F, m⟩ := d_opposite.ex
    exact ⟨f, fd, ok_opp F e_need_order e_opposite_of, m, F.kp, F.binds (fun _ _ _ _ _ _ us hl => match us, hl with | [_], _ => rfl)⟩
  have e_turned_about : Df P w K mg base (L2N.CX P w) 4 "turned_about" ["order"] (spMap K List.reverse) := by
    obtain ⟨f, fd, F, m⟩ := d_turned_about.ex
    exact ⟨f, fd, ok_about F e_need_order, m, F.kp, F.binds (fun _ _ _ _ _ _ us hl => match us, hl with | [_], _ => rfl)⟩
  have e_turned_over : Df P w K mg base (L2N.CX P w) 4 "turned_over" ["order"] (spMap K turn) := by
    obtain ⟨f, fd, F, m⟩ := d_turned_over.ex
    exact ⟨f, fd, ok_over F N e_need_order, m, F.kp, F.binds (fun _ _ _ _ _ _ us hl => match us, hl with | [_], _ => rfl)⟩
  have e_fits_pattern : Df P w K mg base CX0 3 "fits_pattern" ["value"] (spFitsP K) := by
    obtain ⟨f, fd, F, m⟩ := d_fits_pattern.ex
    exact ⟨f, fd, ok_fitsP F N e_fits_order, m, F.kp, F.binds (fun _ _ _ _ _ _ us hl => match us, hl with | [_], _ => rfl)⟩
  have e_goes_on : Df P w K mg base CX0 1 "goes_on" ["order", "places", "place", "pattern"] (spGoes K) := by
    obtain ⟨f, fd, F, m⟩ := d_goes_on.ex
    exact ⟨f, fd, ok_goes F N, m, F.kp, F.binds (fun _ _ _ _ _ _ us hl => match us, hl with | [_, _, _, _], _ => rfl)⟩
  have e_all_spots : Df P w K mg base CX0 2 "all_spots" ["order", "pattern"] (spAllSpots K) := by
    obtain ⟨f, fd, F, m⟩ := d_all_spots.ex
    exact ⟨f, fd, ok_allSpots F N e_goes_on, m, F.kp, F.binds (fun _ _ _ _ _ _ us hl => match us, hl with | [_, _], _ => rfl)⟩
  have e_holds : Df P w K mg base CX0 3 "holds" ["order", "pattern"] (spHolds K) := by
    obtain ⟨f, fd, F, m⟩ := d_holds.ex
    exact ⟨f, fd, ok_holds F N e_all_spots, m, F.kp, F.binds (fun _ _ _ _ _ _ us hl => match us, hl with | [_, _], _ => rfl)⟩
  have e_grown_without : Df P w K mg base CX0 4 "grown_without" ["some", "patterns"] (spGrown K) := by
    obtain ⟨f, fd, F, m⟩ := d_grown_without.ex
    exact ⟨f, fd, ok_grown F N e_holds, m, F.kp, F.binds (fun _ _ _ _ _ _ us hl => match us, hl with | [_, _], _ => rfl)⟩
  have e_all_without : Df P w K mg base CX0 5 "all_without" ["many", "patterns"] (spAllW K) := by
    obtain ⟨f, fd, F, m⟩ := d_all_without.ex
    exact ⟨f, fd, ok_allW F N e_grown_without, m, F.kp, F.binds (fun _ _ _ _ _ _ us hl => match us, hl with | [_, _], _ => rfl)⟩
  have e_need_pattern : Df P w K mg base (L2N.CX P w) 4 "need_pattern" ["value"] (spNeedA K A .pat fP) := by
    obtain ⟨f, fd, F, m⟩ := d_need_pattern.ex
    exact ⟨f, fd, ok_needP F T e_fits_pattern, m, F.kp, F.binds (fun _ _ _ _ _ _ us hl => match us, hl with | [_], _ => rfl)⟩
  have e_need_patterns : Df P w K mg base (L2N.CX P w) 4 "need_patterns" ["value"] (spNeedPs K A) := by
    obtain ⟨f, fd, F, m⟩ := d_need_patterns.ex
    exact ⟨f, fd, ok_needPs F T N e_fits_pattern, m, F.kp, F.binds (fun _ _ _ _ _ _ us hl => match us, hl with | [_], _ => rfl)⟩
  have ee : Dfs P w K mg base A := ⟨e_need_order, e_need_pattern, e_need_patterns, e_need_few, e_need_many, e_all_spots, e_holds, e_all_without⟩
  have e_spots : Df P w K mg base (L2N.CX P w) 5 "spots" ["order", "pattern"] (spOP K A true (rSpots K)) := by
    obtain ⟨f, fd, F, m⟩ := d_spots.ex
    exact ⟨f, fd, ok_spots F N ee, m, F.kp, F.binds (fun _ _ _ _ _ _ us hl => match us, hl with | [_, _], _ => rfl)⟩
  have e_count_spots : Df P w K mg base (L2N.CX P w) 5 "count_spots" ["order", "pattern"] (spOP K A true rCount) := by
    obtain ⟨f, fd, F, m⟩ := d_count_spots.ex
    exact ⟨f, fd, ok_count F N ee, m, F.kp, F.binds (fun _ _ _ _ _ _ us hl => match us, hl with | [_, _], _ => rfl)⟩
  have e_has_pattern : Df P w K mg base (L2N.CX P w) 5 "has_pattern" ["order", "pattern"] (spOP K A false rHas) := by
    obtain ⟨f, fd, F, m⟩ := d_has_pattern.ex
    exact ⟨f, fd, ok_has F N ee, m, F.kp, F.binds (fun _ _ _ _ _ _ us hl => match us, hl with | [_, _], _ => rfl)⟩
  have e_orders_without : Df P w K mg base (L2N.CX P w) 6 "orders_without" ["many", "patterns"] (spMP K A 6 (rOrdW K)) := by
    obtain ⟨f, fd, F, m⟩ := d_orders_without.ex
    exact ⟨f, fd, ok_ordW F N ee, m, F.kp, F.binds (fun _ _ _ _ _ _ us hl => match us, hl with | [_, _], _ => rfl)⟩
  have e_count_without : Df P w K mg base (L2N.CX P w) 6 "count_without" ["many", "patterns"] (spMP K A 7 rCountW) := by
    obtain ⟨f, fd, F, m⟩ := d_count_without.ex
    exact ⟨f, fd, ok_countW F N ee, m, F.kp, F.binds (fun _ _ _ _ _ _ us hl => match us, hl with | [_, _], _ => rfl)⟩
  have e__law_drum : Df P w K mg base CX0 1 "_law_drum" ["_law_cell", "_law_turn"] spDrum := by
    obtain ⟨f, fd, F, m⟩ := d__law_drum.ex
    exact ⟨f, fd, ok_drum F N, m, F.kp, F.binds (fun _ _ _ _ _ _ us hl => match us, hl with | [_, _], _ => rfl)⟩
  have e__law_roll : Df P w K mg base CX0 1 "_law_roll" ["_law_keg", "_law_many"] spRoll := by
    obtain ⟨f, fd, F, m⟩ := d__law_roll.ex
    exact ⟨f, fd, ok_roll F N, m, F.kp, F.binds (fun _ _ _ _ _ _ us hl => match us, hl with | [_, _], _ => rfl)⟩
  have e__law_order : Df P w K mg base CX0 2 "_law_order" ["_law_keg", "_law_many"] (spLOrder K) := by
    obtain ⟨f, fd, F, m⟩ := d__law_order.ex
    exact ⟨f, fd, ok_lorder F N e__law_roll, m, F.kp, F.binds (fun _ _ _ _ _ _ us hl => match us, hl with | [_, _], _ => rfl)⟩
  have e__law_all : Df P w K mg base CX0 1 "_law_all" ["_law_many"] (spLAll K) := by
    obtain ⟨f, fd, F, m⟩ := d__law_all.ex
    exact ⟨f, fd, ok_lall F N, m, F.kp, F.binds (fun _ _ _ _ _ _ us hl => match us, hl with | [_], _ => rfl)⟩
  have e__law_known : Df P w K mg base CX0 1 "_law_known" [] (spKnown K) := by
    obtain ⟨f, fd, F, m⟩ := d__law_known.ex
    exact ⟨f, fd, ok_known F, m, F.kp, F.binds (fun _ _ _ _ _ _ us hl => match us, hl with | [], _ => rfl)⟩
  have e__law_like : Df P w K mg base CX0 1 "_law_like" ["_law_things_so", "_law_shape"] (spLike K) := by
    obtain ⟨f, fd, F, m⟩ := d__law_like.ex
    exact ⟨f, fd, ok_like F N, m, F.kp, F.binds (fun _ _ _ _ _ _ us hl => match us, hl with | [_, _], _ => rfl)⟩
  have e__law_spots : Df P w K mg base CX0 2 "_law_spots" ["_law_row", "_law_shape"] (spLSpots K) := by
    obtain ⟨f, fd, F, m⟩ := d__law_spots.ex
    exact ⟨f, fd, ok_lspots F N e__law_like, m, F.kp, F.binds (fun _ _ _ _ _ _ us hl => match us, hl with | [_, _], _ => rfl)⟩
  have e__law_without : Df P w K mg base CX0 3 "_law_without" ["_law_many", "_law_shapes"] (spWithout K) := by
    obtain ⟨f, fd, F, m⟩ := d__law_without.ex
    exact ⟨f, fd, ok_without F N e__law_all e__law_spots, m, F.kp, F.binds (fun _ _ _ _ _ _ us hl => match us, hl with | [_, _], _ => rfl)⟩
  have dp : DfP P w K mg base A := ⟨e_spots, e_count_spots, e_has_pattern, e_orders_without, e_count_without⟩
  have er : ErrF P w K mg base A := by
    obtain ⟨f, fd, F, m⟩ := d__law_names.ex
    exact ⟨⟨f, fd, ok_names F N I, m, F.kp, F.binds (fun _ _ _ _ _ _ us hl => match us, hl with | [_], _ => rfl)⟩, gb, exm⟩
  have lf : LamF P w K mg base A c Pt := by
    obtain ⟨f, fd, F, m⟩ := d__law_error.ex
    exact ⟨er, ⟨f, fd, F, m, F.binds (fun _ _ _ _ _ _ us hl => match us, hl with | [_], _ => rfl)⟩, TB⟩
  have e_ref : Df P w K mg base CX0 9 "_law_refused" ["_law_row"] (spRefused K Pt) := by
    obtain ⟨f, fd, F, m⟩ := dr
    exact ⟨f, fd, ok_refused F N lf dp, m, F.kp, F.fn.binds (fun _ _ _ _ _ _ us hl => match us, hl with | [_], _ => rfl)⟩
  exact ok_law FL N ⟨e__law_drum, e__law_roll, e__law_order, e__law_spots, e__law_without, e__law_known, e_ref, e_opposite, e_turned_about, e_turned_over⟩ dp
end Wp
end

section
set_option Elab.async false
set_option linter.all false
set_option maxRecDepth 100000
set_option maxHeartbeats 4000000
/-! The facts, and the law's end. -/
namespace Wp
open PySem PySem.Spec PySem.W PyProof.Rows L2 L2H LamX Wq
abbrev rwL : OpenLaw := PySem.Challenge.rw_wiredorders_k66_whole_patterns_in_orders
abbrev rwP : Program := rwL.prog
theorem lookup_no {K : Frag} {a : Addr} (h : a ∉ K.map (·.1)) : K.lookup a = none := by
  induction K with
  | nil => rfl
  | cons p K ih =>
    rw [List.map_cons, List.mem_cons, not_or] at h
    have e : (a == p.1) = false := by
      rw [beq_eq_false_iff_ne]
      exact h.1
    show (match a == p.1 with | true => some p.2 | false => K.lookup a) = none
    rw [e]
    exact ih h.2
theorem fin {w : World} {K : Frag} {mg : Str → Option Value} {fa : Addr} {h : Heap} (X : K.In h) (G : h.Ns mainGlobals mg) (hmg : mg "law" = some (.ref fa))
    {tkT : Tok}
    {A_o A_m A_n A_w A_p A_ps A_pl A_t A_b : Addr}
    {nm q : Str} {N9 : Addr} {bs bm9 : List Value} {sn : List Str} {sub : List Value} {ab : Bool} {col : Option Bool} {dd : Option Addr} {m0 m1 m2 m3 m5 : Option Value} {fI cda cc : Addr}
    {oc1 doc1 pm1 ct1 ccl cl : Value} {od1 an1 cdd cld : Option Addr} {osl1 ccs csl : Array (Option Value)} {vs9 : Array Value} {file : Str} {tf : Tok}
    {f0 : Addr} {oc0_ kV0 dc0 pm0_ cd0 ct0_ : Value} {od0_ an0_ : Option Addr} {sl0 : Array (Option Value)}
    {f1 : Addr} {oc1_ kV1 dc1 pm1_ cd1 ct1_ : Value} {od1_ an1_ : Option Addr} {sl1 : Array (Option Value)}
    {f2 : Addr} {oc2_ kV2 dc2 pm2_ cd2 ct2_ : Value} {od2_ an2_ : Option Addr} {sl2 : Array (Option Value)}
    {f3 : Addr} {oc3_ kV3 dc3 pm3_ cd3 ct3_ : Value} {od3_ an3_ : Option Addr} {sl3 : Array (Option Value)}
    {f4 : Addr} {oc4_ kV4 dc4 pm4_ cd4 ct4_ : Value} {od4_ an4_ : Option Addr} {sl4 : Array (Option Value)}
    {f5 : Addr} {oc5_ kV5 dc5 pm5_ cd5 ct5_ : Value} {od5_ an5_ : Option Addr} {sl5 : Array (Option Value)}
    {f6 : Addr} {oc6_ kV6 dc6 pm6_ cd6 ct6_ : Value} {od6_ an6_ : Option Addr} {sl6 : Array (Option Value)}
    {f7 : Addr} {oc7_ kV7 dc7 pm7_ cd7 ct7_ : Value} {od7_ an7_ : Option Addr} {sl7 : Array (Option Value)}
    {f8 : Addr} {oc8_ kV8 dc8 pm8_ cd8 ct8_ : Value} {od8_ an8_ : Option Addr} {sl8 : Array (Option Value)}
    {f9 : Addr} {oc9_ kV9 dc9 pm9_ cd9 ct9_ : Value} {od9_ an9_ : Option Addr} {sl9 : Array (Option Value)}
    {f10 : Addr} {oc10_ kV10 dc10 pm10_ cd10 ct10_ : Value} {od10_ an10_ : Option Addr} {sl10 : Array (Option Value)}
    {f11 : Addr} {oc11_ kV11 dc11 pm11_ cd11 ct11_ : Value} {od11_ an11_ : Option Addr} {sl11 : Array (Option Value)}
    {f12 : Addr} {oc12_ kV12 dc12 pm12_ cd12 ct12_ : Value} {od12_ an12_ : Option Addr} {sl12 : Array (Option Value)}
    {f13 : Addr} {oc13_ kV13 dc13 pm13_ cd13 ct13_ : Value} {od13_ an13_ : Option Addr} {sl13 : Array (Option Value)}
    {f14 : Addr} {oc14_ kV14 dc14 pm14_ cd14 ct14_ : Value} {od14_ an14_ : Option Addr} {sl14 : Array (Option Value)}
    {f15 : Addr} {oc15_ kV15 dc15 pm15_ cd15 ct15_ : Value} {od15_ an15_ : Option Addr} {sl15 : Array (Option Value)}
    {f16 : Addr} {oc16_ kV16 dc16 pm16_ cd16 ct16_ : Value} {od16_ an16_ : Option Addr} {sl16 : Array (Option Value)}
    {f17 : Addr} {oc17_ kV17 dc17 pm17_ cd17 ct17_ : Value} {od17_ an17_ : Option Addr} {sl17 : Array (Option Value)}
    {f18 : Addr} {oc18_ kV18 dc18 pm18_ cd18 ct18_ : Value} {od18_ an18_ : Option Addr} {sl18 : Array (Option Value)}
    {f19 : Addr} {oc19_ kV19 dc19 pm19_ cd19 ct19_ : Value} {od19_ an19_ : Option Addr} {sl19 : Array (Option Value)}
    {f20 : Addr} {oc20_ kV20 dc20 pm20_ cd20 ct20_ : Value} {od20_ an20_ : Option Addr} {sl20 : Array (Option Value)}
    {f21 : Addr} {oc21_ kV21 dc21 pm21_ cd21 ct21_ : Value} {od21_ an21_ : Option Addr} {sl21 : Array (Option Value)}
    {f22 : Addr} {oc22_ kV22 dc22 pm22_ cd22 ct22_ : Value} {od22_ an22_ : Option Addr} {sl22 : Array (Option Value)}
    {f23 : Addr} {oc23_ kV23 dc23 pm23_ cd23 ct23_ : Value} {od23_ an23_ : Option Addr} {sl23 : Array (Option Value)}
    {f24 : Addr} {oc24_ kV24 dc24 pm24_ cd24 ct24_ : Value} {od24_ an24_ : Option Addr} {sl24 : Array (Option Value)}
    {f25 : Addr} {oc25_ kV25 dc25 pm25_ cd25 ct25_ : Value} {od25_ an25_ : Option Addr} {sl25 : Array (Option Value)}
    {f26 : Addr} {oc26_ kV26 dc26 pm26_ cd26 ct26_ : Value} {od26_ an26_ : Option Addr} {sl26 : Array (Option Value)}
    {f27 : Addr} {oc27_ kV27 dc27 pm27_ cd27 ct27_ : Value} {od27_ an27_ : Option Addr} {sl27 : Array (Option Value)}
    {f28 : Addr} {oc28_ kV28 dc28 pm28_ cd28 ct28_ : Value} {od28_ an28_ : Option Addr} {sl28 : Array (Option Value)}
    {f29 : Addr} {oc29_ kV29 dc29 pm29_ cd29 ct29_ : Value} {od29_ an29_ : Option Addr} {sl29 : Array (Option Value)}
    {f30 : Addr} {oc30_ kV30 dc30 pm30_ cd30 ct30_ : Value} {od30_ an30_ : Option Addr} {sl30 : Array (Option Value)}
    {f31 : Addr} {oc31_ kV31 dc31 pm31_ cd31 ct31_ : Value} {od31_ an31_ : Option Addr} {sl31 : Array (Option Value)}
    {cRef Pt : Addr}
    {f32 : Addr} {oc32_ kV32 dc32 pm32_ ct32_ : Value} {od32_ an32_ : Option Addr} {sl32 : Array (Option Value)}
    {f33 : Addr} {oc33_ kV33 dc33 pm33_ cd33 ct33_ : Value} {od33_ an33_ : Option Addr} {sl33 : Array (Option Value)}
    (z_isinstance : nsIn K mainGlobals "isinstance" = some none)
    (z_int : nsIn K mainGlobals "int" = some none)
    (z_bool : nsIn K mainGlobals "bool" = some none)
    (z_tuple : nsIn K mainGlobals "tuple" = some none)
    (z_len : nsIn K mainGlobals "len" = some none)
    (z_all : nsIn K mainGlobals "all" = some none)
    (z_set : nsIn K mainGlobals "set" = some none)
    (z_dict : nsIn K mainGlobals "dict" = some none)
    (z_enumerate : nsIn K mainGlobals "enumerate" = some none)
    (z_range : nsIn K mainGlobals "range" = some none)
    (z_list : nsIn K mainGlobals "list" = some none)
    (z_any : nsIn K mainGlobals "any" = some none)
    (z_sorted : nsIn K mainGlobals "sorted" = some none)
    (z_zip : nsIn K mainGlobals "zip" = some none)
    (z_ValueError : nsIn K mainGlobals "ValueError" = some none)
    (z_things : nsIn K mainGlobals "THINGS" = some (some (.int 30 tkT)))
    (z_super : nsIn K mainGlobals "super" = some none)
    (g_o : nsIn K mainGlobals "InvalidOrder" = some (some (.ref A_o)))
    (g_m : nsIn K mainGlobals "InvalidMany" = some (some (.ref A_m)))
    (g_n : nsIn K mainGlobals "InvalidNumber" = some (some (.ref A_n)))
    (g_w : nsIn K mainGlobals "InvalidWord" = some (some (.ref A_w)))
    (g_p : nsIn K mainGlobals "InvalidPattern" = some (some (.ref A_p)))
    (g_ps : nsIn K mainGlobals "InvalidPatterns" = some (some (.ref A_ps)))
    (g_pl : nsIn K mainGlobals "InvalidPlaces" = some (some (.ref A_pl)))
    (g_t : nsIn K mainGlobals "TooMany" = some (some (.ref A_t)))
    (g_b : nsIn K mainGlobals "OrderError" = some (some (.ref A_b)))
    (ex_o : excIn K A_o [.type "ValueError", .type "Exception", .type "BaseException", .type "object"] "ValueError.__new__" = true)
    (ex_m : excIn K A_m [.type "ValueError", .type "Exception", .type "BaseException", .type "object"] "ValueError.__new__" = true)
    (ex_p : excIn K A_p [.type "ValueError", .type "Exception", .type "BaseException", .type "object"] "ValueError.__new__" = true)
    (ex_ps : excIn K A_ps [.type "ValueError", .type "Exception", .type "BaseException", .type "object"] "ValueError.__new__" = true)
    (kp_o : keepIn K (.ref A_o) = true)
    (sb_o : subIn K (.ref A_o) (.type "BaseException") = some true)
    (ty_o : typeIn K (.ref A_o) = some (.type "type"))
    (hg_o : findIn K (.ref A_o) "__getattribute__" = some (some (.builtin "BaseException.__getattribute__")))
    (hk_o : findIn K (.ref A_o) "__getattr__" = some none)
    (hd_o : hasDictIn K A_o = true)
    (ha_o : findIn K (.ref A_o) "__class__" = some (some (.builtin "object.__class__")))
    (hm_o : mroIn K A_o (.type "object") = some true)
    (em_o : exmOne K (.ref A_o) (.ref A_b) = some true)
    (k0_o : kitOne K (.ref A_o) (.ref A_o) = some true)
    (k1_o : kitOne K (.ref A_o) (.ref A_m) = some false)
    (k2_o : kitOne K (.ref A_o) (.ref A_n) = some false)
    (k3_o : kitOne K (.ref A_o) (.ref A_w) = some false)
    (k4_o : kitOne K (.ref A_o) (.ref A_p) = some false)
    (k5_o : kitOne K (.ref A_o) (.ref A_ps) = some false)
    (k6_o : kitOne K (.ref A_o) (.ref A_pl) = some false)
    (k7_o : kitOne K (.ref A_o) (.ref A_t) = some false)
    (k8_o : kitOne K (.ref A_o) (.type "ValueError") = some true)
    (kp_m : keepIn K (.ref A_m) = true)
    (sb_m : subIn K (.ref A_m) (.type "BaseException") = some true)
    (ty_m : typeIn K (.ref A_m) = some (.type "type"))
    (hg_m : findIn K (.ref A_m) "__getattribute__" = some (some (.builtin "BaseException.__getattribute__")))
    (hk_m : findIn K (.ref A_m) "__getattr__" = some none)
    (hd_m : hasDictIn K A_m = true)
    (ha_m : findIn K (.ref A_m) "__class__" = some (some (.builtin "object.__class__")))
    (hm_m : mroIn K A_m (.type "object") = some true)
    (em_m : exmOne K (.ref A_m) (.ref A_b) = some true)
    (k0_m : kitOne K (.ref A_m) (.ref A_o) = some false)
    (k1_m : kitOne K (.ref A_m) (.ref A_m) = some true)
    (k2_m : kitOne K (.ref A_m) (.ref A_n) = some false)
    (k3_m : kitOne K (.ref A_m) (.ref A_w) = some false)
    (k4_m : kitOne K (.ref A_m) (.ref A_p) = some false)
    (k5_m : kitOne K (.ref A_m) (.ref A_ps) = some false)
    (k6_m : kitOne K (.ref A_m) (.ref A_pl) = some false)
    (k7_m : kitOne K (.ref A_m) (.ref A_t) = some false)
    (k8_m : kitOne K (.ref A_m) (.type "ValueError") = some true)
    (kp_p : keepIn K (.ref A_p) = true)
    (sb_p : subIn K (.ref A_p) (.type "BaseException") = some true)
    (ty_p : typeIn K (.ref A_p) = some (.type "type"))
    (hg_p : findIn K (.ref A_p) "__getattribute__" = some (some (.builtin "BaseException.__getattribute__")))
    (hk_p : findIn K (.ref A_p) "__getattr__" = some none)
    (hd_p : hasDictIn K A_p = true)
    (ha_p : findIn K (.ref A_p) "__class__" = some (some (.builtin "object.__class__")))
    (hm_p : mroIn K A_p (.type "object") = some true)
    (em_p : exmOne K (.ref A_p) (.ref A_b) = some true)
    (k0_p : kitOne K (.ref A_p) (.ref A_o) = some false)
    (k1_p : kitOne K (.ref A_p) (.ref A_m) = some false)
    (k2_p : kitOne K (.ref A_p) (.ref A_n) = some false)
    (k3_p : kitOne K (.ref A_p) (.ref A_w) = some false)
    (k4_p : kitOne K (.ref A_p) (.ref A_p) = some true)
    (k5_p : kitOne K (.ref A_p) (.ref A_ps) = some false)
    (k6_p : kitOne K (.ref A_p) (.ref A_pl) = some false)
    (k7_p : kitOne K (.ref A_p) (.ref A_t) = some false)
    (k8_p : kitOne K (.ref A_p) (.type "ValueError") = some true)
    (kp_ps : keepIn K (.ref A_ps) = true)
    (sb_ps : subIn K (.ref A_ps) (.type "BaseException") = some true)
    (ty_ps : typeIn K (.ref A_ps) = some (.type "type"))
    (hg_ps : findIn K (.ref A_ps) "__getattribute__" = some (some (.builtin "BaseException.__getattribute__")))
    (hk_ps : findIn K (.ref A_ps) "__getattr__" = some none)
    (hd_ps : hasDictIn K A_ps = true)
    (ha_ps : findIn K (.ref A_ps) "__class__" = some (some (.builtin "object.__class__")))
    (hm_ps : mroIn K A_ps (.type "object") = some true)
    (em_ps : exmOne K (.ref A_ps) (.ref A_b) = some true)
    (k0_ps : kitOne K (.ref A_ps) (.ref A_o) = some false)
    (k1_ps : kitOne K (.ref A_ps) (.ref A_m) = some false)
    (k2_ps : kitOne K (.ref A_ps) (.ref A_n) = some false)
    (k3_ps : kitOne K (.ref A_ps) (.ref A_w) = some false)
    (k4_ps : kitOne K (.ref A_ps) (.ref A_p) = some false)
    (k5_ps : kitOne K (.ref A_ps) (.ref A_ps) = some true)
    (k6_ps : kitOne K (.ref A_ps) (.ref A_pl) = some false)
    (k7_ps : kitOne K (.ref A_ps) (.ref A_t) = some false)
    (k8_ps : kitOne K (.ref A_ps) (.type "ValueError") = some true)
    (kp_t : keepIn K (.ref A_t) = true)
    (sb_t : subIn K (.ref A_t) (.type "BaseException") = some true)
    (ty_t : typeIn K (.ref A_t) = some (.type "type"))
    (hg_t : findIn K (.ref A_t) "__getattribute__" = some (some (.builtin "BaseException.__getattribute__")))
    (hk_t : findIn K (.ref A_t) "__getattr__" = some none)
    (hd_t : hasDictIn K A_t = true)
    (ha_t : findIn K (.ref A_t) "__class__" = some (some (.builtin "object.__class__")))
    (hm_t : mroIn K A_t (.type "object") = some true)
    (em_t : exmOne K (.ref A_t) (.ref A_b) = some true)
    (k0_t : kitOne K (.ref A_t) (.ref A_o) = some false)
    (k1_t : kitOne K (.ref A_t) (.ref A_m) = some false)
    (k2_t : kitOne K (.ref A_t) (.ref A_n) = some false)
    (k3_t : kitOne K (.ref A_t) (.ref A_w) = some false)
    (k4_t : kitOne K (.ref A_t) (.ref A_p) = some false)
    (k5_t : kitOne K (.ref A_t) (.ref A_ps) = some false)
    (k6_t : kitOne K (.ref A_t) (.ref A_pl) = some false)
    (k7_t : kitOne K (.ref A_t) (.ref A_t) = some true)
    (k8_t : kitOne K (.ref A_t) (.type "ValueError") = some true)
    (hn : specialIn K (.builtin "object.__class__") "__get__" = some (some (.builtin "getset_descriptor.__get__")))
    (ht : takesIn K (.builtin "object.__class__") = some true)
    (xL : K.lookup A_t = some (excClassObj nm q A_t N9 bs bm9 true sn sub ab col dd m0 m1 m2 m3 m5 "ValueError.__new__"))
    (rf : PySem.HandSPX.refsVE bm9 = true)
    (sa : findIn K (.ref A_t) "__setattr__" = some (some (.builtin "object.__setattr__")))
    (noN : findIn K (.ref A_t) "limit" = some none)
    (iC : findIn K (.ref A_t) "__init__" = some (some (.ref fI)))
    (tC : typeIn K (.ref fI) = some (.type "function"))
    (veC : subIn K (.ref A_t) (.type "ValueError") = some true)
    (mrC : mroIn K A_t (.ref A_t) = some true)
    (nop : nsIn K cStatics "thirdparty.any" = some none)
    (sup : ks_superIn K A_t A_t "__init__" = some (some (.builtin "ValueError.__init__")))
    (ini : excInitIn K A_t [.type "ValueError", .type "Exception", .type "BaseException", .type "object"] "ValueError.__new__" = true)
    (tF : K.lookup fI = some ⟨oc1, od1, .func (ksFn "__init__" "TooMany.__init__" Wq.tmA Wq.tmB Wq.tmS .none .none doc1 pm1 an1 (.ref cda) ct1 cc), osl1⟩)
    (tK : codeIn K (.ref cda) "TooMany.__init__" = true)
    (tL : K.lookup cda = some ⟨ccl, cdd, .fields vs9, ccs⟩)
    (tV : vs9[2]? = some (.str file tf))
    (tP : ((rwP.main.file : Str) == file) = true)
    (tO : K.lookup cc = some ⟨cl, cld, .cell (some (.ref A_t)), csl⟩)
    (a0 : nsIn K mainGlobals "is_whole" = some (some (.ref f0)))
    (l0 : K.lookup f0 = some ⟨oc0_, od0_, .func (fnOf "is_whole" "is_whole" (L2.defArgs Wp.sIsWhole) (L2.defBody Wp.sIsWhole) (L2.defScope Wp.sIsWhole) .none kV0 dc0 pm0_ an0_ cd0 ct0_), sl0⟩)
    (c0 : codeIn K cd0 "is_whole" = true)
    (k0 : keepIn K (.ref f0) = true)
    (a1 : nsIn K mainGlobals "fits_order" = some (some (.ref f1)))
    (l1 : K.lookup f1 = some ⟨oc1_, od1_, .func (fnOf "fits_order" "fits_order" (L2.defArgs Wp.sFits) (L2.defBody Wp.sFits) (L2.defScope Wp.sFits) .none kV1 dc1 pm1_ an1_ cd1 ct1_), sl1⟩)
    (c1 : codeIn K cd1 "fits_order" = true)
    (k1 : keepIn K (.ref f1) = true)
    (a2 : nsIn K mainGlobals "opposite_of" = some (some (.ref f2)))
    (l2 : K.lookup f2 = some ⟨oc2_, od2_, .func (fnOf "opposite_of" "opposite_of" (L2.defArgs Wp.sOppOf) (L2.defBody Wp.sOppOf) (L2.defScope Wp.sOppOf) .none kV2 dc2 pm2_ an2_ cd2 ct2_), sl2⟩)
    (c2 : codeIn K cd2 "opposite_of" = true)
    (k2 : keepIn K (.ref f2) = true)
    (a3 : nsIn K mainGlobals "need_order" = some (some (.ref f3)))
    (l3 : K.lookup f3 = some ⟨oc3_, od3_, .func (fnOf "need_order" "need_order" (L2.defArgs Wp.sNeedOrder) (L2.defBody Wp.sNeedOrder) (L2.defScope Wp.sNeedOrder) .none kV3 dc3 pm3_ an3_ cd3 ct3_), sl3⟩)
    (c3 : codeIn K cd3 "need_order" = true)
    (k3 : keepIn K (.ref f3) = true)
    (a4 : nsIn K mainGlobals "need_many" = some (some (.ref f4)))
    (l4 : K.lookup f4 = some ⟨oc4_, od4_, .func (fnOf "need_many" "need_many" (L2.defArgs Wp.sNeedMany) (L2.defBody Wp.sNeedMany) (L2.defScope Wp.sNeedMany) .none kV4 dc4 pm4_ an4_ cd4 ct4_), sl4⟩)
    (c4 : codeIn K cd4 "need_many" = true)
    (k4 : keepIn K (.ref f4) = true)
    (a5 : nsIn K mainGlobals "need_few" = some (some (.ref f5)))
    (l5 : K.lookup f5 = some ⟨oc5_, od5_, .func (fnOf "need_few" "need_few" (L2.defArgs Wp.sNeedFew) (L2.defBody Wp.sNeedFew) (L2.defScope Wp.sNeedFew) .none kV5 dc5 pm5_ an5_ cd5 ct5_), sl5⟩)
    (c5 : codeIn K cd5 "need_few" = true)
    (k5 : keepIn K (.ref f5) = true)
    (a6 : nsIn K mainGlobals "opposite" = some (some (.ref f6)))
    (l6 : K.lookup f6 = some ⟨oc6_, od6_, .func (fnOf "opposite" "opposite" (L2.defArgs Wp.sOpp) (L2.defBody Wp.sOpp) (L2.defScope Wp.sOpp) .none kV6 dc6 pm6_ an6_ cd6 ct6_), sl6⟩)
    (c6 : codeIn K cd6 "opposite" = true)
    (k6 : keepIn K (.ref f6) = true)
    (a7 : nsIn K mainGlobals "turned_about" = some (some (.ref f7)))
    (l7 : K.lookup f7 = some ⟨oc7_, od7_, .func (fnOf "turned_about" "turned_about" (L2.defArgs Wp.sAbout) (L2.defBody Wp.sAbout) (L2.defScope Wp.sAbout) .none kV7 dc7 pm7_ an7_ cd7 ct7_), sl7⟩)
    (c7 : codeIn K cd7 "turned_about" = true)
    (k7 : keepIn K (.ref f7) = true)
    (a8 : nsIn K mainGlobals "turned_over" = some (some (.ref f8)))
    (l8 : K.lookup f8 = some ⟨oc8_, od8_, .func (fnOf "turned_over" "turned_over" (L2.defArgs Wp.sOver) (L2.defBody Wp.sOver) (L2.defScope Wp.sOver) .none kV8 dc8 pm8_ an8_ cd8 ct8_), sl8⟩)
    (c8 : codeIn K cd8 "turned_over" = true)
    (k8 : keepIn K (.ref f8) = true)
    (a9 : nsIn K mainGlobals "fits_pattern" = some (some (.ref f9)))
    (l9 : K.lookup f9 = some ⟨oc9_, od9_, .func (fnOf "fits_pattern" "fits_pattern" (L2.defArgs Wp.sFitsP) (L2.defBody Wp.sFitsP) (L2.defScope Wp.sFitsP) .none kV9 dc9 pm9_ an9_ cd9 ct9_), sl9⟩)
    (c9 : codeIn K cd9 "fits_pattern" = true)
    (k9 : keepIn K (.ref f9) = true)
    (a10 : nsIn K mainGlobals "goes_on" = some (some (.ref f10)))
    (l10 : K.lookup f10 = some ⟨oc10_, od10_, .func (fnOf "goes_on" "goes_on" (L2.defArgs Wp.sGoes) (L2.defBody Wp.sGoes) (L2.defScope Wp.sGoes) .none kV10 dc10 pm10_ an10_ cd10 ct10_), sl10⟩)
    (c10 : codeIn K cd10 "goes_on" = true)
    (k10 : keepIn K (.ref f10) = true)
    (a11 : nsIn K mainGlobals "all_spots" = some (some (.ref f11)))
    (l11 : K.lookup f11 = some ⟨oc11_, od11_, .func (fnOf "all_spots" "all_spots" (L2.defArgs Wp.sAllSpots) (L2.defBody Wp.sAllSpots) (L2.defScope Wp.sAllSpots) .none kV11 dc11 pm11_ an11_ cd11 ct11_), sl11⟩)
    (c11 : codeIn K cd11 "all_spots" = true)
    (k11 : keepIn K (.ref f11) = true)
    (a12 : nsIn K mainGlobals "holds" = some (some (.ref f12)))
    (l12 : K.lookup f12 = some ⟨oc12_, od12_, .func (fnOf "holds" "holds" (L2.defArgs Wp.sHolds) (L2.defBody Wp.sHolds) (L2.defScope Wp.sHolds) .none kV12 dc12 pm12_ an12_ cd12 ct12_), sl12⟩)
    (c12 : codeIn K cd12 "holds" = true)
    (k12 : keepIn K (.ref f12) = true)
    (a13 : nsIn K mainGlobals "grown_without" = some (some (.ref f13)))
    (l13 : K.lookup f13 = some ⟨oc13_, od13_, .func (fnOf "grown_without" "grown_without" (L2.defArgs Wp.sGrown) (L2.defBody Wp.sGrown) (L2.defScope Wp.sGrown) .none kV13 dc13 pm13_ an13_ cd13 ct13_), sl13⟩)
    (c13 : codeIn K cd13 "grown_without" = true)
    (k13 : keepIn K (.ref f13) = true)
    (a14 : nsIn K mainGlobals "all_without" = some (some (.ref f14)))
    (l14 : K.lookup f14 = some ⟨oc14_, od14_, .func (fnOf "all_without" "all_without" (L2.defArgs Wp.sAllW) (L2.defBody Wp.sAllW) (L2.defScope Wp.sAllW) .none kV14 dc14 pm14_ an14_ cd14 ct14_), sl14⟩)
    (c14 : codeIn K cd14 "all_without" = true)
    (k14 : keepIn K (.ref f14) = true)
    (a15 : nsIn K mainGlobals "need_pattern" = some (some (.ref f15)))
    (l15 : K.lookup f15 = some ⟨oc15_, od15_, .func (fnOf "need_pattern" "need_pattern" (L2.defArgs Wp.sNeedP) (L2.defBody Wp.sNeedP) (L2.defScope Wp.sNeedP) .none kV15 dc15 pm15_ an15_ cd15 ct15_), sl15⟩)
    (c15 : codeIn K cd15 "need_pattern" = true)
    (k15 : keepIn K (.ref f15) = true)
    (a16 : nsIn K mainGlobals "need_patterns" = some (some (.ref f16)))
    (l16 : K.lookup f16 = some ⟨oc16_, od16_, .func (fnOf "need_patterns" "need_patterns" (L2.defArgs Wp.sNeedPs) (L2.defBody Wp.sNeedPs) (L2.defScope Wp.sNeedPs) .none kV16 dc16 pm16_ an16_ cd16 ct16_), sl16⟩)
    (c16 : codeIn K cd16 "need_patterns" = true)
    (k16 : keepIn K (.ref f16) = true)
    (a17 : nsIn K mainGlobals "spots" = some (some (.ref f17)))
    (l17 : K.lookup f17 = some ⟨oc17_, od17_, .func (fnOf "spots" "spots" (L2.defArgs Wp.sSpots) (L2.defBody Wp.sSpots) (L2.defScope Wp.sSpots) .none kV17 dc17 pm17_ an17_ cd17 ct17_), sl17⟩)
    (c17 : codeIn K cd17 "spots" = true)
    (k17 : keepIn K (.ref f17) = true)
    (a18 : nsIn K mainGlobals "count_spots" = some (some (.ref f18)))
    (l18 : K.lookup f18 = some ⟨oc18_, od18_, .func (fnOf "count_spots" "count_spots" (L2.defArgs Wp.sCount) (L2.defBody Wp.sCount) (L2.defScope Wp.sCount) .none kV18 dc18 pm18_ an18_ cd18 ct18_), sl18⟩)
    (c18 : codeIn K cd18 "count_spots" = true)
    (k18 : keepIn K (.ref f18) = true)
    (a19 : nsIn K mainGlobals "has_pattern" = some (some (.ref f19)))
    (l19 : K.lookup f19 = some ⟨oc19_, od19_, .func (fnOf "has_pattern" "has_pattern" (L2.defArgs Wp.sHas) (L2.defBody Wp.sHas) (L2.defScope Wp.sHas) .none kV19 dc19 pm19_ an19_ cd19 ct19_), sl19⟩)
    (c19 : codeIn K cd19 "has_pattern" = true)
    (k19 : keepIn K (.ref f19) = true)
    (a20 : nsIn K mainGlobals "orders_without" = some (some (.ref f20)))
    (l20 : K.lookup f20 = some ⟨oc20_, od20_, .func (fnOf "orders_without" "orders_without" (L2.defArgs Wp.sOrdW) (L2.defBody Wp.sOrdW) (L2.defScope Wp.sOrdW) .none kV20 dc20 pm20_ an20_ cd20 ct20_), sl20⟩)
    (c20 : codeIn K cd20 "orders_without" = true)
    (k20 : keepIn K (.ref f20) = true)
    (a21 : nsIn K mainGlobals "count_without" = some (some (.ref f21)))
    (l21 : K.lookup f21 = some ⟨oc21_, od21_, .func (fnOf "count_without" "count_without" (L2.defArgs Wp.sCountW) (L2.defBody Wp.sCountW) (L2.defScope Wp.sCountW) .none kV21 dc21 pm21_ an21_ cd21 ct21_), sl21⟩)
    (c21 : codeIn K cd21 "count_without" = true)
    (k21 : keepIn K (.ref f21) = true)
    (a22 : nsIn K mainGlobals "_law_drum" = some (some (.ref f22)))
    (l22 : K.lookup f22 = some ⟨oc22_, od22_, .func (fnOf "_law_drum" "_law_drum" (L2.defArgs Wp.sDrum) (L2.defBody Wp.sDrum) (L2.defScope Wp.sDrum) .none kV22 dc22 pm22_ an22_ cd22 ct22_), sl22⟩)
    (c22 : codeIn K cd22 "_law_drum" = true)
    (k22 : keepIn K (.ref f22) = true)
    (a23 : nsIn K mainGlobals "_law_roll" = some (some (.ref f23)))
    (l23 : K.lookup f23 = some ⟨oc23_, od23_, .func (fnOf "_law_roll" "_law_roll" (L2.defArgs Wp.sRoll) (L2.defBody Wp.sRoll) (L2.defScope Wp.sRoll) .none kV23 dc23 pm23_ an23_ cd23 ct23_), sl23⟩)
    (c23 : codeIn K cd23 "_law_roll" = true)
    (k23 : keepIn K (.ref f23) = true)
    (a24 : nsIn K mainGlobals "_law_order" = some (some (.ref f24)))
    (l24 : K.lookup f24 = some ⟨oc24_, od24_, .func (fnOf "_law_order" "_law_order" (L2.defArgs Wp.sOrder) (L2.defBody Wp.sOrder) (L2.defScope Wp.sOrder) .none kV24 dc24 pm24_ an24_ cd24 ct24_), sl24⟩)
    (c24 : codeIn K cd24 "_law_order" = true)
    (k24 : keepIn K (.ref f24) = true)
    (a25 : nsIn K mainGlobals "_law_all" = some (some (.ref f25)))
    (l25 : K.lookup f25 = some ⟨oc25_, od25_, .func (fnOf "_law_all" "_law_all" (L2.defArgs Wp.sAll) (L2.defBody Wp.sAll) (L2.defScope Wp.sAll) .none kV25 dc25 pm25_ an25_ cd25 ct25_), sl25⟩)
    (c25 : codeIn K cd25 "_law_all" = true)
    (k25 : keepIn K (.ref f25) = true)
    (a26 : nsIn K mainGlobals "_law_known" = some (some (.ref f26)))
    (l26 : K.lookup f26 = some ⟨oc26_, od26_, .func (fnOf "_law_known" "_law_known" (L2.defArgs Wp.sKnown) (L2.defBody Wp.sKnown) (L2.defScope Wp.sKnown) .none kV26 dc26 pm26_ an26_ cd26 ct26_), sl26⟩)
    (c26 : codeIn K cd26 "_law_known" = true)
    (k26 : keepIn K (.ref f26) = true)
    (a27 : nsIn K mainGlobals "_law_names" = some (some (.ref f27)))
    (l27 : K.lookup f27 = some ⟨oc27_, od27_, .func (fnOf "_law_names" "_law_names" (L2.defArgs Wp.sNames) (L2.defBody Wp.sNames) (L2.defScope Wp.sNames) .none kV27 dc27 pm27_ an27_ cd27 ct27_), sl27⟩)
    (c27 : codeIn K cd27 "_law_names" = true)
    (k27 : keepIn K (.ref f27) = true)
    (a28 : nsIn K mainGlobals "_law_error" = some (some (.ref f28)))
    (l28 : K.lookup f28 = some ⟨oc28_, od28_, .func (fnOf "_law_error" "_law_error" (L2.defArgs Wp.sError) (L2.defBody Wp.sError) (L2.defScope Wp.sError) .none kV28 dc28 pm28_ an28_ cd28 ct28_), sl28⟩)
    (c28 : codeIn K cd28 "_law_error" = true)
    (k28 : keepIn K (.ref f28) = true)
    (a29 : nsIn K mainGlobals "_law_spots" = some (some (.ref f29)))
    (l29 : K.lookup f29 = some ⟨oc29_, od29_, .func (fnOf "_law_spots" "_law_spots" (L2.defArgs Wp.sLSpots) (L2.defBody Wp.sLSpots) (L2.defScope Wp.sLSpots) .none kV29 dc29 pm29_ an29_ cd29 ct29_), sl29⟩)
    (c29 : codeIn K cd29 "_law_spots" = true)
    (k29 : keepIn K (.ref f29) = true)
    (a30 : nsIn K mainGlobals "_law_like" = some (some (.ref f30)))
    (l30 : K.lookup f30 = some ⟨oc30_, od30_, .func (fnOf "_law_like" "_law_like" (L2.defArgs Wp.sLike) (L2.defBody Wp.sLike) (L2.defScope Wp.sLike) .none kV30 dc30 pm30_ an30_ cd30 ct30_), sl30⟩)
    (c30 : codeIn K cd30 "_law_like" = true)
    (k30 : keepIn K (.ref f30) = true)
    (a31 : nsIn K mainGlobals "_law_without" = some (some (.ref f31)))
    (l31 : K.lookup f31 = some ⟨oc31_, od31_, .func (fnOf "_law_without" "_law_without" (L2.defArgs Wp.sWithout) (L2.defBody Wp.sWithout) (L2.defScope Wp.sWithout) .none kV31 dc31 pm31_ an31_ cd31 ct31_), sl31⟩)
    (c31 : codeIn K cd31 "_law_without" = true)
    (k31 : keepIn K (.ref f31) = true)
    (a32 : nsIn K mainGlobals "_law_refused" = some (some (.ref f32)))
    (l32 : K.lookup f32 = some ⟨oc32_, od32_, .func (fnOf "_law_refused" "_law_refused" (L2.defArgs Wp.sRefused) (L2.defBody Wp.sRefused) (L2.defScope Wp.sRefused) .none kV32 dc32 pm32_ an32_ (.ref cRef) ct32_), sl32⟩)
    (c32 : codeIn K (.ref cRef) "_law_refused" = true)
    (k32 : keepIn K (.ref f32) = true)
    (a33 : nsIn K mainGlobals "law" = some (some (.ref f33)))
    (l33 : K.lookup f33 = some ⟨oc33_, od33_, .func (fnOf "law" "law" (L2.defArgs Wp.sLaw) (L2.defBody Wp.sLaw) (L2.defScope Wp.sLaw) .none kV33 dc33 pm33_ an33_ cd33 ct33_), sl33⟩)
    (c33 : codeIn K cd33 "law" = true)
    (k33 : keepIn K (.ref f33) = true)
    (hh : codeHdIn K cRef Pt = true)
    (hT : h.get? Pt = some (tabObj #[])) (nT : K.lookup Pt = none) : LamX.LawAtS rwL w K CX0 10 63 "_law_script" mg fa h := by
  have e := hmg.symm.trans (mg_of X G a33)
  cases e
  let A : Ad := ⟨A_o, A_m, A_n, A_w, A_p, A_ps, A_pl, A_t, A_b⟩
  have N : Nm mg := ⟨mg_none_of X G z_isinstance, mg_none_of X G z_int, mg_none_of X G z_bool, mg_none_of X G z_tuple, mg_none_of X G z_len, mg_none_of X G z_all, mg_none_of X G z_set, mg_none_of X G z_dict, mg_none_of X G z_enumerate, mg_none_of X G z_range, mg_none_of X G z_list, mg_none_of X G z_any, mg_none_of X G z_sorted, mg_none_of X G z_zip, mg_none_of X G z_ValueError, ⟨_, mg_of X G z_things⟩⟩
  have TM : TmTxt rwP K mg A_t fI := ⟨mg_of X G g_t, mg_none_of X G z_super, ⟨nm, q, N9, bs, bm9, sn, sub, ab, col, dd, m0, m1, m2, m3, m5, xL, rf⟩, sa, noN, iC, tC, kp_t, sb_t, veC, ty_t, mrC, nop, sup, ini, by decide +kernel,
    ⟨_, _, _, _, _, cda, cc, _, _, _, _, _, _, _, _, _, _, _, tF, tK, tL, tV, tP, tO⟩⟩
  have T : Ers rwP K mg A := ⟨⟨mg_of X G g_o, ex_o, kp_o, sb_o, ty_o⟩, ⟨mg_of X G g_m, ex_m, kp_m, sb_m, ty_m⟩, ⟨mg_of X G g_p, ex_p, kp_p, sb_p, ty_p⟩, ⟨mg_of X G g_ps, ex_ps, kp_ps, sb_ps, ty_ps⟩, ⟨fI, TM⟩⟩
  have IK : ∀ er : Er, IsK K A (A.at er) er.bits := fun er => by
    cases er
    · exact ⟨⟨hg_o, hk_o, sb_o, hd_o, ha_o, hn, ht, hm_o⟩, k0_o, k1_o, k2_o, k3_o, k4_o, k5_o, k6_o, k7_o, k8_o⟩
    · exact ⟨⟨hg_m, hk_m, sb_m, hd_m, ha_m, hn, ht, hm_m⟩, k0_m, k1_m, k2_m, k3_m, k4_m, k5_m, k6_m, k7_m, k8_m⟩
    · exact ⟨⟨hg_p, hk_p, sb_p, hd_p, ha_p, hn, ht, hm_p⟩, k0_p, k1_p, k2_p, k3_p, k4_p, k5_p, k6_p, k7_p, k8_p⟩
    · exact ⟨⟨hg_ps, hk_ps, sb_ps, hd_ps, ha_ps, hn, ht, hm_ps⟩, k0_ps, k1_ps, k2_ps, k3_ps, k4_ps, k5_ps, k6_ps, k7_ps, k8_ps⟩
    · exact ⟨⟨hg_t, hk_t, sb_t, hd_t, ha_t, hn, ht, hm_t⟩, k0_t, k1_t, k2_t, k3_t, k4_t, k5_t, k6_t, k7_t, k8_t⟩
  have I : IsF K mg A := ⟨mg_of X G g_o, mg_of X G g_m, mg_of X G g_n, mg_of X G g_w, mg_of X G g_p, mg_of X G g_ps, mg_of X G g_pl, mg_of X G g_t, mg_none_of X G z_ValueError, IK⟩
  have EM : ∀ er : Er, exmOne K (.ref (A.at er)) (.ref A.b) = some true := fun er => by
    cases er
    · exact em_o
    · exact em_m
    · exact em_p
    · exact em_ps
    · exact em_t
  have CH : CodeHd h cRef Pt := codeHd_of_K X hh
  refine ⟨fnOf "law" "law" (L2.defArgs sLaw) (L2.defBody sLaw) (L2.defScope sLaw) .none kV33 dc33 pm33_ an33_ cd33 ct33_, [(cRef, Pt)], spLaw K Pt, fun p hp => ?_, fun p hp => ?_, fun p hp => ?_, fun s u => ?_, fun H a ns hl _ hP hS => ?_, fun base hb hg TB => ?_⟩
  · rw [List.mem_singleton] at hp
    rw [hp]
    exact hT
  · rw [List.mem_singleton] at hp
    rw [hp]
    exact nT
  · rw [List.mem_singleton] at hp
    rw [hp]
    exact CH
  · exact .of_eq rfl
  · exact ⟨a, ns, rfl, hS, hl, fun p hp => by
      rw [List.mem_singleton] at hp
      rw [hp]
      exact TabS.nil (hP _ List.mem_cons_self), fun _ => rfl⟩
  · exact build (A := A) (c := cRef) (Pt := Pt) N T I (mg_of X G g_b) EM ⟨_, _, fun_mk (st := sIsWhole) l0 c0 k0, mg_of X G a0⟩ ⟨_, _, fun_mk (st := sFits) l1 c1 k1, mg_of X G a1⟩ ⟨_, _, fun_mk (st := sOppOf) l2 c2 k2, mg_of X G a2⟩ ⟨_, _, fun_mk (st := sNeedOrder) l3 c3 k3, mg_of X G a3⟩ ⟨_, _, fun_mk (st := sNeedMany) l4 c4 k4, mg_of X G a4⟩ ⟨_, _, fun_mk (st := sNeedFew) l5 c5 k5, mg_of X G a5⟩ ⟨_, _, fun_mk (st := sOpp) l6 c6 k6, mg_of X G a6⟩ ⟨_, _, fun_mk (st := sAbout) l7 c7 k7, mg_of X G a7⟩ ⟨_, _, fun_mk (st := sOver) l8 c8 k8, mg_of X G a8⟩ ⟨_, _, fun_mk (st := sFitsP) l9 c9 k9, mg_of X G a9⟩ ⟨_, _, fun_mk (st := sGoes) l10 c10 k10, mg_of X G a10⟩ ⟨_, _, fun_mk (st := sAllSpots) l11 c11 k11, mg_of X G a11⟩ ⟨_, _, fun_mk (st := sHolds) l12 c12 k12, mg_of X G a12⟩ ⟨_, _, fun_mk (st := sGrown) l13 c13 k13, mg_of X G a13⟩ ⟨_, _, fun_mk (st := sAllW) l14 c14 k14, mg_of X G a14⟩ ⟨_, _, fun_mk (st := sNeedP) l15 c15 k15, mg_of X G a15⟩ ⟨_, _, fun_mk (st := sNeedPs) l16 c16 k16, mg_of X G a16⟩ ⟨_, _, fun_mk (st := sSpots) l17 c17 k17, mg_of X G a17⟩ ⟨_, _, fun_mk (st := sCount) l18 c18 k18, mg_of X G a18⟩ ⟨_, _, fun_mk (st := sHas) l19 c19 k19, mg_of X G a19⟩ ⟨_, _, fun_mk (st := sOrdW) l20 c20 k20, mg_of X G a20⟩ ⟨_, _, fun_mk (st := sCountW) l21 c21 k21, mg_of X G a21⟩ ⟨_, _, fun_mk (st := sDrum) l22 c22 k22, mg_of X G a22⟩ ⟨_, _, fun_mk (st := sRoll) l23 c23 k23, mg_of X G a23⟩ ⟨_, _, fun_mk (st := sOrder) l24 c24 k24, mg_of X G a24⟩ ⟨_, _, fun_mk (st := sAll) l25 c25 k25, mg_of X G a25⟩ ⟨_, _, fun_mk (st := sKnown) l26 c26 k26, mg_of X G a26⟩ ⟨_, _, fun_mk (st := sNames) l27 c27 k27, mg_of X G a27⟩ ⟨_, _, fun_mk (st := sError) l28 c28 k28, mg_of X G a28⟩ ⟨_, _, fun_mk (st := sLSpots) l29 c29 k29, mg_of X G a29⟩ ⟨_, _, fun_mk (st := sLike) l30 c30 k30, mg_of X G a30⟩ ⟨_, _, fun_mk (st := sWithout) l31 c31 k31, mg_of X G a31⟩
      ⟨_, _, ⟨⟨_, _, _, _, _, _, _, _, rfl, l32, c32⟩, k32⟩, mg_of X G a32⟩ (TB _ List.mem_cons_self) (fun_mk (st := sLaw) l33 c33 k33)
end Wp
end

section
set_option Elab.async false
set_option linter.all false
set_option maxRecDepth 100000
open PySem PySem.W PyProof.Rows
theorem Wp.hookNo {K : Params → Frag} {as : List Addr} {e : ∀ P, as = (K P).map (·.1)} {ts : List Addr} {w : World} {h : Heap} {a : Addr} (Y : (kmHook K as e ts).says w h) (hn : a ∉ as) : (K w.params).lookup a = none := by
  refine Wp.lookup_no ?_
  rw [← e w.params]
  exact hn
set_option maxHeartbeats 0 in
theorem PySem.Challenge.cw_wiredorders_k66_whole_patterns_in_orders_holds : PySem.Challenge.rw_wiredorders_k66_whole_patterns_in_orders.Holds := by
  w_on; o_law; k_head; (case hw => w_witness2)
  k_fill
  refine LamX.walk_ofTs (l := PySem.Challenge.rw_wiredorders_k66_whole_patterns_in_orders) (n := 63) (k := 10) (x := "_law_script") (CX := fun _ => L2.CX0) rfl (by decide) rfl ⟨rfl, by decide, by decide⟩ (fun w h Y => PySem.W.km_in_of Y) ?F (fun _ _ _ _ _ h => h)
  case F =>
    intro w mg fa h Y KX G hmg
    refine' Wp.fin (Pt := 334) KX G hmg ?z_isinstance ?z_int ?z_bool ?z_tuple ?z_len ?z_all ?z_set ?z_dict ?z_enumerate ?z_range ?z_list ?z_any ?z_sorted ?z_zip ?z_ValueError ?z_things ?z_super ?g_o ?g_m ?g_n ?g_w ?g_p ?g_ps ?g_pl ?g_t ?g_b ?ex_o ?ex_m ?ex_p ?ex_ps ?kp_o ?sb_o ?ty_o ?hg_o ?hk_o ?hd_o ?ha_o ?hm_o ?em_o ?k0_o ?k1_o ?k2_o ?k3_o ?k4_o ?k5_o ?k6_o ?k7_o ?k8_o ?kp_m ?sb_m ?ty_m ?hg_m ?hk_m ?hd_m ?ha_m ?hm_m ?em_m ?k0_m ?k1_m ?k2_m ?k3_m ?k4_m ?k5_m ?k6_m ?k7_m ?k8_m ?kp_p ?sb_p ?ty_p ?hg_p ?hk_p ?hd_p ?ha_p ?hm_p ?em_p ?k0_p ?k1_p ?k2_p ?k3_p ?k4_p ?k5_p ?k6_p ?k7_p ?k8_p ?kp_ps ?sb_ps ?ty_ps ?hg_ps ?hk_ps ?hd_ps ?ha_ps ?hm_ps ?em_ps ?k0_ps ?k1_ps ?k2_ps ?k3_ps ?k4_ps ?k5_ps ?k6_ps ?k7_ps ?k8_ps ?kp_t ?sb_t ?ty_t ?hg_t ?hk_t ?hd_t ?ha_t ?hm_t ?em_t ?k0_t ?k1_t ?k2_t ?k3_t ?k4_t ?k5_t ?k6_t ?k7_t ?k8_t ?hn ?ht ?xL ?rf ?sa ?noN ?iC ?tC ?veC ?mrC ?nop ?sup ?ini ?tF ?tK ?tL ?tV ?tP ?tO ?a0 ?l0 ?c0 ?k0 ?a1 ?l1 ?c1 ?k1 ?a2 ?l2 ?c2 ?k2 ?a3 ?l3 ?c3 ?k3 ?a4 ?l4 ?c4 ?k4 ?a5 ?l5 ?c5 ?k5 ?a6 ?l6 ?c6 ?k6 ?a7 ?l7 ?c7 ?k7 ?a8 ?l8 ?c8 ?k8 ?a9 ?l9 ?c9 ?k9 ?a10 ?l10 ?c10 ?k10 ?a11 ?l11 ?c11 ?k11 ?a12 ?l12 ?c12 ?k12 ?a13 ?l13 ?c13 ?k13 ?a14 ?l14 ?c14 ?k14 ?a15 ?l15 ?c15 ?k15 ?a16 ?l16 ?c16 ?k16 ?a17 ?l17 ?c17 ?k17 ?a18 ?l18 ?c18 ?k18 ?a19 ?l19 ?c19 ?k19 ?a20 ?l20 ?c20 ?k20 ?a21 ?l21 ?c21 ?k21 ?a22 ?l22 ?c22 ?k22 ?a23 ?l23 ?c23 ?k23 ?a24 ?l24 ?c24 ?k24 ?a25 ?l25 ?c25 ?k25 ?a26 ?l26 ?c26 ?k26 ?a27 ?l27 ?c27 ?k27 ?a28 ?l28 ?c28 ?k28 ?a29 ?l29 ?c29 ?k29 ?a30 ?l30 ?c30 ?k30 ?a31 ?l31 ?c31 ?k31 ?a32 ?l32 ?c32 ?k32 ?a33 ?l33 ?c33 ?k33 ?hh ?hT ?nT
    (case z_isinstance => first | k_is | rfl)
    (case z_int => first | k_is | rfl)
    (case z_bool => first | k_is | rfl)
    (case z_tuple => first | k_is | rfl)
    (case z_len => first | k_is | rfl)
    (case z_all => first | k_is | rfl)
    (case z_set => first | k_is | rfl)
    (case z_dict => first | k_is | rfl)
    (case z_enumerate => first | k_is | rfl)
    (case z_range => first | k_is | rfl)
    (case z_list => first | k_is | rfl)
    (case z_any => first | k_is | rfl)
    (case z_sorted => first | k_is | rfl)
    (case z_zip => first | k_is | rfl)
    (case z_ValueError => first | k_is | rfl)
    (case z_things => first | k_is | rfl)
    (case z_super => first | k_is | rfl)
    (case g_o => first | k_is | rfl)
    (case g_m => first | k_is | rfl)
    (case g_n => first | k_is | rfl)
    (case g_w => first | k_is | rfl)
    (case g_p => first | k_is | rfl)
    (case g_ps => first | k_is | rfl)
    (case g_pl => first | k_is | rfl)
    (case g_t => first | k_is | rfl)
    (case g_b => first | k_is | rfl)
    (case ex_o => first | k_exc)
    (case ex_m => first | k_exc)
    (case ex_p => first | k_exc)
    (case ex_ps => first | k_exc)
    (case kp_o => first | k_is | rfl)
    (case sb_o => first | k_is | rfl)
    (case ty_o => first | k_is | rfl)
    (case hg_o => first | k_is | rfl)
    (case hk_o => first | k_is | rfl)
    (case hd_o => first | k_is | rfl)
    (case ha_o => first | k_is | rfl)
    (case hm_o => first | k_is | rfl)
    (case em_o => first | k_is | rfl)
    (case k0_o => first | k_is | rfl)
    (case k1_o => first | k_is | rfl)
    (case k2_o => first | k_is | rfl)
    (case k3_o => first | k_is | rfl)
    (case k4_o => first | k_is | rfl)
    (case k5_o => first | k_is | rfl)
    (case k6_o => first | k_is | rfl)
    (case k7_o => first | k_is | rfl)
    (case k8_o => first | k_is | rfl)
    (case kp_m => first | k_is | rfl)
    (case sb_m => first | k_is | rfl)
    (case ty_m => first | k_is | rfl)
    (case hg_m => first | k_is | rfl)
    (case hk_m => first | k_is | rfl)
    (case hd_m => first | k_is | rfl)
    (case ha_m => first | k_is | rfl)
    (case hm_m => first | k_is | rfl)
    (case em_m => first | k_is | rfl)
    (case k0_m => first | k_is | rfl)
    (case k1_m => first | k_is | rfl)
    (case k2_m => first | k_is | rfl)
    (case k3_m => first | k_is | rfl)
    (case k4_m => first | k_is | rfl)
    (case k5_m => first | k_is | rfl)
    (case k6_m => first | k_is | rfl)
    (case k7_m => first | k_is | rfl)
    (case k8_m => first | k_is | rfl)
    (case kp_p => first | k_is | rfl)
    (case sb_p => first | k_is | rfl)
    (case ty_p => first | k_is | rfl)
    (case hg_p => first | k_is | rfl)
    (case hk_p => first | k_is | rfl)
    (case hd_p => first | k_is | rfl)
    (case ha_p => first | k_is | rfl)
    (case hm_p => first | k_is | rfl)
    (case em_p => first | k_is | rfl)
    (case k0_p => first | k_is | rfl)
    (case k1_p => first | k_is | rfl)
    (case k2_p => first | k_is | rfl)
    (case k3_p => first | k_is | rfl)
    (case k4_p => first | k_is | rfl)
    (case k5_p => first | k_is | rfl)
    (case k6_p => first | k_is | rfl)
    (case k7_p => first | k_is | rfl)
    (case k8_p => first | k_is | rfl)
    (case kp_ps => first | k_is | rfl)
    (case sb_ps => first | k_is | rfl)
    (case ty_ps => first | k_is | rfl)
    (case hg_ps => first | k_is | rfl)
    (case hk_ps => first | k_is | rfl)
    (case hd_ps => first | k_is | rfl)
    (case ha_ps => first | k_is | rfl)
    (case hm_ps => first | k_is | rfl)
    (case em_ps => first | k_is | rfl)
    (case k0_ps => first | k_is | rfl)
    (case k1_ps => first | k_is | rfl)
    (case k2_ps => first | k_is | rfl)
    (case k3_ps => first | k_is | rfl)
    (case k4_ps => first | k_is | rfl)
    (case k5_ps => first | k_is | rfl)
    (case k6_ps => first | k_is | rfl)
    (case k7_ps => first | k_is | rfl)
    (case k8_ps => first | k_is | rfl)
    (case kp_t => first | k_is | rfl)
    (case sb_t => first | k_is | rfl)
    (case ty_t => first | k_is | rfl)
    (case hg_t => first | k_is | rfl)
    (case hk_t => first | k_is | rfl)
    (case hd_t => first | k_is | rfl)
    (case ha_t => first | k_is | rfl)
    (case hm_t => first | k_is | rfl)
    (case em_t => first | k_is | rfl)
    (case k0_t => first | k_is | rfl)
    (case k1_t => first | k_is | rfl)
    (case k2_t => first | k_is | rfl)
    (case k3_t => first | k_is | rfl)
    (case k4_t => first | k_is | rfl)
    (case k5_t => first | k_is | rfl)
    (case k6_t => first | k_is | rfl)
    (case k7_t => first | k_is | rfl)
    (case k8_t => first | k_is | rfl)
    (case hn => first | k_is | rfl)
    (case ht => first | k_is | rfl)
    (case xL => first | k_is | rfl)
    (case rf => first | rfl)
    (case sa => first | k_is | rfl)
    (case noN => first | k_is | rfl)
    (case iC => first | k_is | rfl)
    (case tC => first | k_is | rfl)
    (case veC => first | k_is | rfl)
    (case mrC => first | k_is | rfl)
    (case nop => first | k_is | rfl)
    (case sup => first | k_is | rfl)
    (case ini => first | k_is | rfl)
    (case tF => first | k_is | rfl)
    (case tK => first | k_is | rfl)
    (case tL => first | k_is | rfl)
    (case tV => first | rfl)
    (case tP => first | rfl)
    (case tO => first | k_is | rfl)
    (case a0 => first | k_is | rfl)
    (case l0 => first | k_is | rfl)
    (case c0 => first | k_is | rfl)
    (case k0 => first | k_is | rfl)
    (case a1 => first | k_is | rfl)
    (case l1 => first | k_is | rfl)
    (case c1 => first | k_is | rfl)
    (case k1 => first | k_is | rfl)
    (case a2 => first | k_is | rfl)
    (case l2 => first | k_is | rfl)
    (case c2 => first | k_is | rfl)
    (case k2 => first | k_is | rfl)
    (case a3 => first | k_is | rfl)
    (case l3 => first | k_is | rfl)
    (case c3 => first | k_is | rfl)
    (case k3 => first | k_is | rfl)
    (case a4 => first | k_is | rfl)
    (case l4 => first | k_is | rfl)
    (case c4 => first | k_is | rfl)
    (case k4 => first | k_is | rfl)
    (case a5 => first | k_is | rfl)
    (case l5 => first | k_is | rfl)
    (case c5 => first | k_is | rfl)
    (case k5 => first | k_is | rfl)
    (case a6 => first | k_is | rfl)
    (case l6 => first | k_is | rfl)
    (case c6 => first | k_is | rfl)
    (case k6 => first | k_is | rfl)
    (case a7 => first | k_is | rfl)
    (case l7 => first | k_is | rfl)
    (case c7 => first | k_is | rfl)
    (case k7 => first | k_is | rfl)
    (case a8 => first | k_is | rfl)
    (case l8 => first | k_is | rfl)
    (case c8 => first | k_is | rfl)
    (case k8 => first | k_is | rfl)
    (case a9 => first | k_is | rfl)
    (case l9 => first | k_is | rfl)
    (case c9 => first | k_is | rfl)
    (case k9 => first | k_is | rfl)
    (case a10 => first | k_is | rfl)
    (case l10 => first | k_is | rfl)
    (case c10 => first | k_is | rfl)
    (case k10 => first | k_is | rfl)
    (case a11 => first | k_is | rfl)
    (case l11 => first | k_is | rfl)
    (case c11 => first | k_is | rfl)
    (case k11 => first | k_is | rfl)
    (case a12 => first | k_is | rfl)
    (case l12 => first | k_is | rfl)
    (case c12 => first | k_is | rfl)
    (case k12 => first | k_is | rfl)
    (case a13 => first | k_is | rfl)
    (case l13 => first | k_is | rfl)
    (case c13 => first | k_is | rfl)
    (case k13 => first | k_is | rfl)
    (case a14 => first | k_is | rfl)
    (case l14 => first | k_is | rfl)
    (case c14 => first | k_is | rfl)
    (case k14 => first | k_is | rfl)
    (case a15 => first | k_is | rfl)
    (case l15 => first | k_is | rfl)
    (case c15 => first | k_is | rfl)
    (case k15 => first | k_is | rfl)
    (case a16 => first | k_is | rfl)
    (case l16 => first | k_is | rfl)
    (case c16 => first | k_is | rfl)
    (case k16 => first | k_is | rfl)
    (case a17 => first | k_is | rfl)
    (case l17 => first | k_is | rfl)
    (case c17 => first | k_is | rfl)
    (case k17 => first | k_is | rfl)
    (case a18 => first | k_is | rfl)
    (case l18 => first | k_is | rfl)
    (case c18 => first | k_is | rfl)
    (case k18 => first | k_is | rfl)
    (case a19 => first | k_is | rfl)
    (case l19 => first | k_is | rfl)
    (case c19 => first | k_is | rfl)
    (case k19 => first | k_is | rfl)
    (case a20 => first | k_is | rfl)
    (case l20 => first | k_is | rfl)
    (case c20 => first | k_is | rfl)
    (case k20 => first | k_is | rfl)
    (case a21 => first | k_is | rfl)
    (case l21 => first | k_is | rfl)
    (case c21 => first | k_is | rfl)
    (case k21 => first | k_is | rfl)
    (case a22 => first | k_is | rfl)
    (case l22 => first | k_is | rfl)
    (case c22 => first | k_is | rfl)
    (case k22 => first | k_is | rfl)
    (case a23 => first | k_is | rfl)
    (case l23 => first | k_is | rfl)
    (case c23 => first | k_is | rfl)
    (case k23 => first | k_is | rfl)
    (case a24 => first | k_is | rfl)
    (case l24 => first | k_is | rfl)
    (case c24 => first | k_is | rfl)
    (case k24 => first | k_is | rfl)
    (case a25 => first | k_is | rfl)
    (case l25 => first | k_is | rfl)
    (case c25 => first | k_is | rfl)
    (case k25 => first | k_is | rfl)
    (case a26 => first | k_is | rfl)
    (case l26 => first | k_is | rfl)
    (case c26 => first | k_is | rfl)
    (case k26 => first | k_is | rfl)
    (case a27 => first | k_is | rfl)
    (case l27 => first | k_is | rfl)
    (case c27 => first | k_is | rfl)
    (case k27 => first | k_is | rfl)
    (case a28 => first | k_is | rfl)
    (case l28 => first | k_is | rfl)
    (case c28 => first | k_is | rfl)
    (case k28 => first | k_is | rfl)
    (case a29 => first | k_is | rfl)
    (case l29 => first | k_is | rfl)
    (case c29 => first | k_is | rfl)
    (case k29 => first | k_is | rfl)
    (case a30 => first | k_is | rfl)
    (case l30 => first | k_is | rfl)
    (case c30 => first | k_is | rfl)
    (case k30 => first | k_is | rfl)
    (case a31 => first | k_is | rfl)
    (case l31 => first | k_is | rfl)
    (case c31 => first | k_is | rfl)
    (case k31 => first | k_is | rfl)
    (case a32 => first | k_is | rfl)
    (case l32 => first | k_is | rfl)
    (case c32 => first | k_is | rfl)
    (case k32 => first | k_is | rfl)
    (case a33 => first | k_is | rfl)
    (case l33 => first | k_is | rfl)
    (case c33 => first | k_is | rfl)
    (case k33 => first | k_is | rfl)
    (case hh => first | kernel_rfl)
    case hT => exact km_tabs_of Y _ (by decide)
    case nT => exact Wp.hookNo Y (by decide +kernel)
end
