import PyProof.Rows.All
import Wide.All
import OpenK.AllK
import Wide.FinOn
import HandS.HotCalls
import HandS.ExcCtx
import HandS.ExcInit
import HandS.ExcIs
import HandS.Iter
import HandS.Zip
import HandS.Dict
import HandS.IsInst
import HandS.Flow
import KE.GoesMore
import KE.GoesComp
import KE.KExcIs
import KE.GoesEnum
import HandS.Comp
import HandS.Words
import HandS.Defaults
import HandS.ExcField
import HandS.ExcValue
import HandS.More
import PyProof.ReprRoads
import PyProof.NeKinds
import HandS.Head0
import HandS.Head1
import HandS.Head2
import HandS.HeadEnd
import HandS.HeadHook1
import HandS.HeadHook2
import HandS.Head3
import HandS.Wide
import HandS.WordsDict
import HandS.Ends
import PySem.Challenge.RW_powermaps_k01_errors
set_option Elab.async false
set_option linter.all false
set_option maxRecDepth 100000
/-! Ea: an iterator's end, a tuple taken apart, [a for a, b in enumerate(l) if b], whatever exception is handled. -/
namespace Er
open PySem PySem.Spec PyProof.Rows HotX
open Sem (wp)
/-- nothing is handled, or an exception without a context -/
def Wa (A : Around) (h : Heap) : Prop := A.handled = none ∨ ∃ x, HotAt A x h
def hx (A : Around) : List Addr := match A.handled with
  | some (.ref x) => [x]
  | _ => []
theorem hx_mem {A : Around} {x : Addr} {h : Heap} (q : HotAt A x h) : x ∈ hx A := by
  unfold hx
  rw [q.1]
  exact List.mem_singleton.mpr rfl
theorem Wa.keep {A : Around} {h h' : Heap} (q : Wa A h) (k : ∀ b ∈ hx A, ∀ o, h.get? b = some o → h'.get? b = some o) : Wa A h' := by
  rcases q with q | ⟨x, q⟩
  · exact .inl q
  · obtain ⟨h1, o, vs, h2, h3, h4⟩ := id q
    exact .inr ⟨x, h1, o, vs, k x (hx_mem q) o h2, h3, h4⟩
theorem Wa.all {A : Around} {h h' : Heap} (q : Wa A h) (k : ∀ b o, h.get? b = some o → h'.get? b = some o) : Wa A h' := q.keep fun b _ => k b
/-- an object with less than three fields is not what is handled -/
theorem Wa.ne {A : Around} {h : Heap} (q : Wa A h) {b : Addr} {o : Obj} {vs : Array Value} (hb : h.get? b = some o) (hd : o.data = .fields vs) (hz : vs.size ≤ 2) : b ∉ hx A ∨ A.handled = none := by
  rcases q with q | ⟨x, q1, o1, vs1, h2, h3, h4⟩
  · exact .inr q
  · refine .inl fun hm => ?_
    unfold hx at hm
    rw [q1] at hm
    have e : b = x := by simpa using hm
    subst e
    rw [h2] at hb
    cases hb
    rw [h3] at hd
    cases hd
    have := (Array.getElem?_eq_some_iff.mp h4).1
    omega
theorem Wa.but {A : Around} {h h' : Heap} (q : Wa A h) {b : Addr} {o : Obj} {vs : Array Value} (hb : h.get? b = some o) (hd : o.data = .fields vs) (hz : vs.size ≤ 2) (k : ∀ c, c ≠ b → ∀ o, h.get? c = some o → h'.get? c = some o) : Wa A h' := by
  rcases q.ne hb hd hz with n | n
  · exact q.keep fun c hc o e => k c (fun z => n (z ▸ hc)) o e
  · exact .inl n
section
variable {prog : Program} {w : World} {A : Around} {E : Value → Shared → Prop} {s : Shared}
/-- StopIteration is made and raised -/
theorem stopW {α : Type} {Q : α → Shared → Prop} {E' : Value → Shared → Prop} (q : Wa A s.heap) (hE : ∀ h' e, (∀ b o, s.heap.get? b = some o → h'.get? b = some o) → (∃ o, h'.get? e = some o ∧ o.cls = .type "StopIteration") → E (.ref e) { s with heap := h' }) :
    wpAny (model prog w) A (newExc (.type "StopIteration") []) (fun v s' => wpAny (model prog w) A (raiseNew v : Sem α) Q E s') E' s := by
  simp only [newExc, newTuple]
  refine wpAny_bind (wpAny_newObj_type ?_ (by size_fits))
  refine wpAny_bind (m := firstArgMember _ _) (wpAny_of_eq (a := Value.none) (by first | rfl | (simp only [firstArgMember]; rfl)) ?_)
  refine wpAny_newObj_type ?_ (by size_fits)
  rcases q with hh | ⟨x, hot⟩
  · simp only [raiseNew]
    refine wpAny_bind (wpAny_handled ?_)
    rw [hh]
    refine wpAny_bind (wpAny_pure (wpAny_throw ?_))
    exact hE _ _ (fun b o e => Heap.get?_push_of_some _ (Heap.get?_push_of_some _ e)) ⟨_, Heap.get?_push_size _ rfl, rfl⟩
  · obtain ⟨hh, o1, vs1, h1, d1, c1⟩ := hot
    refine raiseNew_hot ⟨hh, o1, vs1, Heap.get?_push_of_some _ (Heap.get?_push_of_some _ h1), d1, c1⟩ (Nat.ne_of_lt (Heap.lt_size (Heap.get?_push_of_some _ h1))) (Heap.get?_push_size _ rfl) rfl (by first | (simp; done) | (simp; omega) | (simp only [Array.size_append]; simp; omega)) ?_
    refine hE _ _ (fun b o e => ?_) ⟨_, Heap.get?_update_self _ (Heap.get?_push_size _ rfl) rfl, rfl⟩
    rw [Heap.get?_update_other _ _ (Nat.ne_of_gt (Heap.lt_size (Heap.get?_push_of_some _ e)))]
    exact Heap.get?_push_of_some _ (Heap.get?_push_of_some _ e)
theorem two_size {a b : Value} : (#[a, b] : Array Value).size ≤ 2 := Nat.le_refl _
/-- a list's iterator is through -/
theorem lst_end {it l : Addr} {i : Nat} {items : Array Value} {Q : Value → Shared → Prop} (q : Wa A s.heap) (hit : s.heap.IsListIter it l i) (hl : s.heap.IsList l items) (hx : items[i]? = none)
    (hE : ∀ h' e, Heap.ExtBut it s.heap h' → (∃ o, h'.get? e = some o ∧ o.cls = .type "StopIteration") → E (.ref e) { s with heap := h' }) : wpAny (model prog w) A (Builtin.SmallTypes.nextOf (.ref it)) Q E s := by
  obtain ⟨o, ho, hc, hd⟩ := id hit
  obtain ⟨ol, hol, _, nl, hdl⟩ := hl
  unfold Builtin.SmallTypes.nextOf
  refine wpAny_bind (wpAny_callSpecial?_slot (name := Str.ofString "__next__") hit.typeIs slot_listiter_next (wpAny_call_entry slot_listiter_next hit.typeIs entry_listiter_next ?_ (args_listiter_next _)))
  show wpAny (model prog w) _ (field (.ref it) 0 >>= _) _ _ s
  refine wpAny_bind (wpAny_field ho hd (x := .ref l) rfl ?_)
  show wpAny (model prog w) _ (if (Value.ref l == Value.none) = true then _ else _) _ _ s
  rw [if_neg (show ¬ ((Value.ref l == Value.none) = true) from Bool.false_ne_true)]
  show wpAny (model prog w) _ (field (.ref it) 1 >>= _) _ _ s
  refine wpAny_bind (wpAny_field ho hd (x := .int i 0) rfl ?_)
  show wpAny (model prog w) _ (seqItems? (.ref l) >>= _) _ _ s
  refine wpAny_bind (wpAny_seqItems hol hdl ?_)
  simp only [Int.toNat_natCast, hx]
  refine wpAny_bind (wpAny_rule (wpAny_bind (wpAny_setField ho hd (by simp) ?_)))
  show wpAny (model prog w) _ (newExc (.type "StopIteration") [] >>= _) _ _ _
  have sb := Heap.SameBut.update s.heap it (Obj.mapFields (·.setIfInBounds 0 .none))
  refine wpAny_bind (stopW (Wa.but q ho hd two_size fun c hcne o e => (sb.2 c hcne).trans e) fun h' e k x => hE h' e (fun b o hb hbo => k b o ((sb.2 b hb).trans hbo)) x)
end
end Er

/-! Eb: a tuple taken apart, the list of places, whatever exception is handled. -/
namespace Er
open PySem PySem.Spec PyProof.Rows HotX
open Sem (wp)
section
variable {prog : Program} {w : World} {A : Around} {E : Value → Shared → Prop} {s : Shared}
/-- a tuple's iterator is through -/
theorem tup_end {it t : Addr} {i : Nat} {items : Array Value} {Q : Option Value → Shared → Prop} (q : Wa A s.heap) (hit : s.heap.IsTupleIter it t i) (ht : s.heap.IsTuple t items) (hx : items[i]? = none)
    (hQ : ∀ h', Heap.ExtBut it s.heap h' → Q none { s with heap := h' }) : wpAny (model prog w) A (pyNext (.ref it)) Q E s := by
  obtain ⟨o, ho, hc, hd⟩ := id hit
  obtain ⟨ol, hol, _, nl, hdl⟩ := ht
  unfold pyNext
  refine wpAny_bind (wpAny_attempt (wpAny_callSpecial?_slot (name := Str.ofString "__next__") hit.typeIs F.slot_tuple_iterator_next (wpAny_call_entry F.slot_tuple_iterator_next hit.typeIs F.entry_tuple_iterator_next ?_ (F.args_tuple_iterator_next_1 _))))
  show wpAny (model prog w) _ (field (.ref it) 0 >>= _) _ _ s
  refine wpAny_bind (wpAny_field ho hd (x := .ref t) rfl ?_)
  show wpAny (model prog w) _ (if (Value.ref t == Value.none) = true then _ else _) _ _ s
  rw [if_neg (show ¬ ((Value.ref t == Value.none) = true) from Bool.false_ne_true)]
  show wpAny (model prog w) _ (field (.ref it) 1 >>= _) _ _ s
  refine wpAny_bind (wpAny_field ho hd (x := .int i 0) rfl ?_)
  show wpAny (model prog w) _ (seqItems? (.ref t) >>= _) _ _ s
  refine wpAny_bind (wpAny_seqItems hol hdl ?_)
  simp only [Int.toNat_natCast, hx]
  refine wpAny_bind (wpAny_rule (wpAny_bind (wpAny_setField ho hd (by simp) ?_)))
  show wpAny (model prog w) _ (newExc (.type "StopIteration") [] >>= _) _ _ _
  have sb := Heap.SameBut.update s.heap it (Obj.mapFields (·.setIfInBounds 0 .none))
  refine wpAny_bind (stopW (Wa.but q ho hd two_size fun c hcne o e => (sb.2 c hcne).trans e) fun h' e k x => ?_)
  refine wpAny_bind (wpAny_isInstance (T := "StopIteration") (b := true) x isSubtype_stop ?_)
  exact wpAny_pure (hQ h' fun b o hb hbo => k b o ((sb.2 b hb).trans hbo))
theorem unpack_tup {t : Addr} {items : Array Value} {targets : List (Bool × (Value → Sem Unit))} {Q : Unit → Shared → Prop} (q : Wa A s.heap) (ht : s.heap.IsTuple t items) (hn : targets.length = items.size) (hstar : targets.findIdx? (·.1) = none)
    (h : ∀ h', Heap.ExtBut s.heap.objs.size s.heap h' → wpAny (model prog w) A (assignInOrder (targets.map (·.2)) items.toList) Q E { s with heap := h' }) : wpAny (model prog w) A (unpack (.ref t) targets) Q E s := by
  have hlt : t ≠ s.heap.objs.size := by obtain ⟨o, ho, _⟩ := ht; exact Nat.ne_of_lt (Heap.lt_size ho)
  unfold unpack
  rw [hn, hstar]
  refine wpAny_bind (wpAny_holding ?_)
  unfold unpackItems notIterableAtAll
  refine wpAny_bind (wpAny_bind (wpAny_specialOf ht.typeIs F.slot_tuple_iter.lookup (wpAny_pure ?_)))
  simp only [Bool.false_eq_true, if_false]
  refine wpAny_bind (wpAny_holding (wpAny_pyIter_tuple ht (wpAny_bind (wpAny_holding (wpAny_draw_tuple hlt items.size 0 _ _ ⟨_, Heap.get?_push_size _ rfl, rfl, rfl⟩ (ht.push _) (by omega) fun h₁ hit₁ hs₁ => ?_)))))
  have hall : List.take items.size (List.drop 0 items.toList) = items.toList := by
    rw [List.drop_zero]; exact List.take_of_length_le (by simp)
  rw [hall, if_neg (by simp)]
  have q1 : Wa A h₁ := by
    refine Wa.but (q.all fun b o e => Heap.get?_push_of_some _ e) (b := s.heap.objs.size) (Heap.get?_push_size s.heap (o := { cls := .type "tuple_iterator", data := .fields #[.ref t, .int 0 0] }) rfl) rfl two_size fun c hc o e => (hs₁.2 c hc).trans e
  refine wpAny_bind (wpAny_holding (tup_end q1 hit₁ ((ht.push _).extBut hs₁.extBut hlt) (by simp) fun h₂ he₂ => ?_))
  simp only [Option.isSome_none, Bool.false_eq_true, if_false]
  exact wpAny_pure (h h₂ fun b o hb e => he₂ b o hb (hs₁.extBut b o hb (Heap.get?_push_of_some _ e)))
theorem asg_tup {env : Env} {elts : List Expr} {x1 : Nat} {pos : Pos} {t : Addr} {items : Array Value} {Q : Unit → Shared → Prop} (q : Wa A s.heap) (ht : s.heap.IsTuple t items)
    (hn : (assignEach elts env).length = items.size) (hstar : (assignEach elts env).findIdx? (·.1) = none)
    (h : ∀ h', Heap.ExtBut s.heap.objs.size s.heap h' → wpAny (model prog w) A (assignInOrder ((assignEach elts env).map (·.2)) items.toList) Q E { s with heap := h' }) :
    wpAny (model prog w) A (assign (.Tuple elts x1 pos) env (.ref t)) Q E s := by
  rw [arm_assign_Tuple]
  exact wpAny_bind (wpAny_standAt (unpack_tup q ht hn hstar h))
end
theorem draws_lst {prog : Program} {w : World} {A : Around} (it l : Addr) (hne : l ≠ it) (items : Array Value) :
    Draws prog w A it (it :: l :: hx A) items.size (fun i v => items[i]? = some v) (fun i h => h.IsListIter it l i ∧ h.IsList l items ∧ Wa A h) where
  live := fun _ _ st => let ⟨o, ho, _⟩ := st.1; ⟨o, ho⟩
  frame := fun _ _ _ st hk => ⟨st.1.at fun o e => hk it (by simp) o e, st.2.1.at fun o e => hk l (by simp) o e, st.2.2.keep fun b hb o e => hk b (by simp [hb]) o e⟩
  item := fun i s Q E hi st hQ => by
    refine wpAny_nextOf_list_item st.1 st.2.1 (x := items[i]) (by simp [hi]) fun h' hit' hs' => ?_
    obtain ⟨o, ho, hc, hd⟩ := id st.1
    exact hQ _ h' s.toks (by simp [hi]) ⟨hit', st.2.1.extBut hs'.extBut hne, st.2.2.but ho hd two_size fun c hcne o e => (hs'.2 c hcne).trans e⟩ hs'
  done := fun s Q E st hE => lst_end st.2.2 st.1 st.2.1 (by simp) hE
/-- where it is true -/
def places : List Bool → Nat → List Nat
  | [], _ => []
  | b :: bs, k => if b then k :: places bs (k + 1) else places bs (k + 1)
theorem places_take : ∀ (bs : List Bool) (k i : Nat) (b : Bool), bs[i]? = some b → places (bs.take (i + 1)) k = places (bs.take i) k ++ (if b then [k + i] else [])
  | [], k, i, b, h => by simp at h
  | c :: bs, k, 0, b, h => by
    simp at h
    subst h
    cases c <;> simp [places]
  | c :: bs, k, i + 1, b, h => by
    have ih := places_take bs (k + 1) i b (by simpa using h)
    simp only [List.take_succ_cons, places]
    rw [ih]
    have e : k + 1 + i = k + (i + 1) := by omega
    rw [e]
    cases c <;> simp
theorem nn {b N C D : Nat} (hC : N ≤ C) (hD : N ≤ D) (h : b < N) : b ≠ C ∧ b ≠ D := by omega
end Er

/-! Ec: [a for a, b in enumerate(l) if b], l a list of truths. -/
namespace Er
open PySem PySem.Spec PyProof.Rows HotX L2
open Sem (wp)
/-- the list of the places of what is true in a list of truths -/
def tTrues (K : PySem.W.Frag) (ta : TA) : TE := fun σ H Q => ta σ H fun vs H1 => ∃ (a : Addr) (bs : List Bool), vs = [.ref a] ∧ SqL K H1 a (bs.map V.bl) ∧ ∀ D, H1 D = none → Q (.ref D) (upd H1 D (.lst ((places bs 0).map fun k => V.int (k : Nat))))
theorem vals_snoc {xs : List V} {us : List Value} {x : V} {u : Value} (h : Vals xs us) (r : RelV x u) : Vals (xs ++ [x]) (us ++ [u]) := h.append (.cons r .nil)
theorem places_len : ∀ (bs : List Bool) (k : Nat), (places bs k).length ≤ bs.length
  | [], _ => Nat.le_refl _
  | b :: bs, k => by
    have := places_len bs (k + 1)
    unfold places
    split
    · simp; exact this
    · simp; omega
theorem pe_trues {X : Cx} {e : PySem.Expr} {ta : TA} {scope : Scope} {p pos pos' pe pa pb pt p3 : Pos} {x1 : Nat} {xa xb : Str} (hw : ∀ {pins : List (Addr × Obj)} {σ : L2.St} {H : Hp} {s : Shared}, Inv X pins σ H s → Wa X.A s.heap)
    (hg : Gl X "enumerate") (hm : X.mg "enumerate" = none) (he : PA X [e] ta) (hs : starEach [e] X.env = [(false, eval e X.env)] := by rfl)
    (hkind : scope.kind = .function := by rfl) (hno : ∀ y ∈ scope.names, y.2 ≠ .cell ∧ y.2 ≠ .free := by decide +kernel) (hnames : ∀ y ∈ scope.names, y.2 = .local → scope.names.lookup y.1 = some .local := by decide +kernel)
    (ha : scope.names.lookup xa = some .local := by decide +kernel) (hb : scope.names.lookup xb = some .local := by decide +kernel) (hab : xa ≠ xb := by decide) (hda : (xa == ("__debug__" : Str)) = false := by decide) (hdb : (xb == ("__debug__" : Str)) = false := by decide)
    (hf : ∀ x, foldedSetIterable (.Call (.Name "enumerate" p) [e] [] pos) X.env x = pure x := by intro _; rfl) :
    PE X (.ListComp (.Name xa pe) [⟨.Tuple [.Name xa pa, .Name xb pb] x1 pt, .Call (.Name "enumerate" p) [e] [] pos, [.Name xb p3], 0⟩] scope pos') (tTrues X.K ta) := by
  refine ⟨fun pins s0 σ H Q I h => ?_⟩
  refine ListComp_goes (closure_ok fun y hy e => absurd e (hno y hy).2) (fun y hy => (hno y hy).1) hkind hnames ?_ hf
  refine Call_ (ld_blt I hg hm boot_enumerate (PyProof.Rows.callWith_type1 (thn (he.run pos pins s0 σ H _ I h) fun us s ⟨vs, H1, I1, r1, q1⟩ => ?_) hs rfl))
  obtain ⟨l, bs, ev, hq, q⟩ := q1
  subst ev
  cases r1 with
  | cons r rr =>
  cases rr
  cases r
  obtain ⟨its, rv, p', hz⟩ := I1.list hq
  have hlen : its.length = bs.length := by have := rv.length; simpa using this.symm
  have W0 := hw I1
  refine call_enumerate_list p'.isList fun h₁ hen hit hsz hk₁ => wpAny_pyIter_enum hen ?_
  have hl0 : s.heap.IsList l its.toArray := p'.isList
  have hlt : l < s.heap.objs.size := by obtain ⟨o, ho, _⟩ := hl0; exact Heap.lt_size ho
  have hlE : l ≠ s.heap.objs.size := Nat.ne_of_lt hlt
  have hxlt : ∀ b ∈ hx X.A, b < s.heap.objs.size := fun b hb => by
    rcases W0 with z | ⟨x, z1, o, _, z2, _⟩
    · unfold hx at hb; rw [z] at hb; cases hb
    · unfold hx at hb
      rw [z1] at hb
      have e : b = x := by simpa using hb
      rw [e]
      exact Heap.lt_size z2
  have D0 := draws_lst (prog := X.prog) (w := X.w) (A := X.A.in1) s.heap.objs.size l hlE its.toArray
  have G0 := Goes.enumFrom (elts := [.Name xa pa, .Name xb pb]) (x1 := x1) (pos := pt) 0 D0 (s.heap.objs.size + 1) (Nat.succ_ne_self _) (fun hm' => by
    rcases List.mem_cons.mp hm' with z | z
    · exact absurd z (Nat.succ_ne_self _)
    · rcases List.mem_cons.mp z with z | z
      · rw [← z] at hlt; exact absurd hlt (Nat.not_lt.mpr (Nat.le_succ _))
      · exact absurd (hxlt _ z) (Nat.not_lt.mpr (Nat.le_succ _))) (by simp)
  have hli : (h₁.IsList l its.toArray) := hl0.at fun o e => hk₁ _ o e
  refine ⟨_, _, _, _, _, _, rfl, G0, by rw [List.size_toArray, hlen]; have := hz; rw [List.length_map] at this; exact this, ⟨⟨_, by simpa using hen⟩, hit, hli, W0.all hk₁⟩, ?_, fun D C s₃ hB => ?_⟩
  · intro b hb
    have : b < s.heap.objs.size + 2 := by
      rcases List.mem_cons.mp hb with z | z
      · rw [z]; exact Nat.lt_succ_self _
      · rcases List.mem_cons.mp z with z | z
        · rw [z]; exact Nat.lt_add_of_pos_right (by decide)
        · rcases List.mem_cons.mp z with z | z
          · rw [z]; exact Nat.lt_add_right 2 hlt
          · exact Nat.lt_add_right 2 (hxlt _ z)
    show b < h₁.objs.size
    rw [hsz]
    exact this
  · obtain ⟨⟨h₃, tk₃, rfl⟩, old, nD, nC, hDC, hnm⟩ := hB
    have nC' : s.heap.objs.size + 2 ≤ C := by rw [← hsz]; exact nC
    have nD' : s.heap.objs.size + 2 ≤ D := by rw [← hsz]; exact nD
    have below : ∀ b : Addr, b < s.heap.objs.size + 2 → b ≠ C ∧ b ≠ D := fun b hb => nn nC' nD' hb
    have kinds : ∀ y, scope.names.lookup y = some .local → (compEnvC scope (cloFrom X.env.cells scope.names []) C X.env).kindOf y = some .local := fun y hy => lookup_relabel_local hy
    have hp : ((compEnvC scope (cloFrom X.env.cells scope.names []) C X.env).scope.kind == .class || ((compEnvC scope (cloFrom X.env.cells scope.names []) C X.env).scope.kind == .module && (compEnvC scope (cloFrom X.env.cells scope.names []) C X.env).locals != (compEnvC scope (cloFrom X.env.cells scope.names []) C X.env).globals)) = false := by
      show (scope.kind == .class || (scope.kind == .module && _)) = false
      rw [hkind]; rfl
    refine ⟨fun i vs s₁ => ∃ h' tk m, s₁ = { s with heap := h', toks := tk } ∧ h'.Ns C m ∧ Vals ((places (bs.take i) 0).map fun k => V.int (k : Nat)) vs ∧ ∀ b o, s.heap.get? b = some o → h'.get? b = some o, ⟨h₃, tk₃, _, rfl, hnm, .nil, fun b o e => old b o (hk₁ b o e)⟩, ?_, ?_, ?_⟩
    · rintro i vs s₁ h' tk ⟨h₄, tk₄, m, rfl, n₄, e₄, k₄⟩ hk' _
      have off : ∀ b : Addr, (b < s.heap.objs.size ∨ b = C) → b ∉ D :: [s.heap.objs.size + 1, s.heap.objs.size] := fun b hb hm => by
        rcases hb with hb | hb
        · rcases List.mem_cons.mp hm with z | z
          · exact (below b (Nat.lt_add_right 2 hb)).2 z
          · have z' : b = s.heap.objs.size + 1 ∨ b = s.heap.objs.size := by simpa using z
            rcases z' with z' | z' <;> rw [z'] at hb
            · exact absurd hb (Nat.not_lt.mpr (Nat.le_succ _))
            · exact absurd hb (Nat.lt_irrefl _)
        · rw [hb] at hm
          rcases List.mem_cons.mp hm with z | z
          · exact hDC z.symm
          · have z' : C = s.heap.objs.size + 1 ∨ C = s.heap.objs.size := by simpa using z
            rcases z' with z' | z' <;> rw [z'] at nC'
            · exact absurd nC' (Nat.not_le.mpr (Nat.lt_succ_self _))
            · exact absurd nC' (Nat.not_le.mpr (Nat.lt_add_of_pos_right (by decide)))
      exact ⟨h', tk, m, rfl, n₄.at' fun o e => hk' _ o (off _ (.inr rfl)) e, e₄, fun b o e => hk' b o (off _ (.inl (Heap.lt_size e))) (k₄ b o e)⟩
    · rintro i v vs s₁ hi ⟨T, t, x, rfl, hx, hT⟩ st ⟨h₄, tk₄, m, rfl, n₄, e₄, k₄⟩ hpl
      have hxi : its[i]? = some x := by simpa using hx
      obtain ⟨bv, hbv, rbv⟩ : ∃ b, bs[i]? = some b ∧ x = .bool b := by
        have hi' : i < bs.length := by
          have := (List.getElem?_eq_some_iff.mp hxi).1
          omega
        obtain ⟨u, hu, ru⟩ := rv.get (i := i) (x := V.bl bs[i]) (by rw [List.getElem?_map, List.getElem?_eq_getElem hi']; rfl)
        rw [hxi] at hu
        cases hu
        exact ⟨_, List.getElem?_eq_getElem hi', ru⟩
      subst rbv
      have W4 : Wa X.A h₄ := W0.all k₄
      refine asg_tup W4 hT rfl rfl fun h₅ hs₅ => ?_
      have up₅ : ∀ b o, h₄.get? b = some o → h₅.get? b = some o := fun b o e => hs₅ b o (Nat.ne_of_lt (Heap.lt_size e)) e
      show wpAny _ _ (assignInOrder [assign (.Name xa pa) _, assign (.Name xb pb) _] [.int (0 + (i : Int)) t, .bool bv]) _ _ _
      refine wpAny_assignInOrder_more (wpAny_assign_Name (wpAny_storeName_local (kinds _ ha) (n₄.at' fun o e => up₅ _ o e) (fun h₆ n₆ s₆ => ?_) hp))
      refine wpAny_assignInOrder_more (wpAny_assign_Name (wpAny_storeName_local (kinds _ hb) n₆ (fun h₇ n₇ s₇ => wpAny_assignInOrder_none ?_) hp))
      have up₇ : ∀ b o, b ≠ C → h₄.get? b = some o → h₇.get? b = some o := fun b o hb e => s₇.extBut _ _ hb (s₆.extBut _ _ hb (up₅ b o e))
      have k7 : ∀ b o, s.heap.get? b = some o → h₇.get? b = some o := fun b o e => up₇ b o (below b (Nat.lt_add_right 2 (Heap.lt_size e))).1 (k₄ b o e)
      have st7 : (∃ old, IsEnum h₇ (s.heap.objs.size + 1) s.heap.objs.size (0 + ((i + 1 : Nat) : Int)) old) ∧ h₇.IsListIter s.heap.objs.size l (i + 1) ∧ h₇.IsList l its.toArray ∧ Wa X.A.in1 h₇ := by
        obtain ⟨⟨a1, z1⟩, z2, z3, z4⟩ := st
        exact ⟨⟨a1, up₇ _ _ (below _ (Nat.lt_succ_self _)).1 z1⟩, z2.at fun o e => up₇ _ o (below _ (Nat.lt_add_of_pos_right (by decide))).1 e, z3.at fun o e => up₇ _ o (below _ (Nat.lt_add_right 2 hlt)).1 e, z4.keep fun b hb o e => up₇ b o (below b (Nat.lt_add_right 2 (hxlt b hb))).1 e⟩
      have next : Vals ((places (bs.take (i + 1)) 0).map fun k => V.int (k : Nat)) (vs ++ if bv then [Value.int (0 + (i : Int)) t] else []) := by
        rw [places_take bs 0 i bv hbv, List.map_append]
        refine e₄.append ?_
        cases bv
        · exact .nil
        · exact .cons ⟨t, by simp⟩ .nil
      refine wpAny_tests_one (isTrue_plain ?_)
      rw [eval_Name _ _ _ hdb]
      refine wpAny_bind (wpAny_standAt (wpAny_loadName_local hkind (kinds _ hb) n₇ (v := .bool bv) (by simp) (wpAny_truthy_bool ?_)))
      cases bv with
      | false =>
        rw [if_neg Bool.false_ne_true]
        exact ⟨⟨h₇, _, _, rfl, n₇, by simpa using next, k7⟩, st7, hpl.at fun o e => up₇ _ o hDC e⟩
      | true =>
        rw [if_pos rfl, eval_Name _ _ _ hda]
        refine wpAny_bind (wpAny_standAt (wpAny_loadName_local hkind (kinds _ ha) n₇ (v := .int (0 + (i : Int)) t) (by simp [hab]) ?_))
        exact ⟨⟨h₇, _, _, rfl, n₇, by simpa using next, k7⟩, st7, hpl.at fun o e => up₇ _ o hDC e⟩
    · rintro vs s₁ ⟨h₄, tk₄, m, rfl, n₄, e₄, k₄⟩ hpl
      have nD'' : s.heap.objs.size ≤ D := Nat.le_trans (Nat.le_add_right _ 2) nD'
      have hall : bs.take its.toArray.size = bs := by rw [List.size_toArray, hlen, List.take_length]
      rw [hall] at e₄
      refine ⟨m, n₄, fun h' hs' => ?_⟩
      have hD : H1 D = none := I1.hok.fresh nD''
      obtain ⟨n, hn⟩ := hpl.extBut hs'.extBut hDC
      have hz2 : ((places bs 0).map fun k => V.int (k : Nat)).length ≤ sizeLine := by
        rw [List.length_map]
        have h1 := places_len bs 0
        rw [List.length_map] at hz
        omega
      have ok : ObjOk X.prog X.w (upd H1 D (.lst ((places bs 0).map fun k => V.int (k : Nat)))) h' D (.lst ((places bs 0).map fun k => V.int (k : Nat))) := ⟨hz2, vs, n, e₄, hn⟩
      exact ⟨.ref D, _, I1.laid (t' := tk₄) (fun b o e => hs'.extBut b o (below b (Nat.lt_add_right 2 (Heap.lt_size e))).1 (k₄ b o e)) nD'' ok, rfl, q D hD⟩
end Er

/-! Ed: defs that are called whatever exception is handled, where no repr is under way. -/
namespace Er
open PySem PySem.Spec PyProof.Rows HotX L2 L2H
/-- what is handled, and where it stands -/
inductive Wm (A : Around) (outer : List Env) (H : Hp) (s : Shared) : List (Addr × Obj) → Prop
  | cold (h : A.handled = none) : Wm A outer H s []
  | hot (p : Addr × Obj) (h : Hot1 A p) (k : PinOk outer H s p) : Wm A outer H s [p]
/-- such a def's promise: the pinned exception, the arguments, the heap, the wanted end -/
abbrev SpW := List (Addr × Obj) → List V → Hp → VK → Prop
structure FnW (P : Program) (w : World) (K : PySem.W.Frag) (mg : Str → Option Value) (base : Heap) (k : Nat) (f : Addr) (fd : FuncData) (ps : List Str) (sp : SpW) : Prop where
  len : ∀ l vs H Q, sp l vs H Q → vs.length = ps.length
  run : ∀ (A : Around) (outer : List Env) (s : Shared) (H : Hp) (args : Args) (us : List Value) (vs : List V) (Q : VK) (l : List (Addr × Obj)), RoomH k A → A.guards = some [] → Wm A outer H s l → Env0 P w K mg base A outer s H → BindsTo s fd args (ps.zip us) → Vals vs us → sp l vs H Q →
    codeAny (model P w) A (.call (.ref f) args) (CR L2.CX0 outer P w H s Q L2.E0) s
abbrev calmOf : List (Addr × Obj) → Bool
  | [] => true
  | _ => false
/-- the context of such a def's body -/
abbrev cxW (P : Program) (w : World) (K : PySem.W.Frag) (mg : Str → Option Value) (base : Heap) (N : List Str) (qual : Str) (scope : Scope) (f : Addr) (cd : Value) (A : Around) (outer : List Env) (s : Shared) (H : Hp) (c : Bool) (l : List (Addr × Obj)) : Cx :=
  ({ cxOf L2.CX0 P w K mg base N qual scope f cd A outer s H L2.E0 with calm := c, pn := l } : Cx).nox
/-- what is known in the body -/
structure Kn (X : Cx) (l : List (Addr × Obj)) : Prop where
  guards : X.A.guards = some []
  warm : (X.A.handled = none ∧ l = [] ∧ X.calm = true) ∨ ∃ p, l = [p] ∧ Hot1 X.A p
  pn : X.pn = l
theorem Kn.wa {X : Cx} {l : List (Addr × Obj)} (k : Kn X l) {pins : List (Addr × Obj)} {σ : L2.St} {H : Hp} {s : Shared} (I : Inv X pins σ H s) : Wa X.A s.heap := by
  rcases k.warm with h | ⟨p, e, h1, vs, h2, h3⟩
  · exact .inl h.1
  · refine .inr ⟨p.1, h1, p.2, vs, (I.pin p (List.mem_append_left _ ?_)).1, h2, h3⟩
    rw [k.pn, e]
    exact List.mem_singleton.mpr rfl
theorem Kn.wm {X : Cx} {l : List (Addr × Obj)} (k : Kn X l) {pins : List (Addr × Obj)} {σ : L2.St} {H : Hp} {s : Shared} (I : Inv X pins σ H s) : Wm X.A X.stack H s l := by
  rcases k.warm with ⟨h, e, _⟩ | ⟨p, e, h⟩
  · rw [e]
    exact .cold h
  · rw [e]
    have q := I.pin p (List.mem_append_left _ (by rw [k.pn, e]; exact List.mem_singleton.mpr rfl))
    exact .hot p h ⟨q.1, q.2.1, fun hm => (List.mem_cons.mp (I.stkSub p.1 hm)).elim q.2.2.1 q.2.2.2.1, q.2.2.2.2⟩
theorem inv_startW {P : Program} {w : World} {K : PySem.W.Frag} {mg : Str → Option Value} {base : Heap} {N ps : List Str} {qual : Str} {scope : Scope} {f : Addr} {cd : Value} {A : Around} {outer : List Env} {s s1 : Shared} {H : Hp} {us : List Value} {vs : List V} {l : List (Addr × Obj)}
    (S : FnScope N ps scope) (wm : Wm A outer H s l) (e0 : Env0 P w K mg base A outer s H) (hl : vs.length = ps.length) (r : Vals vs us)
    (x : InCallC s s.heap.objs.size (bindL (envOfC qual scope s.heap.objs.size f cd).kindOf (ps.zip us) fun _ => none) (cellsFrom (s.heap.objs.size + 1) scope.names []) (bindC (envOfC qual scope s.heap.objs.size f cd).kindOf (ps.zip us) fun _ => none) s1) :
    Inv ({ cxOf L2.CX0 P w K mg base N qual scope f cd A outer s H L2.E0 with calm := calmOf l, pn := l } : Cx) [] (L2.start N vs) H s1 := by
  cases wm with
  | cold h => exact inv_start S h e0 hl r x
  | hot p h k => exact inv_startH S k e0 hl r x
theorem fn_ofW {P : Program} {w : World} {K : PySem.W.Frag} {mg : Str → Option Value} {base : Heap} {k : Nat} {f : Addr} {x qual : Str} {params : Arguments} {body : List Stmt} {scope : Scope} {dvs : List V} {kws : List (Str × V)} {fd : FuncData} {N ps : List Str} {sp : SpW}
    (F : FunD K x qual params body scope dvs kws f fd) (S : FnScope N ps scope) (len : ∀ l vs H Q, sp l vs H Q → vs.length = ps.length)
    (hbody : ∀ (cdv : Value) (A : Around) (outer : List Env) (s : Shared) (H : Hp) (vs : List V) (Q : VK) (l : List (Addr × Obj)), RoomH k (A.deeper (envOfC qual scope s.heap.objs.size f cdv)) →
      Kn (cxW P w K mg base N qual scope f cdv A outer s H (calmOf l) l) l → sp l vs H Q →
      ∃ t, PSs (cxW P w K mg base N qual scope f cdv A outer s H (calmOf l) l) body t ∧ t { nx := fun _ H' => Q .non H', rt := Q } (L2.start N vs) H) : FnW P w K mg base (k + 1) f fd ps sp := by
  obtain ⟨oc, od, dV, kV, doc, pm, an, cdv, ct, osl, rfl, lk, hcd, _, _⟩ := F.ex
  refine ⟨len, fun A outer s H args us vs Q l hr hg wm e0 hb r hsp => ?_⟩
  have hl := len _ _ _ _ hsp
  have KX : K.In s.heap := e0.mod.kin.keeps fun b o e => (e0.bs b o e).1
  have lim : s.heap.NoLimit := e0.mod.nolimit.keeps fun b o e => (e0.bs b o e).1
  have hkind : ∀ y ∈ ps.zip us, scope.names.lookup y.1 = some .local ∨ (scope.names.lookup y.1 = some .cell ∧ ((cellsFrom (s.heap.objs.size + 1) scope.names []).lookup y.1).isSome = true) := by
    rintro ⟨n, v⟩ hy
    exact (S.par n (List.of_mem_zip hy).1).imp id fun q => ⟨q, PySem.W.cellsFrom_some _ _ _ (.inl q)⟩
  refine codeAny_call_function hr.depth (KX _ _ lk) rfl S.co S.gen rfl (PySem.W.codeRec_of KX hcd) (hb _ _ _ _ (wpAny_newFunctionEnv_cells S.kind hkind ?_))
  rintro env rfl s1 x
  refine ⟨lim.keeps x.toInCall.keep, codeAny_func ?_⟩
  have kn : Kn (cxW P w K mg base N qual scope f cdv A outer s H (calmOf l) l) l := by
    refine ⟨hg, ?_, rfl⟩
    cases wm with
    | cold h => exact .inl ⟨h, rfl, rfl⟩
    | hot p h k => exact .inr ⟨p, rfl, h⟩
  obtain ⟨t, ht, hq⟩ := hbody cdv A outer s H vs Q l (hr.deeper _) kn hsp
  have I := inv_startW S wm e0 hl r x
  refine wpAny_mono (ht.nox.run [] s1 (L2.start N vs) H _ I hq) ?_ fun e s' hs => hs
  intro fl s' hs
  cases fl with
  | ret u =>
    obtain ⟨v, σ', H', J, rv, q⟩ := hs
    exact ⟨v, H', J.os, J.bare, J.base, J.hok, rv, q⟩
  | next =>
    obtain ⟨σ', H', J, q⟩ := hs
    exact ⟨.non, H', J.os, J.bare, J.base, J.hok, rfl, q⟩
  | brk => exact hs.elim fun _ h => h.elim fun _ h => h.2.elim
  | cont => exact hs.elim fun _ h => h.elim fun _ h => h.2.elim
/-- f(..) in such a body -/
def tCallW (sp : SpW) (l : List (Addr × Obj)) (t : TA) : TE := fun σ H Q => t σ H fun vs H1 => sp l vs H1 Q
section
variable {X : Cx} {k : Nat} {f : Addr} {fd : FuncData} {ps : List Str} {sp : SpW} {l : List (Addr × Obj)} {x : Str} {p pos : Pos} {e : PySem.Expr} {es : List PySem.Expr} {t : TA}
theorem run_fnW {pins : List (Addr × Obj)} {σ : L2.St} {H : Hp} {s : Shared} {Q : VK} {us : List Value} {vs : List V} (F : FnW X.prog X.w X.K X.mg X.base k f fd ps sp) (hr : RoomH k X.A) (kn : X.A.guards = some []) (wm : Wm X.A X.stack H s l) (hb : Binds X.K fd ps [])
    (I : Inv X pins σ H s) (r : Vals vs us) (h : sp l vs H Q) : wpAny (model X.prog X.w) X.A (call (.ref f) us) (EP X pins σ Q) X.xe s := by
  have hl : us.length = ps.length := by rw [← r.length]; exact F.len _ _ _ _ h
  have b := hb s us I.kIn (by rw [List.append_nil]; exact hl)
  rw [List.append_nil] at b
  refine wpAny_call (codeAny_mono (F.run X.A X.stack s H ⟨us, []⟩ us vs Q l hr kn wm I.env0 b r h) ?_)
  intro r s' hq
  cases r with
  | error e => exact False.elim hq
  | ok fl =>
    cases fl with
    | ret u => exact I.after hq
    | _ => exact False.elim hq
theorem pe_callW (F : FnW X.prog X.w X.K X.mg X.base k f fd ps sp) (hr : RoomH k X.A) (kn : X.A.guards = some []) (wm : ∀ {pins : List (Addr × Obj)} {σ : L2.St} {H : Hp} {s : Shared}, Inv X pins σ H s → Wm X.A X.stack H s l) (hg : Gl X x) (hm : X.mg x = some (.ref f)) (hk : PySem.W.keepIn X.K (.ref f) = true) (hb : Binds X.K fd ps [])
    (ha : PA X (e :: es) t) (hdb : (x == ("__debug__" : Str)) = false := by decide) (he : starEach (e :: es) X.env = (false, eval e X.env) :: starEach es X.env := by rfl) (hpl : (backTo pos (starEach es X.env)).any (·.1) = false := by rfl) :
    PE X (.Call (.Name x p) (e :: es) [] pos) (tCallW sp l t) := by
  refine ⟨fun pins s σ H Q I h => ?_⟩
  refine wpAny_Call_Name_kw (ld_glob I hg hm ?_ hdb)
  refine PySem.W.callWith_K (h₀ := X.base) I.ok.mod.kin hk (thn (ha.run pos pins s σ H _ I h) ?_) he hpl
  rintro us s1 ⟨vs, H1, I1, r, q⟩
  exact ⟨I1.kIn, run_fnW F hr kn (wm I1) hb I1 r q⟩
/-- in an except suite: the exception that it holds -/
theorem wm_suite {a : Addr} {oe : Obj} {pn : List (Addr × Obj)} {vs : Array Value} (hd : oe.data = .fields vs) (h2 : vs[2]? = some .none) {pins : List (Addr × Obj)} {σ : L2.St} {H : Hp} {s : Shared} (I : Inv (X.suite a ((a, oe) :: pn)) pins σ H s) :
    Wm (X.suite a ((a, oe) :: pn)).A (X.suite a ((a, oe) :: pn)).stack H s [(a, oe)] := by
  have q := I.pin (a, oe) (List.mem_append_left _ List.mem_cons_self)
  exact .hot (a, oe) ⟨rfl, vs, hd, h2⟩ ⟨q.1, q.2.1, fun hm => (List.mem_cons.mp (I.stkSub a hm)).elim q.2.2.1 q.2.2.2.1, q.2.2.2.2⟩
end
end Er

/-! Ee: an exception of an own class, made or handled: its fields, isinstance. -/
namespace Er
open PySem PySem.Spec PyProof.Rows HotX L2 L2H
/-- an exception's dict, whether it was raised or not -/
def FsAt (H : Hp) (d : Addr) (fs : List (Str × V)) : Prop := H d = some (.xd fs) ∨ H d = some (exd d fs)
/-- at a stands an exception of the class at C, its dict at d: pinned, or tracked -/
def ErrIn (l : List (Addr × Obj)) (H : Hp) (a C : Addr) (d : Option Addr) : Prop :=
  (∃ oe, (a, oe) ∈ l ∧ oe.cls = .ref C ∧ oe.dict = d ∧ ∃ vs, oe.data = .fields vs) ∨ ∃ φ, H a = some (.ext φ) ∧ ∀ h, φ h → ∃ oe : Obj, h.get? a = some oe ∧ oe.cls = .ref C ∧ oe.dict = d ∧ ∃ vs, oe.data = .fields vs
theorem ErrIn.get {X : Cx} {l : List (Addr × Obj)} {pins : List (Addr × Obj)} {σ : L2.St} {H : Hp} {s : Shared} {a C : Addr} {d : Option Addr} (x : ErrIn l H a C d) (hp : ∀ q ∈ l, q ∈ X.pn) (I : Inv X pins σ H s) : ∃ oe : Obj, s.heap.get? a = some oe ∧ oe.cls = .ref C ∧ oe.dict = d ∧ ∃ vs, oe.data = .fields vs := by
  rcases x with ⟨oe, h1, h2⟩ | ⟨φ, h1, h2⟩
  · exact ⟨oe, (I.pin (a, oe) (List.mem_append_left _ (hp _ h1))).1, h2⟩
  · have z : ObjOk X.prog X.w H s.heap a (.ext φ) := I.hok a _ h1
    exact h2 _ z.1
theorem FsAt.get {P : Program} {w : World} {H : Hp} {h : Heap} {d : Addr} {fs : List (Str × V)} (x : FsAt H d fs) (hok : HOk P w H h) : ∃ mA, h.Ns1 d mA ∧ ∀ f, RelO (fs.lookup f) (mA f) := by
  rcases x with x | x
  · exact hok d _ x
  · exact exd_at hok x
/-- the dict stands, where there is one -/
def DcOk (H : Hp) (d : Option Addr) : Prop := ∀ dd, d = some dd → ∃ fs, FsAt H dd fs
theorem inst_of {X : Cx} {l : List (Addr × Obj)} {pins : List (Addr × Obj)} {σ : L2.St} {H : Hp} {s : Shared} {a C : Addr} {d : Option Addr} (x : ErrIn l H a C d) (hp : ∀ q ∈ l, q ∈ X.pn) (I : Inv X pins σ H s) (hd : DcOk H d) : ∃ oe od, PySem.W.InstAt s.heap a oe C od := by
  obtain ⟨⟨oc, od, oda, osl⟩, h1, h2, h3, vs, h4⟩ := x.get hp I
  dsimp only at h2 h3 h4
  subst h2 h3 h4
  cases od with
  | none => exact ⟨_, none, h1, rfl, rfl, trivial⟩
  | some dd =>
    obtain ⟨fs, hf⟩ := hd dd rfl
    obtain ⟨mA, hns, _⟩ := hf.get I.hok
    obtain ⟨o, ho, _⟩ := lookIn_ns hns
    exact ⟨_, some o, h1, rfl, rfl, ho⟩
/-- e.n -/
def tAt (K : PySem.W.Frag) (l : List (Addr × Obj)) (n : Str) (te : TE) : TE := fun σ H Q => te σ H fun x H1 => ∃ (a C dd : Addr) (fs : List (Str × V)) (v : V), x = .ref a ∧ ExcC K C ∧ PySem.W.findIn K (.ref C) n = some none ∧ ErrIn l H1 a C (some dd) ∧ FsAt H1 dd fs ∧ fs.lookup n = some v ∧ Q v H1
theorem pe_at {X : Cx} {l : List (Addr × Obj)} {e : PySem.Expr} {te : TE} {pos : Pos} {n : Str} (hp : ∀ q ∈ l, q ∈ X.pn) (he : PE X e te) (hb : attributeBase e n X.env (eval e X.env) = eval e X.env := by rfl) : PE X (.Attribute e n pos) (tAt X.K l n te) := by
  refine ⟨fun pins s σ H Q I h => ?_⟩
  refine attr_of hb (thn (he.run pins s σ H _ I h) ?_)
  rintro u s1 ⟨x, H1, I1, rx, a, C, dd, fs, v, ex, T, hno, er, hfs, hl, q⟩
  subst ex
  obtain rfl : u = Value.ref a := rx
  obtain ⟨oe, h1, h2, h3, vs, h4⟩ := er.get hp I1
  obtain ⟨mA, hns, hr⟩ := hfs.get I1.hok
  obtain ⟨od, ho, hlk⟩ := lookIn_ns hns
  obtain ⟨u, hu, ru⟩ := RelO.some_of (v := v) (o := mA n) (by rw [← hl]; exact hr n)
  have J : PySem.W.InstAt s1.heap a oe C (some od) := ⟨h1, h2, by unfold PySem.W.notCls; rw [h4] <;> rfl, by rw [h3]; exact ho⟩
  exact HandSPX.exc_get I1.kIn J T.hg T.hk T.hs (PySem.W.findObj_own T.hd hno rfl (by rw [hlk, hu])) (handed_of ru) ⟨v, H1, I1.tok _, ru, q⟩
/-- isinstance(e, c) -/
def rIsX (K : PySem.W.Frag) (l : List (Addr × Obj)) : List V → Hp → VK → Prop := fun xs H Q => ∃ (a C : Addr) (d : Option Addr) (c : V) (cv : Value) (b : Bool), xs = [.ref a, c] ∧ ExcC K C ∧ ErrIn l H a C d ∧ DcOk H d ∧ (∀ u, RelV c u → u = cv) ∧ PySem.W.kitOne K (.ref C) cv = some b ∧ Q (.bl b) H
theorem call_isX {X : Cx} {l : List (Addr × Obj)} (hp : ∀ q ∈ l, q ∈ X.pn) : CallR X (.builtin "isinstance") (rIsX X.K l) := by
  intro pins s σ H xs us Q I r h
  obtain ⟨a, C, d, c, cv, b, rfl, T, er, hd, hcv, e, q⟩ := h
  cases r with
  | cons rx rr =>
  cases rr with
  | cons rt rr =>
  cases rr
  cases rx
  have ec := hcv _ rt
  subst ec
  obtain ⟨oe, od, J⟩ := inst_of er hp I hd
  have hcl : (PySem.W.clsIn X.K C).isSome = true := by
    obtain ⟨cd, hc, _⟩ := PySem.W.any_some T.hd
    rw [hc]; rfl
  exact PySem.W.kia_one (PySem.W.kitx_exc hcl T.hg T.hk T.hs T.ha T.hn T.ht T.hm) I.kIn J e (fun z => nomatch z) fun tk => ⟨.bl b, H, I.kept (t' := tk) fun _ _ z => z, rfl, q⟩
end Er

set_option maxHeartbeats 4000000
/-! Ef: an own exception class called, with names too. -/
namespace PySem
namespace ErK
open PySem.W PySem.Calls PyProof.Rows PySem.HandSPX
section
variable {prog : Program} {w : World} {A : Around} {E : Value → Shared → Prop} {R : Result → Shared → Prop} {h : Heap} {g : Array GenState} {d : Drawn} {t : Nat} {os : OsState}
variable {nm q : Str} {C N : Addr} {bs bm bmB : List Value} {hdct : Bool} {sn : List Str} {sub : List Value} {ab : Bool} {col : Option Bool} {dd : Option Addr} {k0 k1 k2 k3 k5 : Option Value} {B newId initId : String}
/-- what is known of the class, for all of these -/
structure Cl (prog : Program) (w : World) (h : Heap) (C : Addr) (nm q : Str) (N : Addr) (bs bm bmB : List Value) (hdct : Bool) (sn : List Str) (sub : List Value) (ab : Bool) (col : Option Bool) (dd : Option Addr) (k0 k1 k2 k3 k5 : Option Value) (B newId initId : String) : Prop where
  F : ExcBaseFacts B newId initId bmB
  T : ∀ X : String, bm.contains (.type X) = bmB.contains (.type X)
  at_ : h.get? C = some (excClassObj nm q C N bs bm hdct sn sub ab col dd k0 k1 k2 k3 k5 newId)
theorem look_new (L : Cl prog w h C nm q N bs bm bmB hdct sn sub ab col dd k0 k1 k2 k3 k5 B newId initId) {rest : List Value} {kw : List (Str × Value)} {Q : Unit → Shared → Prop} (hq : Q () ⟨h, g, d, t, os⟩) :
    wpAny (model prog w) A (checkBuiltinCall newId ⟨.ref C :: rest, kw⟩) Q E ⟨h, g, d, t, os⟩ := by
  have hC := L.at_
  have has : (Value.ref C :: bm).contains (.type B) = true := by rw [List.contains_cons, L.T, L.F.hasB, Bool.or_true]
  have z := L.F.noStar
  simp only [checkBuiltinCall, L.F.newKind, L.F.newSplit, L.F.newRow]
  repeat (first
    | refine wpAny_loadPart_at hC ?_
    | (refine wpAny_isSubtype_exc hC ?_; rw [has])
    | refine wpAny_staticBase_exc hC ?_
    | refine wpAny_madeBy_exc hC ?_
    | simp only [bne_self_eq_false, Bool.false_eq_true, if_false]
    | wp_step)
  exact hq
theorem run_new (L : Cl prog w h C nm q N bs bm bmB hdct sn sub ab col dd k0 k1 k2 k3 k5 B newId initId) {rest : List Value} {kw : List (Str × Value)}
    (hq : R (.ok (.ret (.ref (h.objs.size + 1)))) ⟨(h.push (kdv_tup rest)).push (excO C h.objs.size), g, d, t, os⟩) (hz : rest.length ≤ sizeLine) : codeAny (model prog w) A (.builtin newId ⟨.ref C :: rest, kw⟩) R ⟨h, g, d, t, os⟩ := by
  have hC := L.at_
  have z := L.F.ends
  have hasB : (Value.ref C :: bm).contains (.type B) = true := by rw [List.contains_cons, L.T, L.F.hasB, Bool.or_true]
  have hasA : (Value.ref C :: bm).contains (.type "AttributeError") = false := by rw [List.contains_cons, L.T, L.F.noAttr]; rfl
  have hasN : (Value.ref C :: bm).contains (.type "NameError") = false := by rw [List.contains_cons, L.T, L.F.noName]; rfl
  refine codeAny_builtinAt L.F.entry ?_
  unfold Builtin.«BaseException.__new__»
  refine wpAt_bind ?_
  show wpAt _ _ _ (stack >>= _) _ _ _
  refine wpAt_bind (wpAt_stack fun p below => wpAt_of_wpAny ?_)
  wp_walk
  refine wpAt_of_wpAny ?_
  rw [L.F.owner]
  repeat (first
    | with_reducible refine wpAny_madeHere_exc L.F.canon hC ?_
    | with_reducible refine wpAny_loadPart_at hC ?_
    | (with_reducible refine wpAny_isSubtype_exc hC ?_; first | rw [hasB] | rw [hasA] | rw [hasN])
    | wp_step)
  show R _ _
  rw [Heap.size_push]
  exact hq
theorem run_type (L : Cl prog w h C nm q N bs bm bmB hdct sn sub ab col dd k0 k1 k2 k3 k5 B newId initId) {rest : List Value} {kw : List (Str × Value)} {fI : Addr} {Q : Fin → Shared → Prop}
    (hi : W.Looks (model prog w) h (typeLookup (.ref C) "__init__") (some (.ref fI))) (hb : ∀ self, W.Looks (model prog w) h (bindSpecial (.ref fI) self) (.ref fI, [self])) (hz : rest.length ≤ sizeLine)
    (hq : codeAny (model prog w) A (.call (.ref fI) ⟨.ref (h.objs.size + 1) :: rest, kw⟩)
      (fun r s' => match r with | .ok (.ret v) => v = .none ∧ Q (.done (.ret (.ref (h.objs.size + 1)))) s' | .ok _ => False | .error e => E e s')
      ⟨(h.push (kdv_tup rest)).push (excO C h.objs.size), g, d, t, os⟩) :
    wpAny (model prog w) A (Builtin.«type.__call__» ⟨.ref C :: rest, kw⟩) Q E ⟨h, g, d, t, os⟩ := by
  have hC := L.at_
  repeat (first
    | with_reducible refine wpAny_loadPart_at hC ?_
    | with_reducible refine wpAny_madeBy_exc hC ?_
    | wp_step)
  refine codeAny_call_builtin_code (Code.quiet_builtin _ L.F.quiet) (look_new L (run_new L ?_ hz))
  show wpAny (model prog w) _ _ _ _ _
  have k : ∀ b o, h.get? b = some o → ((h.push (kdv_tup rest)).push (excO C h.objs.size)).get? b = some o := fun b o e => Heap.get?_push_of_some _ (Heap.get?_push_of_some _ e)
  have hC₁ := k _ _ hC
  have hget : ((h.push (kdv_tup rest)).push (excO C h.objs.size)).get? (h.objs.size + 1) = some (excO C h.objs.size) := by heap_get
  have hcC : (Value.ref C :: bm).contains (.ref C) = true := by simp
  unfold isInstance
  repeat (first
    | with_reducible refine wpAny_loadPart_at hget ?_
    | (with_reducible refine wpAny_isSubtype_exc hC₁ ?_; rw [hcC])
    | wp_step)
  show wpAny (model prog w) _ (typeLookup (.ref C) _) _ _ _
  refine (hi.keeps k).at (wpAny_holding (wpAny_bind (((hb (.ref (h.objs.size + 1))).keeps k).at (wpAny_bind (wpAny_call (codeAny_mono hq ?_))))))
  intro r s' z
  rcases r with e | (v | _ | _ | _) <;> first | exact z | exact z.elim | skip
  obtain ⟨rfl, z⟩ := z
  first
    | exact wpAny_pure (wpAny_pure z)
    | (wp_walk; exact z)
/-- C(.., x = ..) -/
theorem run_cls (L : Cl prog w h C nm q N bs bm bmB hdct sn sub ab col dd k0 k1 k2 k3 k5 B newId initId) {rest : List Value} {kw : List (Str × Value)} {fI : Addr}
    (hi : W.Looks (model prog w) h (typeLookup (.ref C) "__init__") (some (.ref fI))) (hb : ∀ self, W.Looks (model prog w) h (bindSpecial (.ref fI) self) (.ref fI, [self])) (hz : rest.length ≤ sizeLine)
    (hq : codeAny (model prog w) (A.under (.builtin "type.__call__" ⟨.ref C :: rest, kw⟩)) (.call (.ref fI) ⟨.ref (h.objs.size + 1) :: rest, kw⟩) (W.InitBack (h.objs.size + 1) R) ⟨(h.push (kdv_tup rest)).push (excO C h.objs.size), g, d, t, os⟩) :
    codeAny (model prog w) A (.call (.ref C) ⟨rest, kw⟩) R ⟨h, g, d, t, os⟩ := by
  have hC := L.at_
  have f1 := tc_lookup
  have f2 := tc_bind (.ref C)
  have hTy : (⟨h, g, d, t, os⟩ : Shared).TypeIs (.ref C) "type" := ⟨_, hC, rfl⟩
  refine codeAny_of_tree ?_
  show wpAny (model prog w) _ (callAny (.ref C) _) _ _ _
  repeat (any_goals (first
    | assumption
    | with_reducible refine wpAny_loadPart_at hC ?_
    | wp_step))
  refine ⟨rfl, codeAny_call_builtin_at (Code.quiet_builtin _ (by decide +kernel)) entry_typeCall (wpAny_check_type_call_sub hC (run_type L hi hb hz (codeAny_mono hq ?_)))⟩
  intro r s' z
  rcases r with e | (v | _ | _ | _) <;> exact z
end
end ErK
end PySem

set_option maxHeartbeats 1000000
/-! Eg: exceptions of own classes as values, and raised. -/
namespace Er
open PySem PySem.Spec PyProof.Rows HotX L2 L2H
section
variable {X : Cx}
/-- C(..) by its own __init__, the arguments as they are bound -/
theorem run_exc {pins : List (Addr × Obj)} {σ : L2.St} {H : Hp} {s : Shared} {us us2 : List Value} {vs2 : List V} {kw : List (Str × Value)} {C fI : Addr} {k : Nat} {fd : FuncData} {ps : List Str} {sp : Sp} {P : VK} {Q : Value → Shared → Prop} (T : OexC X.K C)
    (iC : PySem.W.findIn X.K (.ref C) "__init__" = some (some (.ref fI))) (tI : PySem.W.typeIn X.K (.ref fI) = some (.type "function")) (F : FnOk X.prog X.w X.K X.mg X.base L2.CX0 k fI fd ps sp) (hr : Room (k + 1) X.A)
    (hb : ∀ (s : Shared) (a : Value), X.K.In s.heap → BindsTo s fd ⟨a :: us, kw⟩ (ps.zip (a :: us2))) (hz : us.length ≤ sizeLine) (I : Inv X pins σ H s) (r : Vals vs2 us2)
    (h : ∀ a, H a = none → sp (.ref a :: vs2) (upd H a (exo a C none)) (fun v H2 => v = .non ∧ P (.ref a) H2) L2.E0)
    (hQ : ∀ a s' H2, s.heap.objs.size ≤ a → H a = none → (∃ h1 t1, Inv X pins σ (upd H a (exo a C none)) { s with heap := h1, toks := t1 } ∧ (∀ b o, s.heap.get? b = some o → h1.get? b = some o) ∧ Un (frs X.stack) [] (upd H a (exo a C none)) H2 h1 s'.heap ∧ HOk X.prog X.w H2 s'.heap ∧ s'.os = s.os ∧ AllBare s'.gens) → P (.ref a) H2 → Q (.ref a) s') :
    wpAny (model X.prog X.w) X.A (call (.ref C) us kw) Q X.xe s := by
  obtain ⟨nm, q, N, bs, bm, sn, sub, ab, col, dd, k0, k1, k2, k3, k5, hC, hbm⟩ := T.cls
  obtain ⟨hp, g, dr, tk, os⟩ := s
  have hsz : hp.objs.size ≤ hp.objs.size + 1 := Nat.le_succ _
  have hn : H (hp.objs.size + 1) = none := I.hok.fresh hsz
  have hq := h (hp.objs.size + 1) hn
  have kk : ∀ b o, hp.get? b = some o → ((hp.push (PySem.W.kdv_tup us)).push (PySem.HandSPX.excO C hp.objs.size)).get? b = some o := fun b o e => Heap.get?_push_of_some _ (Heap.get?_push_of_some _ e)
  have hget : ((hp.push (PySem.W.kdv_tup us)).push (PySem.HandSPX.excO C hp.objs.size)).get? (hp.objs.size + 1) = some (PySem.HandSPX.excO C hp.objs.size) := by heap_get
  have I2 : Inv X pins σ (upd H (hp.objs.size + 1) (exo (hp.objs.size + 1) C none)) ⟨(hp.push (PySem.W.kdv_tup us)).push (PySem.HandSPX.excO C hp.objs.size), g, dr, tk, os⟩ :=
    I.laid (t' := tk) (a := hp.objs.size + 1) (o := exo (hp.objs.size + 1) C none) kk hsz (exo_ok hget)
  have r2 : Vals (V.ref (hp.objs.size + 1) :: vs2) (Value.ref (hp.objs.size + 1) :: us2) := .cons rfl r
  refine wpAny_call (PySem.ErK.run_cls ⟨PySem.F.excBase_ValueError, fun Y => PySem.HandSPX.refsVE_contains Y bm hbm, I.kIn _ _ hC⟩ (PySem.W.looks_findIn I.kIn iC) (fun self => PySem.W.bind_fn I.kIn self tI) hz ?_)
  refine codeAny_mono (F.run _ X.stack _ _ ⟨Value.ref (hp.objs.size + 1) :: us, kw⟩ _ _ _ L2.E0 (hr.make C us kw) (I2.env0.make C us kw) (hb _ _ I2.kIn) r2 hq) ?_
  intro r s' hq'
  cases r with
  | error er => exact False.elim hq'
  | ok fl =>
    cases fl with
    | ret u =>
      obtain ⟨v, H2, os2, bare2, un2, hok2, rv, ev, q2⟩ := hq'
      subst ev
      exact ⟨rv, hQ _ s' H2 hsz hn ⟨_, tk, I2, kk, un2, hok2, os2, bare2⟩ q2⟩
    | _ => exact False.elim hq'
/-- .. as a value -/
def tMkV (C : Addr) (sp : Sp) (gV : List V → List V) (t : TA) : TE := fun σ H Q => t σ H fun vs H1 => vs.length ≤ 100 ∧ ∀ a, H1 a = none → sp (.ref a :: gV vs) (upd H1 a (exo a C none)) (fun v H2 => v = .non ∧ Q (.ref a) H2) L2.E0
/-- .. raised -/
def tMkN (C : Addr) (sp : Sp) (t : TA) : L2.St → Hp → XK → Prop := fun σ H Q => t σ H fun vs H1 => vs.length ≤ 100 ∧ ∀ a, H1 a = none → sp (.ref a :: vs) (upd H1 a (exo a C none))
  (fun v H2 => v = .non ∧ ∃ (d : Addr) (fs : List (Str × V)), H2 a = some (exo a C (some d)) ∧ H2 d = some (exd d fs) ∧ H1 d = none ∧ Q (.ref C) (some d) (upd (del H2 a) d (.xd fs))) L2.E0
theorem hun {n : Nat} (h : n ≤ 100) : n ≤ sizeLine := by rw [sizeLine_eq]; omega
variable {x : Str} {e : PySem.Expr} {es : List PySem.Expr} {kws : List Keyword} {ks : List Str} {t tk : TA} {p pos : Pos} {C fI : Addr} {k : Nat} {fd : FuncData} {ps : List Str} {sp : Sp} {g : List Value → List Value} {gV : List V → List V}
theorem pe_mkP (T : OexC X.K C) (iC : PySem.W.findIn X.K (.ref C) "__init__" = some (some (.ref fI))) (tI : PySem.W.typeIn X.K (.ref fI) = some (.type "function")) (F : FnOk X.prog X.w X.K X.mg X.base L2.CX0 k fI fd ps sp) (hr : Room (k + 1) X.A) (hb : Binds X.K fd ps [])
    (hg : Gl X x) (hm : X.mg x = some (.ref C)) (ha : PA X (e :: es) t) (hdb : (x == ("__debug__" : Str)) = false := by decide) (he : starEach (e :: es) X.env = (false, eval e X.env) :: starEach es X.env := by rfl) (hpl : (backTo pos (starEach es X.env)).any (·.1) = false := by rfl) :
    PE X (.Call (.Name x p) (e :: es) [] pos) (tMkV C sp id t) := by
  refine ⟨fun pins s σ H Q I h => ?_⟩
  refine wpAny_Call_Name_kw (ld_glob I hg hm ?_ hdb)
  refine PySem.W.callWith_K (h₀ := X.base) I.ok.mod.kin T.kC (thn (ha.run pos pins s σ H _ I h) ?_) he hpl
  rintro us s1 ⟨vs, H1, I1, r1, hz, q⟩
  refine ⟨I1.kIn, ?_⟩
  have hl : us.length + 1 = ps.length := by
    have e := F.len _ _ _ _ (q s1.heap.objs.size (I1.hok.fresh (Nat.le_refl _)))
    rw [← e, List.length_cons, show id vs = vs from rfl, r1.length]
  refine run_exc (us2 := us) (vs2 := vs) (P := Q) T iC tI F hr (fun s a K => ?_) (show us.length ≤ sizeLine by rw [← r1.length]; exact hun hz) I1 r1 q ?_
  · have b := hb s (a :: us) K (by rw [List.append_nil, List.length_cons]; exact hl)
    rw [List.append_nil] at b
    exact b
  · rintro a s' H2 hsz hn ⟨h1, t1, I2, kk, un2, hok2, os2, bare2⟩ q2
    exact ⟨.ref a, H2, I2.call' os2 un2 hok2 bare2 (fun b z => absurd z (by simp)), rfl, q2⟩
theorem pe_mkK (T : OexC X.K C) (iC : PySem.W.findIn X.K (.ref C) "__init__" = some (some (.ref fI))) (tI : PySem.W.typeIn X.K (.ref fI) = some (.type "function")) (F : FnOk X.prog X.w X.K X.mg X.base L2.CX0 k fI fd ps sp) (hr : Room (k + 1) X.A)
    (hb : ∀ (s : Shared) (a : Value) (ws : List Value), X.K.In s.heap → ws.length = ks.length → BindsTo s fd ⟨[a], ks.zip ws⟩ (ps.zip (a :: g ws))) (hgv : ∀ {zs : List V} {ws : List Value}, Vals zs ws → Vals (gV zs) (g ws)) (hks0 : ks.length + 1 = ps.length) (hgl : ∀ zs, (gV zs).length = zs.length)
    (hg : Gl X x) (hm : X.mg x = some (.ref C)) (hkw : PK X kws tk) (hall : (backToKw pos (keywordEach kws X.env)).all (·.1.isSome) = true := by rfl) (hks : (backToKw pos (keywordEach kws X.env)).filterMap (·.1) = ks := by rfl) (hdb : (x == ("__debug__" : Str)) = false := by decide)
    (hpl : ((backTo pos (starEach [] X.env)).any (·.1) || (backToKw pos (keywordEach kws X.env)).any (·.1.isNone)) = false := by rfl) :
    PE X (.Call (.Name x p) [] kws pos) (tMkV C sp gV tk) := by
  refine ⟨fun pins s σ H Q I h => ?_⟩
  refine wpAny_Call_Name_kw (ld_glob I hg hm ?_ hdb)
  refine PySem.W.callWith_KW0 (h₀ := X.base) I.ok.mod.kin T.kC hall (thn (hkw.run pos pins s σ H _ I h) ?_) hpl
  rintro ws s1 ⟨zs, H1, I1, r1, hz, q⟩
  refine ⟨I1.kIn, ?_⟩
  rw [hks]
  have hl : ws.length = ks.length := by
    have e := F.len _ _ _ _ (q s1.heap.objs.size (I1.hok.fresh (Nat.le_refl _)))
    rw [List.length_cons, hgl, r1.length] at e
    omega
  refine run_exc (us := []) (us2 := g ws) (vs2 := gV zs) (P := Q) T iC tI F hr (fun s a K => hb s a ws K hl) (Nat.zero_le _) I1 (hgv r1) q ?_
  rintro a s' H2 hsz hn ⟨h1, t1, I2, kk, un2, hok2, os2, bare2⟩ q2
  exact ⟨.ref a, H2, I2.call' os2 un2 hok2 bare2 (fun b z => absurd z (by simp)), rfl, q2⟩
theorem pmk_P (T : OexC X.K C) (iC : PySem.W.findIn X.K (.ref C) "__init__" = some (some (.ref fI))) (tI : PySem.W.typeIn X.K (.ref fI) = some (.type "function")) (F : FnOk X.prog X.w X.K X.mg X.base L2.CX0 k fI fd ps sp) (hr : Room (k + 1) X.A) (hb : Binds X.K fd ps [])
    (hg : Gl X x) (hm : X.mg x = some (.ref C)) (ha : PA X (e :: es) t) (hdb : (x == ("__debug__" : Str)) = false := by decide) (he : starEach (e :: es) X.env = (false, eval e X.env) :: starEach es X.env := by rfl) (hpl : (backTo pos (starEach es X.env)).any (·.1) = false := by rfl) :
    L2N.PMk X (.Call (.Name x p) (e :: es) [] pos) (tMkN C sp t) := by
  intro pins s σ H Q I h
  refine wpAny_Call_Name_kw (ld_glob I hg hm ?_ hdb)
  refine PySem.W.callWith_K (h₀ := X.base) I.ok.mod.kin T.kC (thn (ha.run pos pins s σ H _ I h) ?_) he hpl
  rintro us s1 ⟨vs, H1, I1, r1, hz, q⟩
  refine ⟨I1.kIn, ?_⟩
  have hl : us.length + 1 = ps.length := by
    have e := F.len _ _ _ _ (q s1.heap.objs.size (I1.hok.fresh (Nat.le_refl _)))
    rw [← e, List.length_cons, r1.length]
  refine run_exc (us2 := us) (vs2 := vs) (P := fun v H2 => ∃ a, v = .ref a ∧ ∃ (d : Addr) (fs : List (Str × V)), H2 a = some (exo a C (some d)) ∧ H2 d = some (exd d fs) ∧ H1 d = none ∧ Q (.ref C) (some d) (upd (del H2 a) d (.xd fs)))
    T iC tI F hr (fun s a K => ?_) (show us.length ≤ sizeLine by rw [← r1.length]; exact hun hz) I1 r1 (fun a ha => ?_) ?_
  · have b := hb s (a :: us) K (by rw [List.append_nil, List.length_cons]; exact hl)
    rw [List.append_nil] at b
    exact b
  · have z := q a ha
    have e : (fun (v : V) (H2 : Hp) => v = .non ∧ ∃ (d : Addr) (fs : List (Str × V)), H2 a = some (exo a C (some d)) ∧ H2 d = some (exd d fs) ∧ H1 d = none ∧ Q (.ref C) (some d) (upd (del H2 a) d (.xd fs)))
        = fun v H2 => v = .non ∧ ∃ a', V.ref a = .ref a' ∧ ∃ (d : Addr) (fs : List (Str × V)), H2 a' = some (exo a' C (some d)) ∧ H2 d = some (exd d fs) ∧ H1 d = none ∧ Q (.ref C) (some d) (upd (del H2 a') d (.xd fs)) := by
      funext v H2
      apply propext
      constructor
      · rintro ⟨h1, h2⟩
        exact ⟨h1, a, rfl, h2⟩
      · rintro ⟨h1, a', e, h2⟩
        cases e
        exact ⟨h1, h2⟩
    rw [e] at z
    exact z
  · rintro a s' H2 hsz hn ⟨h1, t1, I2, kk, un2, hok2, os2, bare2⟩ ⟨a', ea', d, fs, ea, ed, hd1, q2⟩
    cases ea'
    obtain ⟨hp, g1, d1, tk1, os1⟩ := s1
    obtain ⟨h2, g2, d2, tk2, os'⟩ := s'
    obtain ⟨t0, G, J, kG, ge, hoe, na⟩ := mk_end0 (d2 := d2) (t2 := tk2) I1 hsz kk un2 hok2 os2 bare2 ea ed hd1
    exact ⟨a, _, _, ⟨G, g2, d2, tk2, os'⟩, _, .ref C, some d, rfl, J, kG, ge, hoe, ⟨rfl, rfl, fun vs e => by cases e; rfl⟩, rfl, rfl, na, rfl, bare2, raises_own T.exC T.tyC, q2⟩
/-- X(), an own class without own __init__ -/
theorem pe_exc0 {bmB : List Value} {B newId initId : String} (F : ExcBaseFacts B newId initId bmB) (q : PySem.W.excIn X.K C bmB newId = true) (gC : X.mg x = some (.ref C)) (kC : PySem.W.keepIn X.K (.ref C) = true) (hg : Gl X x) (hdb : (x == ("__debug__" : Str)) = false := by decide) :
    PE X (.Call (.Name x p) [] [] pos) (fun σ H Q => ∀ a, H a = none → Q (.ref a) (upd H a (ExO (.ref C) a))) := by
  refine ⟨fun pins s σ H Q I h => ?_⟩
  refine wpAny_Call_Name_kw (ld_glob I hg gC (PySem.W.callWith_K0 I.kIn kC ?_) hdb)
  obtain ⟨bm, N, nm, qn, bs, hdct, sn, sub, ab, col, dd, k0, k1, k2, k3, k5, mN, hC, hN, hni, T⟩ := exc_obj I.kIn q
  refine wpAny_call_exc_subT F T hC hN hni (fun h' a hm => ?_) (Nat.zero_le _)
  have hn : H a = none := I.hok.gone hm.new
  obtain ⟨t, ht, _, _⟩ := hm.there
  exact ⟨.ref a, upd H a (ExO (.ref C) a), I.laidN hm.keeps hm.new hn (exO_ok ht ⟨rfl, rfl⟩ rfl rfl rfl (show 4 < 6 by decide)), rfl, h a hn⟩
theorem pmk_exc0 {bmB : List Value} {B newId initId : String} (F : ExcBaseFacts B newId initId bmB) (q : PySem.W.excIn X.K C bmB newId = true) (gC : X.mg x = some (.ref C)) (kC : PySem.W.keepIn X.K (.ref C) = true) (r : Raises X (.ref C)) (hg : Gl X x) (hdb : (x == ("__debug__" : Str)) = false := by decide) :
    L2N.PMk X (.Call (.Name x p) [] [] pos) (fun _ H Q => Q (.ref C) none H) := by
  intro pins s σ H Q I h
  refine wpAny_Call_Name_kw (ld_glob I hg gC (PySem.W.callWith_K0 I.kIn kC ?_) hdb)
  obtain ⟨bm, N, nm, qn, bs, hdct, sn, sub, ab, col, dd, k0, k1, k2, k3, k5, mN, hC, hN, hni, T⟩ := exc_obj I.kIn q
  refine wpAny_call_exc_subT F T hC hN hni (fun h' e hm => ?_) (Nat.zero_le _)
  exact L2N.mk_of I hm r h (I.hok.gone hm.new)
end
end Er

set_option maxHeartbeats 1000000
/-! Eh: repr of data that stands in the heap; == of lists whose items are the same things. -/
namespace Er
open PySem PySem.Spec PyProof.Rows HotX L2 L2H
/-- some data -/
def datL (f : V → Option PyData) : List V → Option (List PyData)
  | [] => some []
  | x :: xs => match f x, datL f xs with
    | some d, some ds => some (d :: ds)
    | _, _ => none
def datV (H : Hp) : Nat → V → Option PyData
  | 0, _ => none
  | _ + 1, .non => some .none
  | _ + 1, .bl b => some (.bool b)
  | _ + 1, .int i => some (.int i)
  | _ + 1, .str x => some (.str x)
  | n + 1, .ref p => (match H p with
    | some (.tup xs) => (datL (datV H n) xs).map .tuple
    | some (.lst xs) => if p = sysModules then none else (datL (datV H n) xs).map .list
    | some (.dK [(.inr x, v)]) => (datV H n v).map fun d => .dict [(.str x, d)]
    | _ => none)
  | _ + 1, _ => none
theorem datL_reads {H : Hp} {h : Heap} {n : Nat} (ih : ∀ {v : V} {u : Value} {d : PyData}, datV H n v = some d → RelV v u → ∃ as, Reads h u d as ∧ sysModules ∉ as) : ∀ {xs : List V} {us : List Value} {ds : List PyData}, datL (datV H n) xs = some ds → Vals xs us → ∃ as, ReadsAll h us ds as ∧ sysModules ∉ as
  | [], us, ds, e, r => by
    cases e
    cases r
    exact ⟨[], .nil, fun q => nomatch q⟩
  | x :: xs, us, ds, e, r => by
    unfold datL at e
    split at e
    · rename_i d ds' e1 e2
      cases e
      cases r with
      | cons r1 r2 =>
        obtain ⟨as, h1, h2⟩ := ih e1 r1
        obtain ⟨bs, h3, h4⟩ := datL_reads ih e2 r2
        exact ⟨as ++ bs, .cons h1 h3, fun q => (List.mem_append.mp q).elim h2 h4⟩
    · cases e
theorem datV_reads {P : Program} {w : World} {H : Hp} {h : Heap} (hok : HOk P w H h) : ∀ (n : Nat) {v : V} {u : Value} {d : PyData}, datV H n v = some d → RelV v u → ∃ as, Reads h u d as ∧ sysModules ∉ as
  | 0, v, u, d, e, r => by cases e
  | n + 1, v, u, d, e, r => by
    have ih := @datV_reads P w H h hok n
    cases v with
    | non =>
      cases e
      cases (show u = Value.none from r)
      exact ⟨[], .none, fun q => nomatch q⟩
    | bl b =>
      cases e
      cases (show u = Value.bool b from r)
      exact ⟨[], .bool b, fun q => nomatch q⟩
    | int i =>
      cases e
      obtain ⟨t, rfl⟩ := (show ∃ t, u = Value.int i t from r)
      exact ⟨[], .int i t, fun q => nomatch q⟩
    | str x =>
      cases e
      obtain ⟨t, rfl⟩ := (show ∃ t, u = Value.str x t from r)
      exact ⟨[], .str x t, fun q => nomatch q⟩
    | byt b => cases e
    | flt b => cases e
    | ty n => cases e
    | ref p =>
      cases (show u = Value.ref p from r)
      unfold datV at e
      split at e
      · rename_i xs hp
        obtain ⟨ds, e1, e2⟩ := Option.map_eq_some_iff.mp e
        cases e2
        obtain ⟨_, its, rv, o, ho, hc, m, hd⟩ := (show ObjOk P w H h p (.tup xs) from hok p _ hp)
        obtain ⟨as, h1, h2⟩ := datL_reads (fun {v u d} => ih (v := v) (u := u) (d := d)) e1 rv
        exact ⟨as, .tuple ho hc hd (by simpa using h1), h2⟩
      · rename_i xs hp
        split at e
        · cases e
        · rename_i hne
          obtain ⟨ds, e1, e2⟩ := Option.map_eq_some_iff.mp e
          cases e2
          obtain ⟨_, its, m, rv, ho⟩ := (show ObjOk P w H h p (.lst xs) from hok p _ hp)
          obtain ⟨as, h1, h2⟩ := datL_reads (fun {v u d} => ih (v := v) (u := u) (d := d)) e1 rv
          exact ⟨p :: as, .list ho rfl rfl (by simpa using h1), fun q => (List.mem_cons.mp q).elim (fun z => hne z.symm) h2⟩
      · rename_i x v hp
        obtain ⟨d1, e1, e2⟩ := Option.map_eq_some_iff.mp e
        cases e2
        obtain ⟨_, hsm, vs, kv, o, es, ep, ho, hx, hd, hk, hpr, _⟩ := (show ObjOk P w H h p (.dK [(.inr x, v)]) from hok p _ hp)
        have hne : p ≠ sysModules := beq_eq_false_iff_ne.mp hsm
        unfold KV at kv
        rcases vs with _ | ⟨⟨q1, q2⟩, _ | ⟨q3, vs⟩⟩
        · cases kv
        rotate_left
        · cases kv with
          | cons _ k2 => cases k2
        cases kv with
        | cons k1 k2 =>
        obtain ⟨k1a, k1b⟩ := k1
        cases (show Sum.inr x = q1 from k1a)
        generalize hel : es.toList = el at hpr
        cases hpr with
        | cons a1 a2 a3 =>
        cases a3
        rename_i en
        obtain ⟨as, h1, h2⟩ := ih e1 k1b
        have hkey : ∃ t, en.key = Value.str x t := by
          rcases keyIs_shape (k := Sum.inr x) (v := en.key) a1 with ⟨i, t, z, _⟩ | ⟨y, t, z, e⟩
          · cases z
          · cases z
            exact ⟨t, e⟩
        obtain ⟨t, ht⟩ := hkey
        refine ⟨p :: ([] ++ []) ++ (as ++ []), .dict ho hx.1 hd ?_ ?_, fun q => ?_⟩
        · rw [hel]
          show ReadsAll h [en.key] [.str x] _
          rw [ht]
          exact .cons (.str x t) .nil
        · rw [hel]
          show ReadsAll h [en.val] [d1] _
          rw [show en.val = q2 from a2]
          exact .cons h1 .nil
        · have q' : sysModules = p ∨ sysModules ∈ as := by simpa using q
          exact q'.elim (fun z => hne z.symm) h2
      · cases e
section
variable {X : Cx}
/-- repr(t), t a tuple of data -/
def rRepr : List V → Hp → VK → Prop := fun xs H Q => ∃ (p : Addr) (n : Nat) (d : PyData), n ≤ 20 ∧ xs = [.ref p] ∧ datV H n (.ref p) = some d ∧ d.showable = true ∧ d.shown.length ≤ sizeLine ∧ d.depth ≤ 20 ∧ Q (.str d.shown) H
theorem call_reprD (hg : X.A.guards = some []) (hu : X.A.units + 64 < cLine) : CallR X (.builtin "repr") rRepr := by
  intro pins s σ H xs us Q I r h
  obtain ⟨p, n, d, hn, rfl, e, hs, hz, hdp, q⟩ := h
  cases r with
  | cons rx rr =>
  cases rr
  cases rx
  obtain ⟨as, h1, h2⟩ := datV_reads I.hok n e (show RelV (.ref p) (.ref p) from rfl)
  exact repr_of_reads' h1 hs (fun _ => h2) hg (by omega) (fun _ _ z => z) (fun h' u tk hk => ⟨.str d.shown, H, I.kept (t' := tk) hk, ⟨u, rfl⟩, q⟩) hz
/-- the same things, or things made of the same -/
def EqX (K : PySem.W.Frag) (H : Hp) : Nat → V → V → Prop
  | 0, _, _ => False
  | n + 1, x, y => (x = y ∧ flatB x = true) ∨ (∃ a, x = .ref a ∧ y = .ref a) ∨ ∃ a b xs ys, x = .ref a ∧ y = .ref b ∧ H a = some (.tup xs) ∧ H b = some (.tup ys) ∧ Paired (EqX K H n) xs ys
theorem items_eqX {A : Around} {s : Shared} {F : V → V → Prop} (ih : ∀ {x y : V} {u v : Value}, F x y → RelV x u → RelV y v → SeqAt.EqAt A s u v true) : ∀ {xs ys : List V} {us vs : List Value}, Paired F xs ys → Vals xs us → Vals ys vs → ∀ j (h1 : j < us.length) (h2 : j < vs.length), SeqAt.EqAt A s us[j] vs[j] true
  | [], [], us, vs, _, r1, r2, j, h1, h2 => by cases r1; exact absurd h1 (Nat.not_lt_zero j)
  | x :: xs, y :: ys, us, vs, h, r1, r2, j, h1, h2 => by
    cases h with
    | cons a b =>
    cases r1 with
    | cons c d =>
    cases r2 with
    | cons e f =>
    cases j with
    | zero => exact ih a c e
    | succ j => exact items_eqX ih b d f j (Nat.lt_of_succ_lt_succ h1) (Nat.lt_of_succ_lt_succ h2)
theorem eqX_at {pins : List (Addr × Obj)} {σ : L2.St} {H : Hp} {s : Shared} (I : Inv X pins σ H s) : ∀ (n : Nat) {A : Around} {x y : V} {u v : Value}, A.units + n < cLine → EqX X.K H n x y → RelV x u → RelV y v → SeqAt.EqAt A s u v true
  | 0, _, _, _, _, _, _, h, _, _ => h.elim
  | n + 1, A, x, y, u, v, hu, h, rx, ry => by
    rcases h with ⟨rfl, f⟩ | ⟨a, rfl, rfl⟩ | ⟨a, b, xs, ys, rfl, rfl, h1, h2, h3⟩
    · exact eqAt_same rx ry f
    · cases (show u = Value.ref a from rx)
      cases (show v = Value.ref a from ry)
      exact SeqAt.EqAt.same _
    · cases (show u = Value.ref a from rx)
      cases (show v = Value.ref b from ry)
      by_cases e : a = b
      · subst e
        exact SeqAt.EqAt.same _
      · obtain ⟨its, r1, p1, _⟩ := I.tuple (show SqT X.K H a xs from .inl (.inl h1))
        obtain ⟨its2, r2, p2, _⟩ := I.tuple (show SqT X.K H b ys from .inl (.inl h2))
        have hsz : its.length = its2.length := by rw [← r1.length, ← r2.length]; exact Paired.length h3
        have z := SeqAt.RcAt.tuples (A := A) (s := s) (e := fun _ => true) p1 p2 (by omega) (fun j j1 j2 => by
          have := items_eqX (fun {x y u v} => eqX_at I n (A := A.in1) (x := x) (y := y) (u := u) (v := v) (by show A.units + 1 + n < cLine; omega)) h3 r1 r2 j (by simpa using j1) (by simpa using j2)
          simpa using this)
        refine SeqAt.EqAt.of_refs e ?_
        have e2 : ((List.range (min its.toArray.size its2.toArray.size)).all (fun _ => true) && its.toArray.size == its2.toArray.size) = true := by
          rw [List.size_toArray, List.size_toArray, hsz]
          simp
        rw [e2] at z
        exact z
/-- xs == ys, two lists of the same things -/
def rSame (K : PySem.W.Frag) (b : Bool) : R2 := fun x y H Q => ∃ (n : Nat) (a c : Addr) (xs ys : List V), n ≤ 20 ∧ x = .ref a ∧ y = .ref c ∧ SqL K H a xs ∧ SqL K H c ys ∧ Paired (EqX K H n) xs ys ∧ Q (.bl b) H
theorem op_same (hu : X.A.units + 64 < cLine) : OpR X (compareOp .Eq) (rSame X.K true) := by
  intro pins s σ H x y v u Q I rx ry h
  obtain ⟨n, a, c, xs, ys, hn, rfl, rfl, h1, h2, h3, q⟩ := h
  cases (show v = Value.ref a from rx)
  cases (show u = Value.ref c from ry)
  obtain ⟨its, r1, p1, _⟩ := I.list h1
  obtain ⟨its2, r2, p2, _⟩ := I.list h2
  have hsz : its.toArray.size = its2.toArray.size := by rw [List.size_toArray, List.size_toArray, ← r1.length, ← r2.length]; exact Paired.length h3
  refine SeqAt.RcAt.lists (e := fun _ => true) p1.isList p2.isList hsz (by omega) (fun j j1 j2 => ?_) _ _ _ _ ?_
  · have := items_eqX (fun {x y u v} => eqX_at I n (A := X.A.in1) (x := x) (y := y) (u := u) (v := v) (by show X.A.units + 1 + n < cLine; omega)) h3 r1 r2 j (by simpa using j1) (by simpa using j2)
    simpa using this
  · rw [show ((List.range its.toArray.size).all fun _ => true) = true from by simp]
    exact ⟨.bl true, H, I, rfl, q⟩
theorem op_nsame (hu : X.A.units + 64 < cLine) : OpR X (compareOp .NotEq) (rSame X.K false) := by
  intro pins s σ H x y v u Q I rx ry h
  obtain ⟨n, a, c, xs, ys, hn, rfl, rfl, h1, h2, h3, q⟩ := h
  cases (show v = Value.ref a from rx)
  cases (show u = Value.ref c from ry)
  obtain ⟨its, r1, p1, _⟩ := I.list h1
  obtain ⟨its2, r2, p2, _⟩ := I.list h2
  have hsz : its.toArray.size = its2.toArray.size := by rw [List.size_toArray, List.size_toArray, ← r1.length, ← r2.length]; exact Paired.length h3
  refine SeqAt.RcNeAt.lists (e := fun _ => true) p1.isList p2.isList hsz (by omega) (fun j j1 j2 => ?_) _ _ _ _ ?_
  · have := items_eqX (fun {x y u v} => eqX_at I n (A := X.A.in1) (x := x) (y := y) (u := u) (v := v) (by show X.A.units + 1 + n < cLine; omega)) h3 r1 r2 j (by simpa using j1) (by simpa using j2)
    simpa using this
  · rw [show (!((List.range its.toArray.size).all fun _ => true)) = false from by simp]
    exact ⟨.bl false, H, I, rfl, q⟩
/-- [..], the new list known not to be sys.modules -/
def tLstN (t : TA) : TE := fun σ H Q => t σ H fun xs H1 => xs.length ≤ sizeLine ∧ ∀ p, H1 p = none → p ≠ sysModules → Q (.ref p) (upd H1 p (.lst xs))
theorem pe_lstN {es : List PySem.Expr} {t : TA} {pos : Pos} (h : PA X es t) : PE X (.List es pos) (tLstN t) := by
  refine ⟨fun pins s σ H Q I hq => ?_⟩
  refine wpAny_List_spliced (thn (h.run pos pins s σ H _ I hq) ?_)
  rintro us s1 ⟨xs, H1, I1, r, z, q⟩
  refine ⟨by rw [← r.length]; exact z, ?_⟩
  have hf : H1 s1.heap.objs.size = none := I1.hok.fresh (Nat.le_refl _)
  have ob : ObjOk X.prog X.w (upd H1 s1.heap.objs.size (.lst xs)) (s1.heap.push { cls := .type "list", data := .seq us.toArray }) s1.heap.objs.size (.lst xs) := ⟨z, us, 0, r, Heap.get?_push_size _ rfl⟩
  exact ⟨.ref s1.heap.objs.size, upd H1 s1.heap.objs.size (.lst xs), I1.laid (t' := s1.toks) (fun b u e => Heap.get?_push_of_some _ e) (Nat.le_refl _) ob, rfl, q _ hf (Nat.ne_of_gt I1.big)⟩
end
end Er

/-! Ha: a head by facts, and by a look of one's own. -/
namespace Er
open PySem PySem.Spec PyProof.Rows L2
/-- facts, defs, and whatever else chk looks at; as: where the objects stand that it looks at (to gather them from the names costs more than all else) -/
def hookC (as : List Addr) (fa : List He.Fa) (fn : List He.DefD) (chk : PySem.W.Frag → Bool) : PySem.W.Hook where
  α := He.AlD × Bool
  obs := fun s => (He.obsD fa fn (He.frG s.heap.get? as), chk (He.frG s.heap.get? as))
  val := fun _ => (He.valD fn, true)
  says := fun _ h => ∃ K : PySem.W.Frag, K.In h ∧ He.SaysD fa fn K ∧ chk K = true
  of := fun w s e => ⟨He.frG s.heap.get? as, He.frG_in, congrArg Prod.fst e, congrArg Prod.snd e⟩
  keeps := fun w h h' ⟨K, a, b, c⟩ k => ⟨K, fun x o e => k x o (a x o e), b, c⟩
def obsC (as : List Addr) (fa : List He.Fa) (fn : List He.DefD) (chk : PySem.W.Frag → Bool) (g : Addr → Option Obj) : He.AlD × Bool := (He.obsD fa fn (He.frG g as), chk (He.frG g as))
theorem obsC_eq {as : List Addr} {fa : List He.Fa} {fn : List He.DefD} {chk : PySem.W.Frag → Bool} {g : Addr → Option Obj} {s : Shared} (h : ∀ a, g a = s.heap.get? a) : obsC as fa fn chk g = (hookC as fa fn chk).obs s := by
  have z : g = s.heap.get? := funext h
  rw [z]
  rfl
/-- an exception class, as isinstance and the look for its fields want it -/
def excB (K : PySem.W.Frag) (D : Addr) : Bool := He.eqO (PySem.W.findIn K (.ref D) "__getattribute__") (some (some (.builtin "BaseException.__getattribute__"))) && (He.eqO (PySem.W.findIn K (.ref D) "__getattr__") (some none) &&
  (decide (PySem.W.subIn K (.ref D) (.type "BaseException") = some true) && (PySem.W.hasDictIn K D && (He.eqO (PySem.W.findIn K (.ref D) "__class__") (some (some (.builtin "object.__class__"))) &&
  (He.eqO (PySem.W.specialIn K (.builtin "object.__class__") "__get__") (some (some (.builtin "getset_descriptor.__get__"))) && (decide (PySem.W.takesIn K (.builtin "object.__class__") = some true) && decide (PySem.W.mroIn K D (.type "object") = some true)))))))
theorem excB_ok {K : PySem.W.Frag} {D : Addr} (h : excB K D = true) : ExcC K D := by
  unfold excB at h
  simp only [Bool.and_eq_true] at h
  obtain ⟨h1, h2, h3, h4, h5, h6, h7, h8⟩ := h
  exact ⟨He.eqO_ok h1, He.eqO_ok h2, of_decide_eq_true h3, h4, He.eqO_ok h5, He.eqO_ok h6, of_decide_eq_true h7, of_decide_eq_true h8⟩
/-- .. that is made by its own __init__ -/
def lookB (K : PySem.W.Frag) (C : Addr) : Bool := match K.lookup C with
  | some ⟨.type "type", _, .cls cd, sl⟩ => (match cd.mro, sl.toList with
    | .ref C' :: bm, [_, _, _, _, some (.builtin n), _] => C' == C && (n == "ValueError.__new__" && (cd.hasDict && (!cd.hasDel && PySem.HandSPX.refsVE bm)))
    | _, _ => false)
  | _ => false
theorem lookB_ok {K : PySem.W.Frag} {C : Addr} (h : lookB K C = true) : ∃ nm q N bs bm sn sub ab col dd k0 k1 k2 k3 k5, K.lookup C = some (excClassObj nm q C N bs bm true sn sub ab col dd k0 k1 k2 k3 k5 "ValueError.__new__") ∧ PySem.HandSPX.refsVE bm = true := by
  unfold lookB at h
  split at h
  · rename_i dd cd sl ho
    split at h
    · rename_i C' bm k0 k1 k2 k3 n k5 hm hs
      simp only [Bool.and_eq_true, beq_iff_eq, Bool.not_eq_true'] at h
      obtain ⟨rfl, rfl, hd, hdel, hr⟩ := h
      obtain ⟨nm, bs, mro, ns, qn, hd', sn, sub, ab, col, del⟩ := cd
      dsimp only at hm hd hdel
      subst hm hd hdel
      have hsl : sl = #[k0, k1, k2, k3, some (.builtin "ValueError.__new__"), k5] := by
        obtain ⟨l⟩ := sl
        simp only at hs
        rw [hs]
      subst hsl
      exact ⟨nm, qn, ns, bs, bm, sn, sub, ab, col, dd, k0, k1, k2, k3, k5, ho, hr⟩
    · cases h
  · cases h
def oexB (K : PySem.W.Frag) (C : Addr) : Bool := lookB K C && (He.eqO (PySem.W.findIn K (.ref C) "__setattr__") (some (some (.builtin "object.__setattr__"))) && (decide (PySem.W.subIn K (.ref C) (.type "BaseException") = some true) &&
  (decide (PySem.W.typeIn K (.ref C) = some (.type "type")) && (PySem.W.keepIn K (.ref C) && (He.eqO (PySem.W.findIn K (.ref C) "__init__") (some (some (.ref (He.ma K C "__init__")))) && decide (PySem.W.typeIn K (.ref (He.ma K C "__init__")) = some (.type "function")))))))
theorem oexB_ok {K : PySem.W.Frag} {C : Addr} (h : oexB K C = true) : OexC K C ∧ PySem.W.findIn K (.ref C) "__init__" = some (some (.ref (He.ma K C "__init__"))) ∧ PySem.W.typeIn K (.ref (He.ma K C "__init__")) = some (.type "function") := by
  unfold oexB at h
  simp only [Bool.and_eq_true] at h
  obtain ⟨h1, h2, h3, h4, h5, h6, h7⟩ := h
  exact ⟨⟨lookB_ok h1, He.eqO_ok h2, of_decide_eq_true h3, of_decide_eq_true h4, h5⟩, He.eqO_ok h6, of_decide_eq_true h7⟩
end Er

set_option maxHeartbeats 0
/-! Hk: the head of law_k01_errors. -/
namespace K1
open PySem PySem.Spec PyProof.Rows L2 Er
def prog : List PySem.Stmt := PySem.Challenge.pw_powermaps_k01_errors.main.body
def top (i : Nat) : PySem.Stmt := prog.getD i (.Pass ⟨0, 0, 0, 0⟩)
def met (st : PySem.Stmt) : PySem.Stmt := match st with
  | .ClassDef (body := b) .. => b.getD 0 (.Pass ⟨0, 0, 0, 0⟩)
  | _ => .Pass ⟨0, 0, 0, 0⟩
/-- classes that keep what was given; all ways; all classes -/
def gvn : List PySem.Str := ["InvalidSystem", "InvalidName", "InvalidNumber", "InvalidPoint", "InvalidSpace", "InvalidSigns", "InvalidRow", "InvalidTable", "InvalidLine", "InvalidPaper", "NotADesk", "NotNow"]
def oth : List PySem.Str := ["InvalidText", "TooMany", "NothingToUndo"]
def ways : List PySem.Str := gvn ++ oth
def pwe : List PySem.Str := ["PowerError"]
def clss : List PySem.Str := ways ++ pwe
def plns : List PySem.Str := ["TooMany", "NothingToUndo", "PowerError"]
def fns : List (Nat × PySem.Str) := [(19, "is_whole"), (20, "is_between"), (21, "is_tuple_of"), (29, "is_space_by"), (56, "check_text"), (57, "check_space"), (63, "has_form"), (65, "is_system_by"), (73, "text_of"), (75, "read"), (77, "rank"),
  (79, "_law_bell"), (80, "_law_ring"), (81, "_law_some"), (82, "_law_thing"), (83, "_law_told_by_place"), (84, "_law_told_by_name"), (85, "_law_raised"), (86, "_law_kinds"), (87, "_law_is_right"), (88, "_law_later_right"), (89, "_law_right"), (90, "law")]
def inits : List (Nat × PySem.Str) := [(3, "InvalidSystem"), (4, "InvalidName"), (5, "InvalidNumber"), (6, "InvalidPoint"), (7, "InvalidSpace"), (8, "InvalidSigns"), (9, "InvalidRow"), (10, "InvalidTable"), (11, "InvalidLine"), (12, "InvalidPaper"), (13, "NotADesk"), (14, "NotNow"), (15, "InvalidText")]
def blts : List PySem.Str := ["isinstance", "int", "bool", "tuple", "str", "len", "abs", "min", "max", "range", "enumerate", "repr", "ValueError"]
def fa : List He.Fa := fns.map (fun q => .glo q.2) ++ (clss.map .glo ++ (blts.map .free ++ (plns.map .exc ++ (ways.map (fun x => .exm x "PowerError" true) ++ [.int "MOST_PLACES" 12, .int "MOST_ROWS_spacework" 12]))))
def dd (q : Nat × PySem.Str) : He.DefD := ⟨(q.2, none), q.2, q.2, defArgs (top q.1), defBody (top q.1), defScope (top q.1), [], []⟩
def di (q : Nat × PySem.Str) : He.DefD := ⟨(q.2, some "__init__"), "__init__", q.2 ++ (".__init__" : PySem.Str), defArgs (met (top q.1)), defBody (met (top q.1)), defScope (met (top q.1)), [], []⟩
def fn : List He.DefD := fns.map dd ++ inits.map di
def kitB (K : PySem.W.Frag) (a : Addr) (c : Value) (b : Bool) : Bool := decide (PySem.W.kitOne K (.ref a) c = some b)
def chk (K : PySem.W.Frag) : Bool := clss.all (fun x => excB K (He.ga K x)) && (inits.all (fun q => oexB K (He.ga K q.2)) && (gvn.all (fun x => He.eqO (PySem.W.findIn K (.ref (He.ga K x)) "given") (some none)) &&
  (He.eqO (PySem.W.findIn K (.ref (He.ga K "InvalidText")) "row") (some none) && (He.eqO (PySem.W.findIn K (.ref (He.ga K "InvalidText")) "word") (some none) &&
  (clss.all (fun x => ways.all fun y => kitB K (He.ga K x) (.ref (He.ga K y)) (decide (x = y))) && (clss.all (fun x => kitB K (He.ga K x) (.ref (He.ga K "PowerError")) true) && clss.all (fun x => kitB K (He.ga K x) (.type "ValueError") true)))))))
def loose0 : List PySem.Str := ["gcd", "is_whole", "is_between", "is_tuple_of", "is_row", "sign_of", "plain", "combined", "MOST_PLACES", "MOST_ROWS_spacework", "is_space_by", "cleared", "led_by_places", "rank_of", "BLANK", "END", "LETTERS", "FIGURES", "MINUS", "MOST_LETTERS", "KEPT", "is_name", "is_figure", "is_exponent", "MOST_NUMBERS"]
def loose1 : List PySem.Str := ["MOST_POWERS", "MOST_ROWS_textread", "MOST_LOTS", "LEAST_FIGURE", "GREATEST", "Halt", "WordReader", "Reading", "read_by", "check_text", "check_space", "GREATEST_EXPONENT", "are_numbers_up_to", "is_named", "is_sum", "has_form", "names_in", "is_system_by", "power_line", "part_words", "sum_text", "lines_of", "text_by", "text_of", "read"]
def loose2 : List PySem.Str := ["rank", "_law_bell", "_law_ring", "_law_some", "_law_thing", "_law_told_by_place", "_law_told_by_name", "_law_raised", "_law_kinds", "_law_is_right", "_law_later_right", "_law_right"]
def loose : List PySem.Str := loose0 ++ loose1 ++ loose2 ++ clss
abbrev R : PySem.W.OpenRow := PySem.W.OpenLaw.row PySem.Challenge.rw_powermaps_k01_errors
/-- the namespace of the text, the classes, the defs, their code, their methods -/
def stand0 : List Addr := [3, 52, 72, 91, 110, 129, 148, 167, 186, 205, 224, 243, 262, 281, 300, 312, 324, 333, 340, 347, 374, 586, 593, 617, 627, 663, 670, 677, 684, 691, 698, 705, 712, 719, 726]
def stand1 : List Addr := [731, 738, 745, 752, 757, 51, 71, 90, 109, 128, 147, 166, 185, 204, 223, 242, 261, 280, 299, 311, 323, 332, 339, 346, 373, 585, 592, 616, 626, 662, 669, 676, 683, 690, 697]
def stand2 : List Addr := [704, 711, 718, 725, 730, 737, 744, 751, 756, 69, 88, 107, 126, 145, 164, 183, 202, 221, 240, 259, 278, 297, 68, 87, 106, 125, 144, 163, 182, 201, 220, 239, 258, 277, 296]
def stand : List Addr := stand0 ++ (stand1 ++ stand2)
abbrev hk : PySem.W.Hook := hookC stand fa fn chk
def ob (s : PySem.W.SharedT) : He.AlD × Bool := obsC stand fa fn chk (HandSHeadRun.getT s)
theorem ob_eq (s : PySem.W.SharedT) : ob s = hk.obs s.abs := obsC_eq (HandSHeadRun.getT_eq s)
end K1

set_option maxHeartbeats 0
/-! Hr: the run of the top, looked at in parts (one look at all wants more memory than there is). -/
namespace K1
open PySem PySem.Spec PyProof.Rows L2 Er
open PySem.W PySem.Calls HandSHeadRun
abbrev qv : Program := PySem.W.view R.prog [90]
noncomputable abbrev WH (w : World) : Option (Shared × SharedT) := wholeF (fun p => stepQ (denQ tabQ) p w) fenceQ 20000 R.prog
noncomputable abbrev SE (x : Shared × SharedT) := seenQ qv loose (importedModules R.prog.main.body) (fun s => xlAt qv [] s && recOk R.toRowW.records s) x.2.abs
noncomputable abbrev GO := openGood qv loose
theorem part1 (w : World) : (WH w).map (fun x => (looksF R.prog x.1.heap x.2.abs, (SE x).1)) = some (true, GO.1) := by
  kernel_rfl
theorem part2 (w : World) : (WH w).map (fun x => ((SE x).2.1, (SE x).2.2.1, (SE x).2.2.2.1, (SE x).2.2.2.2.1)) = some (GO.2.1, GO.2.2.1, GO.2.2.2.1, GO.2.2.2.2.1) := by
  kernel_rfl
theorem part3 (w : World) : (WH w).map (fun x => ((SE x).2.2.2.2.2.1, (SE x).2.2.2.2.2.2.1, (SE x).2.2.2.2.2.2.2.1)) = some (GO.2.2.2.2.2.1, GO.2.2.2.2.2.2.1, GO.2.2.2.2.2.2.2.1) := by
  kernel_rfl
theorem part4 (w : World) : (WH w).map (fun x => ((SE x).2.2.2.2.2.2.2.2, ob x.2)) = some (GO.2.2.2.2.2.2.2.2, hk.val w) := by
  kernel_rfl
theorem both_of {α A B : Type} {o : Option α} {f : α → A} {g : α → B} {a : A} {b : B} (e1 : o.map f = some a) (e2 : o.map g = some b) : o.map (fun x => (f x, g x)) = some (a, b) := by
  cases o with
  | none => cases e1
  | some x => exact congrArg some (congr (congrArg Prod.mk (Option.some.inj e1)) (Option.some.inj e2))
theorem there_of {α A : Type} {o : Option α} {f : α → A} {a : A} (e : o.map f = some a) : ∃ x, o = some x ∧ f x = a := by
  cases o with
  | none => cases e
  | some x => exact ⟨x, rfl, Option.some.inj e⟩
theorem pair_of {A B : Type} {s t : A × B} (h1 : s.1 = t.1) (h2 : s.2 = t.2) : s = t := Prod.ext h1 h2
theorem run (w : World) : HandSHeadRun.RunEqI R (PySem.W.view R.prog [90]) hk ob 20000 loose w := by
  obtain ⟨x, e, h⟩ := there_of (both_of (part1 w) (both_of (part2 w) (both_of (part3 w) (part4 w))))
  obtain ⟨h1, h⟩ := Prod.mk.inj h
  obtain ⟨h2, h⟩ := Prod.mk.inj h
  obtain ⟨h3, h4⟩ := Prod.mk.inj h
  obtain ⟨l, a0⟩ := Prod.mk.inj h1
  obtain ⟨a1, h2⟩ := Prod.mk.inj h2
  obtain ⟨a2, h2⟩ := Prod.mk.inj h2
  obtain ⟨a3, a4⟩ := Prod.mk.inj h2
  obtain ⟨a5, h3⟩ := Prod.mk.inj h3
  obtain ⟨a6, a7⟩ := Prod.mk.inj h3
  obtain ⟨a8, ho⟩ := Prod.mk.inj h4
  have s : SE x = GO := pair_of a0 (pair_of a1 (pair_of a2 (pair_of a3 (pair_of a4 (pair_of a5 (pair_of a6 (pair_of a7 a8)))))))
  show (WH w).map (fun x => (looksF R.prog x.1.heap x.2.abs, SE x, ob x.2)) = some (true, GO, hk.val w)
  rw [e]
  exact congrArg some (pair_of l (pair_of s ho))
end K1

/-! Ka: what stands behind the top; how defs are shown and called. -/
namespace K1
open PySem PySem.Spec PyProof.Rows L2 L2H Er
abbrev ga (K : PySem.W.Frag) (x : Str) : Addr := He.ga K x
structure Tx (K : PySem.W.Frag) (mg : Str → Option Value) : Prop where
  g : ∀ x ∈ fns.map (·.2) ++ clss, mg x = some (.ref (ga K x))
  f : ∀ x ∈ blts, mg x = none
  ex : ∀ x ∈ clss, ExcC K (ga K x)
  ox : ∀ q ∈ inits, OexC K (ga K q.2) ∧ PySem.W.findIn K (.ref (ga K q.2)) "__init__" = some (some (.ref (He.ma K (ga K q.2) "__init__"))) ∧ PySem.W.typeIn K (.ref (He.ma K (ga K q.2) "__init__")) = some (.type "function")
  gv : ∀ x ∈ gvn, PySem.W.findIn K (.ref (ga K x)) "given" = some none
  rw_ : PySem.W.findIn K (.ref (ga K "InvalidText")) "row" = some none
  wd : PySem.W.findIn K (.ref (ga K "InvalidText")) "word" = some none
  kw : ∀ x ∈ clss, ∀ y ∈ ways, PySem.W.kitOne K (.ref (ga K x)) (.ref (ga K y)) = some (decide (x = y))
  kp : ∀ x ∈ clss, PySem.W.kitOne K (.ref (ga K x)) (.ref (ga K "PowerError")) = some true
  kv : ∀ x ∈ clss, PySem.W.kitOne K (.ref (ga K x)) (.type "ValueError") = some true
  pl : ∀ x ∈ plns, PySem.W.excIn K (ga K x) He.veBase "ValueError.__new__" = true ∧ PySem.W.keepIn K (.ref (ga K x)) = true ∧ PySem.W.subIn K (.ref (ga K x)) (.type "BaseException") = some true ∧ PySem.W.typeIn K (.ref (ga K x)) = some (.type "type")
  em : ∀ x ∈ ways, PySem.W.exmOne K (.ref (ga K x)) (.ref (ga K "PowerError")) = some true
  c1 : ∃ t, mg "MOST_PLACES" = some (.int 12 t)
  c2 : ∃ t, mg "MOST_ROWS_spacework" = some (.int 12 t)
  d : ∀ q ∈ fns, ∃ fd, FunD K q.2 q.2 (defArgs (top q.1)) (defBody (top q.1)) (defScope (top q.1)) [] [] (ga K q.2) fd
  i : ∀ q ∈ inits, ∃ fd, FunD K "__init__" (q.2 ++ (".__init__" : Str)) (defArgs (met (top q.1))) (defBody (met (top q.1))) (defScope (met (top q.1))) [] [] (He.ma K (ga K q.2) "__init__") fd
theorem tx_of {K : PySem.W.Frag} {h : Heap} {mg : Str → Option Value} (X : K.In h) (G : h.Ns mainGlobals mg) (c : He.SaysD fa fn K) (cc : chk K = true) : Tx K mg := by
  have fact : ∀ f ∈ fa, f.ok K = true := fun f hf => by
    obtain ⟨i, hi⟩ := List.mem_iff_getElem?.mp hf
    exact c.fact i hi
  have inG : ∀ {x : Str}, x ∈ fns.map (·.2) ++ clss → He.Fa.glo x ∈ fa := fun {x} hx => by
    rcases List.mem_append.mp hx with h | h
    · obtain ⟨q, h1, h2⟩ := List.mem_map.mp h
      exact List.mem_append_left _ (List.mem_map.mpr ⟨q, h1, by rw [h2]⟩)
    · exact List.mem_append_right _ (List.mem_append_left _ (List.mem_map.mpr ⟨x, h, rfl⟩))
  unfold chk at cc
  simp only [Bool.and_eq_true, List.all_eq_true] at cc
  obtain ⟨a1, a2, a3, a4, a5, a6, a7, a8⟩ := cc
  refine ⟨fun x hx => He.glo_ok X G (fact _ (inG hx)), fun x hx => ?_, fun x hx => excB_ok (a1 x hx), fun q hq => oexB_ok (a2 q hq), fun x hx => He.eqO_ok (a3 x hx), He.eqO_ok a4, He.eqO_ok a5, fun x hx y hy => of_decide_eq_true (a6 x hx y hy), fun x hx => of_decide_eq_true (a7 x hx),
    fun x hx => of_decide_eq_true (a8 x hx), fun x hx => ?_, fun x hx => ?_, ?_, ?_, fun q hq => ?_, fun q hq => ?_⟩
  · exact He.free_ok X G (fact _ (List.mem_append_right _ (List.mem_append_right _ (List.mem_append_left _ (List.mem_map.mpr ⟨x, hx, rfl⟩)))))
  · have z := fact (.exc x) (List.mem_append_right _ (List.mem_append_right _ (List.mem_append_right _ (List.mem_append_left _ (List.mem_map.mpr ⟨x, hx, rfl⟩)))))
    have z' : (PySem.W.excIn K (He.ga K x) He.veBase "ValueError.__new__" && (PySem.W.keepIn K (.ref (He.ga K x)) && (decide (PySem.W.subIn K (.ref (He.ga K x)) (.type "BaseException") = some true) && decide (PySem.W.typeIn K (.ref (He.ga K x)) = some (.type "type"))))) = true := z
    simp only [Bool.and_eq_true, decide_eq_true_eq] at z'
    exact z'
  · have z := fact (.exm x "PowerError" true) (List.mem_append_right _ (List.mem_append_right _ (List.mem_append_right _ (List.mem_append_right _ (List.mem_append_left _ (List.mem_map.mpr ⟨x, hx, rfl⟩))))))
    have z' : decide (PySem.W.exmOne K (.ref (He.ga K x)) (.ref (He.ga K "PowerError")) = some true) = true := z
    exact of_decide_eq_true z'
  · exact He.int_ok X G (fact (.int "MOST_PLACES" 12) (List.mem_append_right _ (List.mem_append_right _ (List.mem_append_right _ (List.mem_append_right _ (List.mem_append_right _ (by simp)))))))
  · exact He.int_ok X G (fact (.int "MOST_ROWS_spacework" 12) (List.mem_append_right _ (List.mem_append_right _ (List.mem_append_right _ (List.mem_append_right _ (List.mem_append_right _ (by simp)))))))
  · obtain ⟨j, hj⟩ := List.mem_iff_getElem?.mp (show dd q ∈ fn from List.mem_append_left _ (List.mem_map.mpr ⟨q, hq, rfl⟩))
    exact c.def_ j hj
  · obtain ⟨j, hj⟩ := List.mem_iff_getElem?.mp (show di q ∈ fn from List.mem_append_right _ (List.mem_map.mpr ⟨q, hq, rfl⟩))
    exact c.def_ j hj
theorem bindsD {K : PySem.W.Frag} {x qual : Str} {params : Arguments} {body : List Stmt} {scope : Scope} {f : Addr} {fd : FuncData} {ps : List Str} (F : FunD K x qual params body scope [] [] f fd)
    (h : ∀ (kV doc pm : Value) (an : Option Addr) (cdv ct : Value) (us : List Value), us.length = ps.length → bindArgs (PySem.W.fnOf x qual params body scope .none kV doc pm an cdv ct) ⟨us, []⟩ = pure (ps.zip us)) : Binds K fd ps [] := by
  obtain ⟨oc, od, dV, kV, doc, pm, an, cdv, ct, osl, rfl, lk, hcd, hD, hK⟩ := F.ex
  rcases hD with ⟨_, rfl⟩ | ⟨e, _⟩
  · exact .all (h kV doc pm an cdv ct)
  · exact absurd rfl e
/-- a def of the text keeps a promise -/
structure Okd (P : Program) (w : World) (K : PySem.W.Frag) (mg : Str → Option Value) (base : Heap) (CX : CXT) (k : Nat) (nm : Str) (ps : List Str) (sp : Sp) : Prop where
  ex : ∃ fd, FnOk P w K mg base CX k (ga K nm) fd ps sp ∧ Binds K fd ps [] ∧ PySem.W.keepIn K (.ref (ga K nm)) = true ∧ mg nm = some (.ref (ga K nm))
structure OkW (P : Program) (w : World) (K : PySem.W.Frag) (mg : Str → Option Value) (base : Heap) (k : Nat) (nm : Str) (ps : List Str) (sp : SpW) : Prop where
  ex : ∃ fd, FnW P w K mg base k (ga K nm) fd ps sp ∧ Binds K fd ps [] ∧ PySem.W.keepIn K (.ref (ga K nm)) = true ∧ mg nm = some (.ref (ga K nm))
section
variable {X : Cx} {k : Nat} {nm : Str} {ps : List Str} {sp : Sp} {e : PySem.Expr} {es : List PySem.Expr} {t : TA} {p pos : Pos}
theorem pe_c (o : Okd X.prog X.w X.K X.mg X.base L2.CX0 k nm ps sp) (hr : Room k X.A) (hg : Gl X nm) (ha : PA X (e :: es) t) (hdb : (nm == ("__debug__" : Str)) = false := by decide) (he : starEach (e :: es) X.env = (false, eval e X.env) :: starEach es X.env := by rfl) (hpl : (backTo pos (starEach es X.env)).any (·.1) = false := by rfl) :
    PE X (.Call (.Name nm p) (e :: es) [] pos) (tCall sp [] L2.E0 t) := by
  obtain ⟨fd, F, hb, hk, hm⟩ := o.ex
  exact pe_call F hr hg hm hk hb .nil pass0 ha hdb he hpl
theorem pe_cS {E : L2.St → XK} (o : Okd X.prog X.w X.K X.mg X.base (L2N.CX X.prog X.w) k nm ps sp) (hr : Room k X.A) (hg : Gl X nm) (hx : ∀ σ, PassesAt (L2N.CX X.prog X.w) X σ (E σ)) (ha : PA X (e :: es) t) (hdb : (nm == ("__debug__" : Str)) = false := by decide)
    (he : starEach (e :: es) X.env = (false, eval e X.env) :: starEach es X.env := by rfl) (hpl : (backTo pos (starEach es X.env)).any (·.1) = false := by rfl) : PE X (.Call (.Name nm p) (e :: es) [] pos) (tCallS sp E t) := by
  obtain ⟨fd, F, hb, hk, hm⟩ := o.ex
  exact pe_callS F hr hg hm hk hb hx ha hdb he hpl
theorem pe_cW {sp : SpW} {l : List (Addr × Obj)} (o : OkW X.prog X.w X.K X.mg X.base k nm ps sp) (hr : RoomH k X.A) (kn : X.A.guards = some []) (wm : ∀ {pins : List (Addr × Obj)} {σ : L2.St} {H : Hp} {s : Shared}, Inv X pins σ H s → Wm X.A X.stack H s l) (hg : Gl X nm) (ha : PA X (e :: es) t)
    (hdb : (nm == ("__debug__" : Str)) = false := by decide) (he : starEach (e :: es) X.env = (false, eval e X.env) :: starEach es X.env := by rfl) (hpl : (backTo pos (starEach es X.env)).any (·.1) = false := by rfl) : PE X (.Call (.Name nm p) (e :: es) [] pos) (tCallW sp l t) := by
  obtain ⟨fd, F, hb, hk, hm⟩ := o.ex
  exact pe_callW F hr kn wm hg hm hk hb ha hdb he hpl
/-- what is never reached -/
theorem pss_no {ss : List Stmt} : PSs X ss (fun _ _ _ => False) := ⟨fun _ _ _ _ _ _ h => h.elim⟩
theorem ps_no {s : Stmt} : PS X s (fun _ _ _ => False) := ⟨fun _ _ _ _ _ _ h => h.elim⟩
theorem pe_no {e : PySem.Expr} : PE X e (fun _ _ _ => False) := ⟨fun _ _ _ _ _ _ h => h.elim⟩
theorem pt_no {e : PySem.Expr} : PT X e (fun _ _ _ => False) := ⟨fun _ _ _ _ _ _ h => h.elim⟩
theorem pw_no {e : PySem.Expr} : PW X e (fun _ _ _ => False) := ⟨fun _ _ _ _ _ _ _ h => h.elim⟩
end
section
variable {P : Program} {w : World} {K : PySem.W.Frag} {mg : Str → Option Value} {base : Heap} {q : Nat × Str} {N ps : List Str} {k : Nat}
theorem okd {CX : CXT} {sp : Sp} (T : Tx K mg) (hq : q ∈ fns) (S : FnScope N ps (defScope (top q.1)))
    (hb : ∀ (kV doc pm : Value) (an : Option Addr) (cdv ct : Value) (us : List Value), us.length = ps.length → bindArgs (PySem.W.fnOf q.2 q.2 (defArgs (top q.1)) (defBody (top q.1)) (defScope (top q.1)) .none kV doc pm an cdv ct) ⟨us, []⟩ = pure (ps.zip us))
    (len : ∀ vs H Q E, sp vs H Q E → vs.length = ps.length)
    (hbody : ∀ (cdv : Value) (A : Around) (outer : List Env) (s : Shared) (H : Hp) (vs : List V) (Q : VK) (E : XK), Room k (A.deeper (envOfC q.2 (defScope (top q.1)) s.heap.objs.size (ga K q.2) cdv)) → sp vs H Q E →
      ∃ t, PSs (cxOf CX P w K mg base N q.2 (defScope (top q.1)) (ga K q.2) cdv A outer s H E) (defBody (top q.1)) t ∧ t { nx := fun _ H' => Q .non H', rt := Q } (L2.start N vs) H) : Okd P w K mg base CX (k + 1) q.2 ps sp := by
  obtain ⟨fd, F⟩ := T.d q hq
  exact ⟨fd, F.ok S len hbody, bindsD F hb, F.kp, T.g q.2 (List.mem_append_left _ (List.mem_map.mpr ⟨q, hq, rfl⟩))⟩
theorem okw {sp : SpW} (T : Tx K mg) (hq : q ∈ fns) (S : FnScope N ps (defScope (top q.1)))
    (hb : ∀ (kV doc pm : Value) (an : Option Addr) (cdv ct : Value) (us : List Value), us.length = ps.length → bindArgs (PySem.W.fnOf q.2 q.2 (defArgs (top q.1)) (defBody (top q.1)) (defScope (top q.1)) .none kV doc pm an cdv ct) ⟨us, []⟩ = pure (ps.zip us))
    (len : ∀ l vs H Q, sp l vs H Q → vs.length = ps.length)
    (hbody : ∀ (cdv : Value) (A : Around) (outer : List Env) (s : Shared) (H : Hp) (vs : List V) (Q : VK) (l : List (Addr × Obj)), RoomH k (A.deeper (envOfC q.2 (defScope (top q.1)) s.heap.objs.size (ga K q.2) cdv)) →
      Kn (cxW P w K mg base N q.2 (defScope (top q.1)) (ga K q.2) cdv A outer s H (calmOf l) l) l → sp l vs H Q →
      ∃ t, PSs (cxW P w K mg base N q.2 (defScope (top q.1)) (ga K q.2) cdv A outer s H (calmOf l) l) (defBody (top q.1)) t ∧ t { nx := fun _ H' => Q .non H', rt := Q } (L2.start N vs) H) : OkW P w K mg base (k + 1) q.2 ps sp := by
  obtain ⟨fd, F⟩ := T.d q hq
  exact ⟨fd, fn_ofW F S len hbody, bindsD F hb, F.kp, T.g q.2 (List.mem_append_left _ (List.mem_map.mpr ⟨q, hq, rfl⟩))⟩
end
end K1

/-! Kb: what is drawn. -/
namespace K1
open PySem PySem.Spec PyProof.Rows L2 L2H Er
section
variable {P : Program} {w : World} {K : PySem.W.Frag} {mg : Str → Option Value} {base : Heap}
/-- a bell's numbers -/
def BellOk (s t : Int) : Prop := 0 ≤ s ∧ s < 170141183460469231731687303715884105727 ∧ 0 ≤ t ∧ t < 10000000000000000000000000000000000000000000000000000
def spRing : Sp := fun vs H Q _ => ∃ (b : Addr) (s t m : Int), vs = [.ref b, .int m] ∧ 0 < m ∧ m ≤ 100 ∧ H b = some (.lst [.int s, .int t]) ∧ BellOk s t ∧
  ∀ s' t' r, BellOk s' t' → 0 ≤ r → r < m → Q (.int r) (upd H b (.lst [.int s', .int t']))
theorem if_t {c : Bool} {A B : Prop} (hc : c = true) (h : A) : if c = true then A else B := by rw [if_pos hc]; exact h
theorem if_f {c : Bool} {A B : Prop} (hc : c = false) (h : B) : if c = true then A else B := by rw [hc, if_neg Bool.false_ne_true]; exact h
theorem ring_small {s : Int} (h : 0 ≤ s) (h2 : s < 170141183460469231731687303715884105727) : s.natAbs < 2 ^ 127 := by omega
theorem ok_ring (T : Tx K mg) : Okd P w K mg base L2.CX0 2 "_law_ring" ["bell", "many"] spRing := by
  refine okd (q := (80, "_law_ring")) (N := ["bell", "many", "told"]) (k := 1) T (by decide) ⟨rfl, rfl, rfl, by decide +kernel, rfl, by decide +kernel, by decide +kernel⟩ (fun _ _ _ _ _ _ us hl => match us, hl with | [_, _], _ => rfl) (fun vs H Q E h => ?_) (fun cdv A outer s0 H vs Q E hr h => ?_)
  · obtain ⟨b, s, t, m, rfl, _⟩ := h
    rfl
  · have nd : (["bell", "many", "told"] : List Str).Nodup := by decide +kernel
    have hI : mg "int" = none := T.f "int" (by decide)
    refine ⟨_, PSs.nox (pss_cons (ps_if (pt_cmpR op_gt (pe_ix ix_list (pv 0) pe_int (fun _ _ => rfl)) pe_int (nomark _))
        (pss_cons (ps_set (i := 2) nd rfl (.inl rfl) (pe_op op_mod (pe_callTy call_int1 rfl hI (by kernel_rfl) (pa_cons (pe_ix ix_list (pv 0) pe_int (fun _ _ => rfl)) pa_nil)) (pv 1)))
        (pss_cons (ps_asg (pe_op op_fdivW (pe_ix ix_list (pv 0) pe_int (fun _ _ => rfl)) (pv 1)) (pg_sub (pv 0) pe_int set_list))
        (pss_one (ps_ret (pv 2))))) pss_nil)
      (pss_cons (ps_asg (pe_op op_mod (pe_callTy call_int1 rfl hI (by kernel_rfl) (pa_cons (pe_op op_add (pe_op op_mulW (pe_ix ix_list (pv 0) pe_int (fun _ _ => rfl)) pe_int) pe_int) pa_nil)) pe_int) (pg_sub (pv 0) pe_int set_list))
      (pss_one (ps_ret (pe_op op_mod (pe_callTy call_int1 rfl hI (by kernel_rfl) (pa_cons (pe_op op_fdivW (pe_ix ix_list (pv 0) pe_int (fun _ _ => rfl)) pe_int) pa_nil)) (pv 1)))))), ?_⟩
    obtain ⟨b, s, t, m, rfl, hm0, hm1, hb, ⟨b1, b2, b3, b4⟩, k⟩ := h
    have sq : ∀ {H' : Hp} {xs : List V}, H' b = some (.lst xs) → SqL K H' b xs := fun h => SqL.of h
    refine ⟨_, rfl, b, _, _, .int t, rfl, rfl, sq hb, rfl, t, 0, rfl, rfl, _, rfl, ?_⟩
    by_cases c : 0 < t
    · refine if_t (decide_eq_true c) ?_
      refine ⟨_, rfl, b, _, _, .int t, rfl, rfl, sq hb, rfl, .inl ⟨t, rfl, _, rfl, _, _, rfl, rfl, hm0, ?_⟩⟩
      refine ⟨_, rfl, b, _, _, .int t, rfl, rfl, sq hb, rfl, _, rfl, _, _, rfl, rfl, wide_div hm0 (b := 7) (by omega) (by decide) (by decide), ?_⟩
      refine ⟨_, rfl, b, _, _, 1, rfl, rfl, hb, rfl, _, rfl, ?_⟩
      exact k s (t / m) (t % m) ⟨b1, b2, Int.ediv_nonneg b3 (by omega), Int.lt_of_le_of_lt (Int.ediv_le_self m b3) b4⟩ (Int.emod_nonneg _ (by omega)) (Int.emod_lt_of_pos _ hm0)
    · refine if_f (decide_eq_false c) ?_
      have hs := ring_small b1 b2
      have x0 : 0 ≤ (s * 47026247687942121848144207491837523525 + 1) % 170141183460469231731687303715884105727 := Int.emod_nonneg _ (by decide)
      have x1 : (s * 47026247687942121848144207491837523525 + 1) % 170141183460469231731687303715884105727 < 170141183460469231731687303715884105727 := Int.emod_lt_of_pos _ (by decide)
      have pz : (0 : Int) < 170141183460469231731687303715884105727 := by decide
      refine ⟨_, rfl, b, _, _, .int s, rfl, rfl, sq hb, rfl, s, _, rfl, rfl, wide_mul hs (b := 127) (by decide) (by decide) (by decide) (by decide), _, _, rfl, rfl, .inl ⟨_, rfl, _, _, rfl, rfl, pz, ?_⟩⟩
      refine ⟨_, rfl, b, _, _, 0, rfl, rfl, hb, rfl, ?_⟩
      refine ⟨_, rfl, b, _, _, .int ((s * 47026247687942121848144207491837523525 + 1) % 170141183460469231731687303715884105727), rfl, rfl, sq upd_same, rfl, _, _, rfl, rfl, wide_div (b := 65) (by decide) (by decide) (by decide) (by decide), .inl ⟨_, rfl, _, rfl, _, _, rfl, rfl, hm0, ?_⟩⟩
      exact k _ t _ ⟨x0, x1, b3, b4⟩ (Int.emod_nonneg _ (by omega)) (Int.emod_lt_of_pos _ hm0)
end
end K1

/-! Kc: the drawn things. -/
namespace K1
open PySem PySem.Spec PyProof.Rows L2 L2H Er
theorem st_ {H : Hp} {p q : Addr} {o u : HO} (h : H q = some o) (n : H p = none) : upd H p u q = some o := by
  rw [upd_ne (ne_of_none h n)]
  exact h
theorem st2 {H : Hp} {p q : Addr} {o u u2 : HO} (h : H q = some o) (n : H p = none) : upd (upd H p u) p u2 q = some o := by
  rw [upd_ne (ne_of_none h n)]
  exact st_ h n
theorem nn_ {H : Hp} {p q : Addr} {o u : HO} (hq : H q = some o) (n : upd H p u q = none) : False := by
  by_cases e : q = p
  · rw [e, upd_same] at n
    cases n
  · rw [upd_ne e, hq] at n
    cases n
/-- what is drawn -/
def things : List PyData := [.none, .bool true, .int 0, .int (-7), .int (10 ^ 50), .str "", .str "x y", .tuple [], .tuple [.int 1, .tuple [.int 2]], .int 5, .tuple [.int 1, .int 2]] ++
  ((List.range 9).map (fun n => .list [.int n]) ++ ((List.range 9).map (fun n => .dict [(.str "a", .list [.int n])]) ++ (List.range 9).map (fun n => .tuple [.list [.int n]])))
theorem datV_mono {H H' : Hp} : ∀ (n : Nat) {v : V} {d : PyData}, (∀ b o, H b = some o → H' b = some o) → datV H n v = some d → datV H' n v = some d
  | 0, v, d, _, e => by cases e
  | n + 1, v, d, k, e => by
    have lst : ∀ {xs : List V} {ds : List PyData}, datL (datV H n) xs = some ds → datL (datV H' n) xs = some ds := by
      intro xs
      induction xs with
      | nil => intro ds e; exact e
      | cons x xs ih =>
        intro ds e
        unfold datL at e ⊢
        split at e
        · rename_i d1 ds1 e1 e2
          rw [datV_mono n k e1, ih e2]
          exact e
        · cases e
    cases v with
    | ref p =>
      unfold datV at e ⊢
      split at e
      · rename_i xs hp
        rw [k _ _ hp]
        obtain ⟨ds, e1, e2⟩ := Option.map_eq_some_iff.mp e
        simp only
        rw [lst e1, ← e2]
        rfl
      · rename_i xs hp
        rw [k _ _ hp]
        simp only
        split at e
        · cases e
        · rename_i hne
          rw [if_neg hne]
          obtain ⟨ds, e1, e2⟩ := Option.map_eq_some_iff.mp e
          rw [lst e1, ← e2]
          rfl
      · rename_i x v hp
        rw [k _ _ hp]
        obtain ⟨d1, e1, e2⟩ := Option.map_eq_some_iff.mp e
        simp only
        rw [datV_mono n k e1, ← e2]
        rfl
      · cases e
    | non => exact e
    | bl b => exact e
    | int i => exact e
    | str x => exact e
    | byt b => exact e
    | flt b => exact e
    | ty n => exact e
theorem thing_dat {H : Hp} {p1 p2 p3 p4 p5 p6 : Addr} {r : Int} (r0 : 0 ≤ r) (r1 : r < 9) (m1 : p1 ≠ sysModules) (g1 : H p1 = some (.lst [.int r])) (g2 : H p2 = some (.tup [])) (g3 : H p3 = some (.tup [.int 2])) (g4 : H p4 = some (.tup [.int 1, .ref p3]))
    (g5 : H p5 = some (.dK [((.inr "a" : Key), V.ref p1)])) (g6 : H p6 = some (.tup [.ref p1])) : ∀ v ∈ ([.non, .bl true, .int 0, .int (-7), .int (10 ^ 50), .str "", .str "x y", .ref p2, .ref p4, .ref p1, .ref p5, .ref p6] : List V), ∃ d ∈ things, datV H 6 v = some d := by
  have tup : ∀ {p : Addr} {xs : List V} {n : Nat} {ds : List PyData}, H p = some (.tup xs) → datL (datV H n) xs = some ds → datV H (n + 1) (.ref p) = some (.tuple ds) := fun {p xs n ds} h e => by
    unfold datV
    rw [h]
    simp only
    rw [e]
    rfl
  have e1 : ∀ n, datV H (n + 2) (.ref p1) = some (.list [.int r]) := fun n => by
    unfold datV
    rw [g1]
    simp only
    rw [if_neg m1]
    rfl
  have e2 : datV H 6 (.ref p2) = some (.tuple []) := tup g2 rfl
  have e3 : datV H 5 (.ref p3) = some (.tuple [.int 2]) := tup g3 rfl
  have e4 : datV H 6 (.ref p4) = some (.tuple [.int 1, .tuple [.int 2]]) := tup g4 (by
    unfold datL
    rw [show datV H 5 (.int 1) = some (.int 1) from rfl]
    unfold datL
    rw [e3]
    rfl)
  have e5 : datV H 6 (.ref p5) = some (.dict [(.str "a", .list [.int r])]) := by
    unfold datV
    rw [g5]
    simp only
    rw [e1 3]
    rfl
  have e6 : datV H 6 (.ref p6) = some (.tuple [.list [.int r]]) := tup g6 (by
    unfold datL
    rw [e1 3]
    rfl)
  have hn : ∃ n : Nat, n < 9 ∧ r = (n : Int) := ⟨r.toNat, by omega, by omega⟩
  obtain ⟨n, hn, rfl⟩ := hn
  have inA : ∀ {d : PyData}, d ∈ ([.none, .bool true, .int 0, .int (-7), .int (10 ^ 50), .str "", .str "x y", .tuple [], .tuple [.int 1, .tuple [.int 2]], .int 5, .tuple [.int 1, .int 2]] : List PyData) → d ∈ things := fun h => List.mem_append_left _ h
  intro v hv
  simp only [List.mem_cons, List.not_mem_nil, or_false] at hv
  rcases hv with rfl | rfl | rfl | rfl | rfl | rfl | rfl | rfl | rfl | rfl | rfl | rfl
  · exact ⟨_, inA (.head _), rfl⟩
  · exact ⟨_, inA (.tail _ (.head _)), rfl⟩
  · exact ⟨_, inA (.tail _ (.tail _ (.head _))), rfl⟩
  · exact ⟨_, inA (.tail _ (.tail _ (.tail _ (.head _)))), rfl⟩
  · exact ⟨_, inA (.tail _ (.tail _ (.tail _ (.tail _ (.head _))))), rfl⟩
  · exact ⟨_, inA (.tail _ (.tail _ (.tail _ (.tail _ (.tail _ (.head _)))))), rfl⟩
  · exact ⟨_, inA (.tail _ (.tail _ (.tail _ (.tail _ (.tail _ (.tail _ (.head _))))))), rfl⟩
  · exact ⟨_, inA (.tail _ (.tail _ (.tail _ (.tail _ (.tail _ (.tail _ (.tail _ (.head _)))))))), e2⟩
  · exact ⟨_, inA (.tail _ (.tail _ (.tail _ (.tail _ (.tail _ (.tail _ (.tail _ (.tail _ (.head _))))))))), e4⟩
  · exact ⟨_, List.mem_append_right _ (List.mem_append_left _ (List.mem_map.mpr ⟨n, List.mem_range.mpr hn, rfl⟩)), e1 4⟩
  · exact ⟨_, List.mem_append_right _ (List.mem_append_right _ (List.mem_append_left _ (List.mem_map.mpr ⟨n, List.mem_range.mpr hn, rfl⟩))), e5⟩
  · exact ⟨_, List.mem_append_right _ (List.mem_append_right _ (List.mem_append_right _ (List.mem_map.mpr ⟨n, List.mem_range.mpr hn, rfl⟩))), e6⟩
section
variable {P : Program} {w : World} {K : PySem.W.Frag} {mg : Str → Option Value} {base : Heap}
def spSome : Sp := fun vs H Q _ => ∃ (b p : Addr) (s t : Int) (xs : List V), vs = [.ref b, .ref p] ∧ H b = some (.lst [.int s, .int t]) ∧ BellOk s t ∧ H p = some (.tup xs) ∧ 0 < xs.length ∧ xs.length ≤ 100 ∧
  ∀ s' t' v, BellOk s' t' → v ∈ xs → Q v (upd H b (.lst [.int s', .int t']))
theorem ok_some (T : Tx K mg) : Okd P w K mg base L2.CX0 3 "_law_some" ["bell", "things"] spSome := by
  refine okd (q := (81, "_law_some")) (N := ["bell", "things"]) (k := 2) T (by decide) ⟨rfl, rfl, rfl, by decide +kernel, rfl, by decide +kernel, by decide +kernel⟩ (fun _ _ _ _ _ _ us hl => match us, hl with | [_, _], _ => rfl) (fun vs H Q E h => ?_) (fun cdv A outer s0 H vs Q E hr h => ?_)
  · obtain ⟨b, p, s, t, xs, rfl, _⟩ := h
    rfl
  · have hL : mg "len" = none := T.f "len" (by decide)
    refine ⟨_, PSs.nox (pss_one (ps_ret (pe_ix ix_tup (pv 1) (pe_c (ok_ring T) hr rfl (pa_cons (pv 0) (pa_cons (pe_callB call_len_seq rfl hL (by kernel_rfl) (pa_cons (pv 1) pa_nil)) pa_nil))) (fun _ _ => rfl)))), ?_⟩
    obtain ⟨b, p, s, t, xs, rfl, hb, ok, hp, h0, h1, k⟩ := h
    refine ⟨_, rfl, _, rfl, _, rfl, p, xs, rfl, .inr (SqT.of hp), b, s, t, _, rfl, by omega, by omega, hb, ok, fun s' t' r ok' r0 r1 => ?_⟩
    have hne : p ≠ b := fun e => by rw [e, hb] at hp; cases hp
    have hlt : r.toNat < xs.length := by omega
    refine ⟨p, xs, r, xs[r.toNat], rfl, rfl, SqT.of (by rw [upd_ne hne]; exact hp), ?_, k s' t' _ ok' (List.getElem_mem _)⟩
    unfold atI ixN
    rw [if_pos r0, if_pos r1]
    exact List.getElem?_eq_getElem hlt
/-- a drawn thing: its data stand apart from the bell -/
def spThing : Sp := fun vs H Q _ => ∃ (b : Addr) (s t : Int), vs = [.ref b] ∧ H b = some (.lst [.int s, .int t]) ∧ BellOk s t ∧
  ∀ (H' : Hp) (s' t' : Int) (v : V) (d : PyData), BellOk s' t' → H' b = some (.lst [.int s', .int t']) → (∀ c o, c ≠ b → H c = some o → H' c = some o) → d ∈ things → datV (del H' b) 6 v = some d → Q v H'
theorem ok_thing (T : Tx K mg) : Okd P w K mg base L2.CX0 4 "_law_thing" ["bell"] spThing := by
  refine okd (q := (82, "_law_thing")) (N := ["bell", "one"]) (k := 3) T (by decide) ⟨rfl, rfl, rfl, by decide +kernel, rfl, by decide +kernel, by decide +kernel⟩ (fun _ _ _ _ _ _ us hl => match us, hl with | [_], _ => rfl) (fun vs H Q E h => ?_) (fun cdv A outer s0 H vs Q E hr h => ?_)
  · obtain ⟨b, s, t, rfl, _⟩ := h
    rfl
  · have nd : (["bell", "one"] : List Str).Nodup := by decide +kernel
    refine ⟨_, PSs.nox (pss_cons (ps_set (i := 1) nd rfl (.inl rfl) (pe_lstN (pa_cons (pe_c (ok_ring T) (hr.mono (by decide)) rfl (pa_cons (pv 0) (pa_cons pe_int pa_nil))) pa_nil)))
      (pss_one (ps_ret (pe_c (ok_some T) hr rfl (pa_cons (pv 0) (pa_cons (pe_tup (pa_cons pe_non (pa_cons pe_bl (pa_cons pe_int (pa_cons (pe_un un_neg pe_int) (pa_cons (pe_op op_pow pe_int pe_int) (pa_cons pe_str (pa_cons pe_str (pa_cons (pe_tup pa_nil)
        (pa_cons (pe_tup (pa_cons pe_int (pa_cons (pe_tup (pa_cons pe_int pa_nil)) pa_nil))) (pa_cons (pv 1) (pa_cons (pe_disp (pps_cons pe_str (pv 1) pps_nil) rfl rfl (by simp) (by decide)) (pa_cons (pe_tup (pa_cons (pv 1) pa_nil)) pa_nil))))))))))))) pa_nil)))))), ?_⟩
    obtain ⟨b, s, t, rfl, hb, ok, k⟩ := h
    refine ⟨_, rfl, b, s, t, 9, rfl, by decide, by decide, hb, ok, fun s1 t1 r ok1 r0 r1 => ?_⟩
    refine ⟨by show 1 ≤ sizeLine; decide, fun p1 n1 m1 => ?_⟩
    refine ⟨_, rfl, _, rfl, 10, 50, rfl, rfl, ⟨by decide, by decide, by decide⟩, by show 0 ≤ sizeLine; decide, fun p2 n2 => ?_⟩
    refine ⟨by show 1 ≤ sizeLine; decide, fun p3 n3 => ⟨by show 2 ≤ sizeLine; decide, fun p4 n4 => ⟨_, rfl, fun p5 n5 => ⟨_, rfl, upd_same, [(.inr "a", .ref p1)], rfl, by show 1 ≤ 15; decide, _, rfl, by show 1 ≤ sizeLine; decide, fun p6 n6 => ⟨by show 12 ≤ sizeLine; decide, fun p7 n7 => ?_⟩⟩⟩⟩⟩
    -- what stands where
    have hb1 : upd H b (.lst [.int s1, .int t1]) b = some (.lst [.int s1, .int t1]) := upd_same
    have o1 : ∀ {c o}, c ≠ b → H c = some o → upd H b (.lst [.int s1, .int t1]) c = some o := fun {c o} e h => by rw [upd_ne e]; exact h
    generalize upd H b (.lst [.int s1, .int t1]) = H1 at n1 n2 n3 n4 n5 n6 n7 hb1 o1 ⊢
    have a1 : upd H1 p1 (.lst [.int r]) p1 = some (.lst [.int r]) := upd_same
    have b1 := st_ (u := .lst [.int r]) hb1 n1
    have o2 : ∀ {c o}, c ≠ b → H c = some o → upd H1 p1 (.lst [.int r]) c = some o := fun e h => st_ (o1 e h) n1
    generalize upd H1 p1 (.lst [.int r]) = H2 at n2 n3 n4 n5 n6 n7 a1 b1 o2 ⊢
    have a2 : upd H2 p2 (.tup []) p2 = some (.tup []) := upd_same
    replace a1 := st_ (u := .tup []) a1 n2
    replace b1 := st_ (u := .tup []) b1 n2
    replace o2 : ∀ {c o}, c ≠ b → H c = some o → upd H2 p2 (.tup []) c = some o := fun e h => st_ (o2 e h) n2
    generalize upd H2 p2 (.tup []) = H3 at n3 n4 n5 n6 n7 a1 a2 b1 o2 ⊢
    have a3 : upd H3 p3 (.tup [.int 2]) p3 = some (.tup [.int 2]) := upd_same
    replace a1 := st_ (u := .tup [.int 2]) a1 n3
    replace a2 := st_ (u := .tup [.int 2]) a2 n3
    replace b1 := st_ (u := .tup [.int 2]) b1 n3
    replace o2 : ∀ {c o}, c ≠ b → H c = some o → upd H3 p3 (.tup [.int 2]) c = some o := fun e h => st_ (o2 e h) n3
    generalize upd H3 p3 (.tup [.int 2]) = H4 at n4 n5 n6 n7 a1 a2 a3 b1 o2 ⊢
    have a4 : upd H4 p4 (.tup [.int 1, .ref p3]) p4 = some (.tup [.int 1, .ref p3]) := upd_same
    replace a1 := st_ (u := .tup [.int 1, .ref p3]) a1 n4
    replace a2 := st_ (u := .tup [.int 1, .ref p3]) a2 n4
    replace a3 := st_ (u := .tup [.int 1, .ref p3]) a3 n4
    replace b1 := st_ (u := .tup [.int 1, .ref p3]) b1 n4
    replace o2 : ∀ {c o}, c ≠ b → H c = some o → upd H4 p4 (.tup [.int 1, .ref p3]) c = some o := fun e h => st_ (o2 e h) n4
    generalize upd H4 p4 (.tup [.int 1, .ref p3]) = H5 at n5 n6 n7 a1 a2 a3 a4 b1 o2 ⊢
    have ed : mergeK [] [((.inr "a" : Key), V.ref p1)] = [((.inr "a" : Key), V.ref p1)] := rfl
    rw [ed] at n6 n7 ⊢
    have a5 : upd (upd H5 p5 (.dK [])) p5 (.dK [((.inr "a" : Key), V.ref p1)]) p5 = some (.dK [((.inr "a" : Key), V.ref p1)]) := upd_same
    replace a1 := st2 (u := .dK []) (u2 := .dK [((.inr "a" : Key), V.ref p1)]) a1 n5
    replace a2 := st2 (u := .dK []) (u2 := .dK [((.inr "a" : Key), V.ref p1)]) a2 n5
    replace a3 := st2 (u := .dK []) (u2 := .dK [((.inr "a" : Key), V.ref p1)]) a3 n5
    replace a4 := st2 (u := .dK []) (u2 := .dK [((.inr "a" : Key), V.ref p1)]) a4 n5
    replace b1 := st2 (u := .dK []) (u2 := .dK [((.inr "a" : Key), V.ref p1)]) b1 n5
    replace o2 : ∀ {c o}, c ≠ b → H c = some o → upd (upd H5 p5 (.dK [])) p5 (.dK [((.inr "a" : Key), V.ref p1)]) c = some o := fun e h => st2 (o2 e h) n5
    generalize upd (upd H5 p5 (.dK [])) p5 (.dK [((.inr "a" : Key), V.ref p1)]) = H6 at n6 n7 a1 a2 a3 a4 a5 b1 o2 ⊢
    have a6 : upd H6 p6 (.tup [.ref p1]) p6 = some (.tup [.ref p1]) := upd_same
    replace a1 := st_ (u := .tup [.ref p1]) a1 n6
    replace a2 := st_ (u := .tup [.ref p1]) a2 n6
    replace a3 := st_ (u := .tup [.ref p1]) a3 n6
    replace a4 := st_ (u := .tup [.ref p1]) a4 n6
    replace a5 := st_ (u := .tup [.ref p1]) a5 n6
    replace b1 := st_ (u := .tup [.ref p1]) b1 n6
    replace o2 : ∀ {c o}, c ≠ b → H c = some o → upd H6 p6 (.tup [.ref p1]) c = some o := fun e h => st_ (o2 e h) n6
    generalize upd H6 p6 (.tup [.ref p1]) = H7 at n7 a1 a2 a3 a4 a5 a6 b1 o2 ⊢
    refine ⟨b, p7, s1, t1, [.non, .bl true, .int 0, .int (-7), .int (10 ^ 50), .str "", .str "x y", .ref p2, .ref p4, .ref p1, .ref p5, .ref p6], rfl, st_ b1 n7, ok1, upd_same, (by show 0 < 12; decide), (by show 12 ≤ 100; decide), fun s2 t2 v ok2 hv => ?_⟩
    have g : ∀ {c o}, o ≠ HO.lst [.int s1, .int t1] → H7 c = some o → del (upd (upd H7 p7 (.tup [.non, .bl true, .int 0, .int (-7), .int (10 ^ 50), .str "", .str "x y", .ref p2, .ref p4, .ref p1, .ref p5, .ref p6])) b (.lst [.int s2, .int t2])) b c = some o := fun {c o} ho hc => by
      have hcb : c ≠ b := fun e => by
        rw [e, b1] at hc
        cases hc
        exact ho rfl
      rw [del_ne hcb, upd_ne hcb]
      exact st_ hc n7
    obtain ⟨d, hd, e⟩ := thing_dat r0 r1 m1 (g (fun z => nomatch z) a1) (g (fun z => nomatch z) a2) (g (fun z => nomatch z) a3) (g (fun z => nomatch z) a4) (g (fun z => nomatch z) a5) (g (fun z => nomatch z) a6) v hv
    exact k _ s2 t2 v d ok2 upd_same (fun c o e h => by rw [upd_ne e]; exact st_ (o2 e h) n7) hd e
end
end K1

/-! Kd (printed by gkd.py): errors are made as they are told. -/
namespace K1
open PySem PySem.Spec PyProof.Rows L2 L2H Er
abbrev Ext (H H' : Hp) : Prop := ∀ b o, H b = some o → H' b = some o
section
variable {P : Program} {w : World} {K : PySem.W.Frag} {mg : Str → Option Value} {base : Heap}
def spGiven (K : PySem.W.Frag) : Sp := fun vs H Q _ => ∃ (a C : Addr) (v : V), vs = [.ref a, v] ∧ OexC K C ∧ PySem.W.findIn K (.ref C) "given" = some none ∧ H a = some (exo a C none) ∧
  ∀ dx, H dx = none → dx ≠ a → Q .non (upd (upd H dx (exd dx [("given", v)])) a (exo a C (some dx)))
def spText (K : PySem.W.Frag) : Sp := fun vs H Q _ => ∃ (a C : Addr) (r v : V), vs = [.ref a, r, v] ∧ OexC K C ∧ PySem.W.findIn K (.ref C) "row" = some none ∧ PySem.W.findIn K (.ref C) "word" = some none ∧ H a = some (exo a C none) ∧
  ∀ dx, H dx = none → dx ≠ a → Q .non (upd (upd (upd H dx (exd dx [("row", r)])) a (exo a C (some dx))) dx (exd dx [("word", v), ("row", r)]))
theorem vis {N Ps : List Str} {sc : Scope} (S : FnScope N Ps sc) {x : Str} (h : x ∈ Ps) : Vis sc x := (S.par x h).imp id .inl
theorem given_gen {x qual : Str} {params : Arguments} {body : List Stmt} {scope : Scope} {f : Addr} {fd : FuncData} (F : FunD K x qual params body scope [] [] f fd) (S : FnScope ["self", "given"] ["self", "given"] scope)
    (hb : ∃ p1 p2 p3 p4, body = [.Assign [.Attribute (.Name "self" p1) "given" p2] (.Name "given" p3) p4]) : FnOk P w K mg base L2.CX0 1 f fd ["self", "given"] (spGiven K) := by
  obtain ⟨p1, p2, p3, p4, rfl⟩ := hb
  refine F.ok S (fun vs H Q E h => ?_) fun cdv A outer s0 H vs Q E hr h => ?_
  · obtain ⟨a, C, v, rfl, _⟩ := h
    rfl
  · refine ⟨_, pss_one (ps_ost (pe_var (i := 0) rfl (vis S (by decide))) (pe_var (i := 1) rfl (vis S (by decide)))), ?_⟩
    obtain ⟨a, C, v, rfl, T, hno, ha, k⟩ := h
    exact ⟨v, rfl, .ref a, rfl, a, C, rfl, T, hno, .inl ⟨ha, fun dx h1 h2 => k dx h1 h2⟩⟩
theorem exo_ne {a C d : Addr} {c : Option Addr} {fs : List (Str × V)} {H : Hp} (h1 : H a = some (exo a C c)) (h2 : H d = none) : d ≠ a := fun e => by rw [e, h1] at h2; cases h2
theorem text_gen {x qual : Str} {params : Arguments} {body : List Stmt} {scope : Scope} {f : Addr} {fd : FuncData} (F : FunD K x qual params body scope [] [] f fd) (S : FnScope ["self", "row", "word"] ["self", "row", "word"] scope)
    (hb : ∃ p1 p2 p3 p4 q1 q2 q3 q4, body = [.Assign [.Attribute (.Name "self" p1) "row" p2] (.Name "row" p3) p4, .Assign [.Attribute (.Name "self" q1) "word" q2] (.Name "word" q3) q4]) : FnOk P w K mg base L2.CX0 1 f fd ["self", "row", "word"] (spText K) := by
  obtain ⟨p1, p2, p3, p4, q1, q2, q3, q4, rfl⟩ := hb
  refine F.ok S (fun vs H Q E h => ?_) fun cdv A outer s0 H vs Q E hr h => ?_
  · obtain ⟨a, C, r, v, rfl, _⟩ := h
    rfl
  · refine ⟨_, pss_cons (ps_ost (pe_var (i := 0) rfl (vis S (by decide))) (pe_var (i := 1) rfl (vis S (by decide)))) (pss_one (ps_ost (pe_var (i := 0) rfl (vis S (by decide))) (pe_var (i := 2) rfl (vis S (by decide))))), ?_⟩
    obtain ⟨a, C, r, v, rfl, T, hno, hno2, ha, k⟩ := h
    refine ⟨r, rfl, .ref a, rfl, a, C, rfl, T, hno, .inl ⟨ha, fun dx h1 h2 => ?_⟩⟩
    refine ⟨v, rfl, .ref a, rfl, a, C, rfl, T, hno2, .inr ⟨dx, [("row", r)], upd_same, ?_, (by show 1 ≤ 900; decide), k dx h1 h2⟩⟩
    rw [upd_ne h2]
    exact upd_same
/-- a class's __init__ -/
structure Ini (P : Program) (w : World) (K : PySem.W.Frag) (mg : Str → Option Value) (base : Heap) (x : Str) (ps ks : List Str) (g : List Value → List Value) (sp : Sp) : Prop where
  ex : ∃ fd, FnOk P w K mg base L2.CX0 1 (He.ma K (ga K x) "__init__") fd ps sp ∧ Binds K fd ps [] ∧ ∀ (s : Shared) (a : Value) (ws : List Value), K.In s.heap → ws.length = ks.length → BindsTo s fd ⟨[a], ks.zip ws⟩ (ps.zip (a :: g ws))
theorem bindsK {x qual : Str} {params : Arguments} {body : List Stmt} {scope : Scope} {f : Addr} {fd : FuncData} {ps ks : List Str} {g : List Value → List Value} (F : FunD K x qual params body scope [] [] f fd)
    (h : ∀ (kV doc pm : Value) (an : Option Addr) (cdv ct a : Value) (ws : List Value), ws.length = ks.length → bindArgs (PySem.W.fnOf x qual params body scope .none kV doc pm an cdv ct) ⟨[a], ks.zip ws⟩ = pure (ps.zip (a :: g ws))) :
    ∀ (s : Shared) (a : Value) (ws : List Value), K.In s.heap → ws.length = ks.length → BindsTo s fd ⟨[a], ks.zip ws⟩ (ps.zip (a :: g ws)) := by
  obtain ⟨oc, od, dV, kV, doc, pm, an, cdv, ct, osl, rfl, lk, hcd, hD, hK⟩ := F.ex
  rcases hD with ⟨_, rfl⟩ | ⟨e, _⟩
  · exact fun s a ws _ hl => .of_eq (h kV doc pm an cdv ct a ws hl)
  · exact absurd rfl e
def swap {α : Type} : List α → List α
  | [a, b] => [b, a]
  | l => l
theorem swap_len {α : Type} : ∀ l : List α, (swap l).length = l.length
  | [] => rfl
  | [_] => rfl
  | [_, _] => rfl
  | _ :: _ :: _ :: _ => rfl
theorem swap_rel : ∀ {zs : List V} {ws : List Value}, Vals zs ws → Vals (swap zs) (swap ws)
  | _, _, .nil => .nil
  | _, _, .cons a .nil => .cons a .nil
  | _, _, .cons a (.cons b .nil) => .cons b (.cons a .nil)
  | _, _, .cons a (.cons b (.cons c d)) => .cons a (.cons b (.cons c d))
theorem in_0 (T : Tx K mg) : Ini P w K mg base "InvalidSystem" ["self", "given"] ["given"] id (spGiven K) := by
  obtain ⟨fd, F⟩ := T.i (3, "InvalidSystem") (by decide)
  exact ⟨fd, given_gen F ⟨rfl, rfl, rfl, by decide +kernel, rfl, by decide +kernel, by decide +kernel⟩ ⟨_, _, _, _, rfl⟩, bindsD F (fun _ _ _ _ _ _ us hl => match us, hl with | [_, _], _ => rfl), bindsK F (fun _ _ _ _ _ _ _ ws hl => match ws, hl with | [_], _ => rfl)⟩
theorem in_1 (T : Tx K mg) : Ini P w K mg base "InvalidName" ["self", "given"] ["given"] id (spGiven K) := by
  obtain ⟨fd, F⟩ := T.i (4, "InvalidName") (by decide)
  exact ⟨fd, given_gen F ⟨rfl, rfl, rfl, by decide +kernel, rfl, by decide +kernel, by decide +kernel⟩ ⟨_, _, _, _, rfl⟩, bindsD F (fun _ _ _ _ _ _ us hl => match us, hl with | [_, _], _ => rfl), bindsK F (fun _ _ _ _ _ _ _ ws hl => match ws, hl with | [_], _ => rfl)⟩
theorem in_2 (T : Tx K mg) : Ini P w K mg base "InvalidNumber" ["self", "given"] ["given"] id (spGiven K) := by
  obtain ⟨fd, F⟩ := T.i (5, "InvalidNumber") (by decide)
  exact ⟨fd, given_gen F ⟨rfl, rfl, rfl, by decide +kernel, rfl, by decide +kernel, by decide +kernel⟩ ⟨_, _, _, _, rfl⟩, bindsD F (fun _ _ _ _ _ _ us hl => match us, hl with | [_, _], _ => rfl), bindsK F (fun _ _ _ _ _ _ _ ws hl => match ws, hl with | [_], _ => rfl)⟩
theorem in_3 (T : Tx K mg) : Ini P w K mg base "InvalidPoint" ["self", "given"] ["given"] id (spGiven K) := by
  obtain ⟨fd, F⟩ := T.i (6, "InvalidPoint") (by decide)
  exact ⟨fd, given_gen F ⟨rfl, rfl, rfl, by decide +kernel, rfl, by decide +kernel, by decide +kernel⟩ ⟨_, _, _, _, rfl⟩, bindsD F (fun _ _ _ _ _ _ us hl => match us, hl with | [_, _], _ => rfl), bindsK F (fun _ _ _ _ _ _ _ ws hl => match ws, hl with | [_], _ => rfl)⟩
theorem in_4 (T : Tx K mg) : Ini P w K mg base "InvalidSpace" ["self", "given"] ["given"] id (spGiven K) := by
  obtain ⟨fd, F⟩ := T.i (7, "InvalidSpace") (by decide)
  exact ⟨fd, given_gen F ⟨rfl, rfl, rfl, by decide +kernel, rfl, by decide +kernel, by decide +kernel⟩ ⟨_, _, _, _, rfl⟩, bindsD F (fun _ _ _ _ _ _ us hl => match us, hl with | [_, _], _ => rfl), bindsK F (fun _ _ _ _ _ _ _ ws hl => match ws, hl with | [_], _ => rfl)⟩
theorem in_5 (T : Tx K mg) : Ini P w K mg base "InvalidSigns" ["self", "given"] ["given"] id (spGiven K) := by
  obtain ⟨fd, F⟩ := T.i (8, "InvalidSigns") (by decide)
  exact ⟨fd, given_gen F ⟨rfl, rfl, rfl, by decide +kernel, rfl, by decide +kernel, by decide +kernel⟩ ⟨_, _, _, _, rfl⟩, bindsD F (fun _ _ _ _ _ _ us hl => match us, hl with | [_, _], _ => rfl), bindsK F (fun _ _ _ _ _ _ _ ws hl => match ws, hl with | [_], _ => rfl)⟩
theorem in_6 (T : Tx K mg) : Ini P w K mg base "InvalidRow" ["self", "given"] ["given"] id (spGiven K) := by
  obtain ⟨fd, F⟩ := T.i (9, "InvalidRow") (by decide)
  exact ⟨fd, given_gen F ⟨rfl, rfl, rfl, by decide +kernel, rfl, by decide +kernel, by decide +kernel⟩ ⟨_, _, _, _, rfl⟩, bindsD F (fun _ _ _ _ _ _ us hl => match us, hl with | [_, _], _ => rfl), bindsK F (fun _ _ _ _ _ _ _ ws hl => match ws, hl with | [_], _ => rfl)⟩
theorem in_7 (T : Tx K mg) : Ini P w K mg base "InvalidTable" ["self", "given"] ["given"] id (spGiven K) := by
  obtain ⟨fd, F⟩ := T.i (10, "InvalidTable") (by decide)
  exact ⟨fd, given_gen F ⟨rfl, rfl, rfl, by decide +kernel, rfl, by decide +kernel, by decide +kernel⟩ ⟨_, _, _, _, rfl⟩, bindsD F (fun _ _ _ _ _ _ us hl => match us, hl with | [_, _], _ => rfl), bindsK F (fun _ _ _ _ _ _ _ ws hl => match ws, hl with | [_], _ => rfl)⟩
theorem in_8 (T : Tx K mg) : Ini P w K mg base "InvalidLine" ["self", "given"] ["given"] id (spGiven K) := by
  obtain ⟨fd, F⟩ := T.i (11, "InvalidLine") (by decide)
  exact ⟨fd, given_gen F ⟨rfl, rfl, rfl, by decide +kernel, rfl, by decide +kernel, by decide +kernel⟩ ⟨_, _, _, _, rfl⟩, bindsD F (fun _ _ _ _ _ _ us hl => match us, hl with | [_, _], _ => rfl), bindsK F (fun _ _ _ _ _ _ _ ws hl => match ws, hl with | [_], _ => rfl)⟩
theorem in_9 (T : Tx K mg) : Ini P w K mg base "InvalidPaper" ["self", "given"] ["given"] id (spGiven K) := by
  obtain ⟨fd, F⟩ := T.i (12, "InvalidPaper") (by decide)
  exact ⟨fd, given_gen F ⟨rfl, rfl, rfl, by decide +kernel, rfl, by decide +kernel, by decide +kernel⟩ ⟨_, _, _, _, rfl⟩, bindsD F (fun _ _ _ _ _ _ us hl => match us, hl with | [_, _], _ => rfl), bindsK F (fun _ _ _ _ _ _ _ ws hl => match ws, hl with | [_], _ => rfl)⟩
theorem in_10 (T : Tx K mg) : Ini P w K mg base "NotADesk" ["self", "given"] ["given"] id (spGiven K) := by
  obtain ⟨fd, F⟩ := T.i (13, "NotADesk") (by decide)
  exact ⟨fd, given_gen F ⟨rfl, rfl, rfl, by decide +kernel, rfl, by decide +kernel, by decide +kernel⟩ ⟨_, _, _, _, rfl⟩, bindsD F (fun _ _ _ _ _ _ us hl => match us, hl with | [_, _], _ => rfl), bindsK F (fun _ _ _ _ _ _ _ ws hl => match ws, hl with | [_], _ => rfl)⟩
theorem in_11 (T : Tx K mg) : Ini P w K mg base "NotNow" ["self", "given"] ["given"] id (spGiven K) := by
  obtain ⟨fd, F⟩ := T.i (14, "NotNow") (by decide)
  exact ⟨fd, given_gen F ⟨rfl, rfl, rfl, by decide +kernel, rfl, by decide +kernel, by decide +kernel⟩ ⟨_, _, _, _, rfl⟩, bindsD F (fun _ _ _ _ _ _ us hl => match us, hl with | [_, _], _ => rfl), bindsK F (fun _ _ _ _ _ _ _ ws hl => match ws, hl with | [_], _ => rfl)⟩
theorem in_12 (T : Tx K mg) : Ini P w K mg base "InvalidText" ["self", "row", "word"] ["word", "row"] swap (spText K) := by
  obtain ⟨fd, F⟩ := T.i (15, "InvalidText") (by decide)
  exact ⟨fd, text_gen F ⟨rfl, rfl, rfl, by decide +kernel, rfl, by decide +kernel, by decide +kernel⟩ ⟨_, _, _, _, _, _, _, _, rfl⟩, bindsD F (fun _ _ _ _ _ _ us hl => match us, hl with | [_, _, _], _ => rfl), bindsK F (fun _ _ _ _ _ _ _ ws hl => match ws, hl with | [_, _], _ => rfl)⟩
end
/-! ### the classes called -/
section
variable {X : Cx} {x : Str} {i : Nat} {e : PySem.Expr} {es : List PySem.Expr} {t tk : TA} {p pos : Pos} {kws : List Keyword} {ps ks : List Str} {g : List Value → List Value} {gV : List V → List V} {sp : Sp}
theorem pe_C (T : Tx X.K X.mg) (hx : x ∈ clss) (hi : (i, x) ∈ inits) (o : Ini X.prog X.w X.K X.mg X.base x ps ks g sp) (hr : Room 2 X.A) (hg : Gl X x) (ha : PA X (e :: es) t) (hdb : (x == ("__debug__" : Str)) = false := by decide)
    (he : starEach (e :: es) X.env = (false, eval e X.env) :: starEach es X.env := by rfl) (hpl : (backTo pos (starEach es X.env)).any (·.1) = false := by rfl) : PE X (.Call (.Name x p) (e :: es) [] pos) (tMkV (ga X.K x) sp id t) := by
  obtain ⟨fd, F, hb, _⟩ := o.ex
  obtain ⟨h1, h2, h3⟩ := T.ox (i, x) hi
  exact pe_mkP h1 h2 h3 F hr hb hg (T.g x (List.mem_append_right _ hx)) ha hdb he hpl
theorem pe_CK (T : Tx X.K X.mg) (hx : x ∈ clss) (hi : (i, x) ∈ inits) (o : Ini X.prog X.w X.K X.mg X.base x ps ks g sp) (hr : Room 2 X.A) (hg : Gl X x) (hgv : ∀ {zs : List V} {ws : List Value}, Vals zs ws → Vals (gV zs) (g ws)) (hks0 : ks.length + 1 = ps.length) (hgl : ∀ zs, (gV zs).length = zs.length) (hkw : PK X kws tk)
    (hall : (backToKw pos (keywordEach kws X.env)).all (·.1.isSome) = true := by rfl) (hks : (backToKw pos (keywordEach kws X.env)).filterMap (·.1) = ks := by rfl) (hdb : (x == ("__debug__" : Str)) = false := by decide)
    (hpl : ((backTo pos (starEach [] X.env)).any (·.1) || (backToKw pos (keywordEach kws X.env)).any (·.1.isNone)) = false := by rfl) : PE X (.Call (.Name x p) [] kws pos) (tMkV (ga X.K x) sp gV tk) := by
  obtain ⟨fd, F, _, hb⟩ := o.ex
  obtain ⟨h1, h2, h3⟩ := T.ox (i, x) hi
  exact pe_mkK h1 h2 h3 F hr hb hgv hks0 hgl hg (T.g x (List.mem_append_right _ hx)) hkw hall hks hdb hpl
theorem pmk_C (T : Tx X.K X.mg) (hx : x ∈ clss) (hi : (i, x) ∈ inits) (o : Ini X.prog X.w X.K X.mg X.base x ps ks g sp) (hr : Room 2 X.A) (hg : Gl X x) (ha : PA X (e :: es) t) (hdb : (x == ("__debug__" : Str)) = false := by decide)
    (he : starEach (e :: es) X.env = (false, eval e X.env) :: starEach es X.env := by rfl) (hpl : (backTo pos (starEach es X.env)).any (·.1) = false := by rfl) : L2N.PMk X (.Call (.Name x p) (e :: es) [] pos) (tMkN (ga X.K x) sp t) := by
  obtain ⟨fd, F, hb, _⟩ := o.ex
  obtain ⟨h1, h2, h3⟩ := T.ox (i, x) hi
  exact pmk_P h1 h2 h3 F hr hb hg (T.g x (List.mem_append_right _ hx)) ha hdb he hpl
theorem pe_C0 (T : Tx X.K X.mg) (hx : x ∈ plns) (hx2 : x ∈ clss) (hg : Gl X x) (hdb : (x == ("__debug__" : Str)) = false := by decide) : PE X (.Call (.Name x p) [] [] pos) (fun σ H Q => ∀ a, H a = none → Q (.ref a) (upd H a (ExO (.ref (ga X.K x)) a))) := by
  obtain ⟨h1, h2, h3, h4⟩ := T.pl x hx
  exact pe_exc0 PySem.F.excBase_ValueError h1 (T.g x (List.mem_append_right _ hx2)) h2 hg hdb
theorem pmk_C0 (T : Tx X.K X.mg) (hx : x ∈ plns) (hx2 : x ∈ clss) (hg : Gl X x) (hdb : (x == ("__debug__" : Str)) = false := by decide) : L2N.PMk X (.Call (.Name x p) [] [] pos) (fun _ H Q => Q (.ref (ga X.K x)) none H) := by
  obtain ⟨h1, h2, h3, h4⟩ := T.pl x hx
  exact pmk_exc0 PySem.F.excBase_ValueError h1 (T.g x (List.mem_append_right _ hx2)) h2 (raises_own h3 h4) hg hdb
end
section
variable {K : PySem.W.Frag} {C : Addr} {H : Hp} {Q : VK} {W : XK}
theorem ext_new {H : Hp} {a : Addr} {o : HO} (h : H a = none) : Ext H (upd H a o) := fun b u e => by
  rw [upd_ne (ne_of_none e h)]
  exact e
theorem mk_given {v : V} (T : OexC K C) (hno : PySem.W.findIn K (.ref C) "given" = some none) (k : ∀ a d H2, Ext H H2 → H2 a = some (exo a C (some d)) → H2 d = some (exd d [("given", v)]) → Q (.ref a) H2) :
    [v].length ≤ 100 ∧ ∀ a, H a = none → spGiven K (.ref a :: id [v]) (upd H a (exo a C none)) (fun u H2 => u = .non ∧ Q (.ref a) H2) L2.E0 := by
  refine ⟨by show 1 ≤ 100; decide, fun a ha => ⟨a, C, v, rfl, T, hno, upd_same, fun dx h1 h2 => ⟨rfl, k a dx _ (fun b o e => ?_) upd_same ?_⟩⟩⟩
  · have hd : H dx = none := by rw [upd_ne h2] at h1; exact h1
    have ea := ne_of_none e ha
    rw [upd_ne ea, upd_ne (ne_of_none e hd), upd_ne ea]
    exact e
  · rw [upd_ne h2]
    exact upd_same
theorem rs_given {v : V} (T : OexC K C) (hno : PySem.W.findIn K (.ref C) "given" = some none) (k : ∀ d H2, Ext H H2 → H2 d = some (.xd [("given", v)]) → W (.ref C) (some d) H2) :
    [v].length ≤ 100 ∧ ∀ a, H a = none → spGiven K (.ref a :: [v]) (upd H a (exo a C none)) (fun u H2 => u = .non ∧ ∃ (d : Addr) (fs : List (Str × V)), H2 a = some (exo a C (some d)) ∧ H2 d = some (exd d fs) ∧ H d = none ∧ W (.ref C) (some d) (upd (del H2 a) d (.xd fs))) L2.E0 := by
  refine ⟨by show 1 ≤ 100; decide, fun a ha => ⟨a, C, v, rfl, T, hno, upd_same, fun dx h1 h2 => ⟨rfl, dx, [("given", v)], upd_same, ?_, ?_, k dx _ (fun b o e => ?_) upd_same⟩⟩⟩
  · rw [upd_ne h2]
    exact upd_same
  · rw [upd_ne h2] at h1
    exact h1
  · have hd : H dx = none := by rw [upd_ne h2] at h1; exact h1
    have ea := ne_of_none e ha
    have eb := ne_of_none e hd
    rw [upd_ne eb, del_ne ea, upd_ne ea, upd_ne eb, upd_ne ea]
    exact e
theorem mk_text {r v : V} (T : OexC K C) (hno : PySem.W.findIn K (.ref C) "row" = some none) (hno2 : PySem.W.findIn K (.ref C) "word" = some none) (k : ∀ a d H2, Ext H H2 → H2 a = some (exo a C (some d)) → H2 d = some (exd d [("word", v), ("row", r)]) → Q (.ref a) H2) :
    ∀ a, H a = none → spText K [.ref a, r, v] (upd H a (exo a C none)) (fun u H2 => u = .non ∧ Q (.ref a) H2) L2.E0 := by
  refine fun a ha => ⟨a, C, r, v, rfl, T, hno, hno2, upd_same, fun dx h1 h2 => ⟨rfl, k a dx _ (fun b o e => ?_) ?_ upd_same⟩⟩
  · have hd : H dx = none := by rw [upd_ne h2] at h1; exact h1
    have ea := ne_of_none e ha
    have eb := ne_of_none e hd
    rw [upd_ne eb, upd_ne ea, upd_ne eb, upd_ne ea]
    exact e
  · rw [upd_ne (Ne.symm h2)]
    exact upd_same
theorem rs_text {r v : V} (T : OexC K C) (hno : PySem.W.findIn K (.ref C) "row" = some none) (hno2 : PySem.W.findIn K (.ref C) "word" = some none) (k : ∀ d H2, Ext H H2 → H2 d = some (.xd [("word", v), ("row", r)]) → W (.ref C) (some d) H2) :
    [r, v].length ≤ 100 ∧ ∀ a, H a = none → spText K (.ref a :: [r, v]) (upd H a (exo a C none)) (fun u H2 => u = .non ∧ ∃ (d : Addr) (fs : List (Str × V)), H2 a = some (exo a C (some d)) ∧ H2 d = some (exd d fs) ∧ H d = none ∧ W (.ref C) (some d) (upd (del H2 a) d (.xd fs))) L2.E0 := by
  refine ⟨by show 2 ≤ 100; decide, fun a ha => ⟨a, C, r, v, rfl, T, hno, hno2, upd_same, fun dx h1 h2 => ⟨rfl, dx, [("word", v), ("row", r)], ?_, upd_same, ?_, k dx _ (fun b o e => ?_) upd_same⟩⟩⟩
  · rw [upd_ne (Ne.symm h2)]
    exact upd_same
  · rw [upd_ne h2] at h1
    exact h1
  · have hd : H dx = none := by rw [upd_ne h2] at h1; exact h1
    have ea := ne_of_none e ha
    have eb := ne_of_none e hd
    rw [upd_ne eb, del_ne ea, upd_ne eb, upd_ne ea, upd_ne eb, upd_ne ea]
    exact e
end
end K1

/-! Ke (printed by gke.py): the errors told by place, by name, raised. -/
namespace K1
open PySem PySem.Spec PyProof.Rows L2 L2H Er
/-- the class of a way -/
def wn (n : Nat) : Str := ways.getD n ""
theorem wn_mem {n : Nat} (h : n < 15) : wn n ∈ ways := by
  unfold wn
  rw [List.getD_eq_getElem?_getD, List.getElem?_eq_getElem (show n < ways.length from h)]
  exact List.getElem_mem _
/-- an error of a way, that keeps things -/
def Made (K : PySem.W.Frag) (l : List (Addr × Obj)) (H : Hp) (a : Addr) (n : Nat) (thing more : V) : Prop :=
  ∃ d, ErrIn l H a (ga K (wn n)) d ∧ ((n < 12 ∧ ∃ dd, d = some dd ∧ FsAt H dd [("given", thing)]) ∨ (n = 12 ∧ ∃ dd, d = some dd ∧ FsAt H dd [("word", more), ("row", thing)]) ∨ (12 < n ∧ d = none))
theorem err_exo {l : List (Addr × Obj)} {H : Hp} {a C : Addr} {d : Option Addr} (h : H a = some (exo a C d)) : ErrIn l H a C d := .inr ⟨_, h, fun hp ⟨t1, e⟩ => ⟨_, e, rfl, rfl, _, rfl⟩⟩
theorem err_ExO {l : List (Addr × Obj)} {H : Hp} {a C : Addr} (h : H a = some (ExO (.ref C) a)) : ErrIn l H a C none := .inr ⟨_, h, fun hp ⟨oe, vs, e, z, dt, _⟩ => ⟨oe, e, z.1, z.2, vs, dt⟩⟩
theorem made_given {K : PySem.W.Frag} {H : Hp} {a d : Addr} {n : Nat} {t m : V} (hn : n < 12) (h1 : H a = some (exo a (ga K (wn n)) (some d))) (h2 : H d = some (exd d [("given", t)])) : Made K [] H a n t m := ⟨some d, err_exo h1, .inl ⟨hn, d, rfl, .inr h2⟩⟩
theorem made_text {K : PySem.W.Frag} {H : Hp} {a d : Addr} {t m : V} (h1 : H a = some (exo a (ga K (wn 12)) (some d))) (h2 : H d = some (exd d [("word", m), ("row", t)])) : Made K [] H a 12 t m := ⟨some d, err_exo h1, .inr (.inl ⟨rfl, d, rfl, .inr h2⟩)⟩
theorem made_none {K : PySem.W.Frag} {H : Hp} {a : Addr} {n : Nat} {t m : V} (hn : 12 < n) (h1 : H a = some (ExO (.ref (ga K (wn n))) a)) : Made K [] H a n t m := ⟨none, err_ExO h1, .inr (.inr ⟨hn, rfl⟩)⟩
section
variable {P : Program} {w : World} {K : PySem.W.Frag} {mg : Str → Option Value} {base : Heap}
def spTold (K : PySem.W.Frag) : Sp := fun vs H Q _ => ∃ (n : Nat) (thing more : V), vs = [.int (n : Int), thing, more] ∧ n < 15 ∧ ∀ a H', Ext H H' → Made K [] H' a n thing more → Q (.ref a) H'
/-- raised: the class, its dict, what stood stands -/
def spRaised (K : PySem.W.Frag) : Sp := fun vs H _ E => ∃ (n : Nat) (thing more : V), vs = [.int (n : Int), thing, more] ∧ n < 15 ∧
  ∀ d H', Ext H H' → ((n < 12 ∧ ∃ dd, d = some dd ∧ H' dd = some (.xd [("given", thing)])) ∨ (n = 12 ∧ ∃ dd, d = some dd ∧ H' dd = some (.xd [("word", more), ("row", thing)])) ∨ (12 < n ∧ d = none)) → E (.ref (ga K (wn n))) d H'
theorem ok_by_place (T : Tx K mg) : Okd P w K mg base L2.CX0 3 "_law_told_by_place" ["way", "thing", "more"] (spTold K) := by
  refine okd (q := (83, "_law_told_by_place")) (N := ["way", "thing", "more"]) (k := 2) T (by decide) ⟨rfl, rfl, rfl, by decide +kernel, rfl, by decide +kernel, by decide +kernel⟩ (fun _ _ _ _ _ _ us hl => match us, hl with | [_, _, _], _ => rfl) (fun vs H Q E h => ?_) (fun cdv A outer s0 H vs Q E hr h => ?_)
  · obtain ⟨n, t, m, rfl, _⟩ := h
    rfl
  · refine ⟨_, PSs.nox (pss_cons (ps_if (pt_cmpR op_lt (pv 0) pe_int (nomark _)) (pss_one (ps_ret (pe_ifExp (pt_cmpR op_eq (pv 0) pe_int (nomark _)) (pe_C T (by decide) (i := 3) (by decide) (in_0 T) hr rfl (pa_cons (pv 1) pa_nil)) (pe_ifExp (pt_cmpR op_eq (pv 0) pe_int (nomark _)) (pe_C T (by decide) (i := 4) (by decide) (in_1 T) hr rfl (pa_cons (pv 1) pa_nil)) (pe_ifExp (pt_cmpR op_eq (pv 0) pe_int (nomark _)) (pe_C T (by decide) (i := 5) (by decide) (in_2 T) hr rfl (pa_cons (pv 1) pa_nil)) (pe_C T (by decide) (i := 6) (by decide) (in_3 T) hr rfl (pa_cons (pv 1) pa_nil))))))) pss_nil)
      (pss_cons (ps_if (pt_cmpR op_lt (pv 0) pe_int (nomark _)) (pss_one (ps_ret (pe_ifExp (pt_cmpR op_eq (pv 0) pe_int (nomark _)) (pe_C T (by decide) (i := 7) (by decide) (in_4 T) hr rfl (pa_cons (pv 1) pa_nil)) (pe_ifExp (pt_cmpR op_eq (pv 0) pe_int (nomark _)) (pe_C T (by decide) (i := 8) (by decide) (in_5 T) hr rfl (pa_cons (pv 1) pa_nil)) (pe_ifExp (pt_cmpR op_eq (pv 0) pe_int (nomark _)) (pe_C T (by decide) (i := 9) (by decide) (in_6 T) hr rfl (pa_cons (pv 1) pa_nil)) (pe_C T (by decide) (i := 10) (by decide) (in_7 T) hr rfl (pa_cons (pv 1) pa_nil))))))) pss_nil)
      (pss_cons (ps_if (pt_cmpR op_lt (pv 0) pe_int (nomark _)) (pss_one (ps_ret (pe_ifExp (pt_cmpR op_eq (pv 0) pe_int (nomark _)) (pe_C T (by decide) (i := 11) (by decide) (in_8 T) hr rfl (pa_cons (pv 1) pa_nil)) (pe_ifExp (pt_cmpR op_eq (pv 0) pe_int (nomark _)) (pe_C T (by decide) (i := 12) (by decide) (in_9 T) hr rfl (pa_cons (pv 1) pa_nil)) (pe_ifExp (pt_cmpR op_eq (pv 0) pe_int (nomark _)) (pe_C T (by decide) (i := 13) (by decide) (in_10 T) hr rfl (pa_cons (pv 1) pa_nil)) (pe_C T (by decide) (i := 14) (by decide) (in_11 T) hr rfl (pa_cons (pv 1) pa_nil))))))) pss_nil)
      (pss_one (ps_ret (pe_ifExp (pt_cmpR op_eq (pv 0) pe_int (nomark _)) (pe_C T (by decide) (i := 15) (by decide) (in_12 T) hr rfl (pa_cons (pv 1) (pa_cons (pv 2) pa_nil))) (pe_ifExp (pt_cmpR op_eq (pv 0) pe_int (nomark _)) (pe_C0 T (by decide) (by decide) rfl) (pe_C0 T (by decide) (by decide) rfl)))))))), ?_⟩
    obtain ⟨n, thing, more, rfl, hn, k⟩ := h
    have hn' : n = 0 ∨ n = 1 ∨ n = 2 ∨ n = 3 ∨ n = 4 ∨ n = 5 ∨ n = 6 ∨ n = 7 ∨ n = 8 ∨ n = 9 ∨ n = 10 ∨ n = 11 ∨ n = 12 ∨ n = 13 ∨ n = 14 := by omega
    rcases hn' with rfl | rfl | rfl | rfl | rfl | rfl | rfl | rfl | rfl | rfl | rfl | rfl | rfl | rfl | rfl
    · refine ⟨_, rfl, _, _, rfl, rfl, _, rfl, ?_⟩
      refine if_t (by decide) ?_
      refine ⟨_, rfl, rfl, _, rfl, ?_⟩
      refine if_t (by decide) ?_
      exact ⟨_, rfl, mk_given (T.ox (3, "InvalidSystem") (by decide)).1 (T.gv "InvalidSystem" (by decide)) fun a d H2 h1 h2 h3 => k a H2 h1 (made_given (n := 0) (by decide) h2 h3)⟩
    · refine ⟨_, rfl, _, _, rfl, rfl, _, rfl, ?_⟩
      refine if_t (by decide) ?_
      refine ⟨_, rfl, rfl, _, rfl, ?_⟩
      refine if_f (by decide) ?_
      refine ⟨_, rfl, rfl, _, rfl, ?_⟩
      refine if_t (by decide) ?_
      exact ⟨_, rfl, mk_given (T.ox (4, "InvalidName") (by decide)).1 (T.gv "InvalidName" (by decide)) fun a d H2 h1 h2 h3 => k a H2 h1 (made_given (n := 1) (by decide) h2 h3)⟩
    · refine ⟨_, rfl, _, _, rfl, rfl, _, rfl, ?_⟩
      refine if_t (by decide) ?_
      refine ⟨_, rfl, rfl, _, rfl, ?_⟩
      refine if_f (by decide) ?_
      refine ⟨_, rfl, rfl, _, rfl, ?_⟩
      refine if_f (by decide) ?_
      refine ⟨_, rfl, rfl, _, rfl, ?_⟩
      refine if_t (by decide) ?_
      exact ⟨_, rfl, mk_given (T.ox (5, "InvalidNumber") (by decide)).1 (T.gv "InvalidNumber" (by decide)) fun a d H2 h1 h2 h3 => k a H2 h1 (made_given (n := 2) (by decide) h2 h3)⟩
    · refine ⟨_, rfl, _, _, rfl, rfl, _, rfl, ?_⟩
      refine if_t (by decide) ?_
      refine ⟨_, rfl, rfl, _, rfl, ?_⟩
      refine if_f (by decide) ?_
      refine ⟨_, rfl, rfl, _, rfl, ?_⟩
      refine if_f (by decide) ?_
      refine ⟨_, rfl, rfl, _, rfl, ?_⟩
      refine if_f (by decide) ?_
      exact ⟨_, rfl, mk_given (T.ox (6, "InvalidPoint") (by decide)).1 (T.gv "InvalidPoint" (by decide)) fun a d H2 h1 h2 h3 => k a H2 h1 (made_given (n := 3) (by decide) h2 h3)⟩
    · refine ⟨_, rfl, _, _, rfl, rfl, _, rfl, ?_⟩
      refine if_f (by decide) ?_
      refine ⟨_, rfl, _, _, rfl, rfl, _, rfl, ?_⟩
      refine if_t (by decide) ?_
      refine ⟨_, rfl, rfl, _, rfl, ?_⟩
      refine if_t (by decide) ?_
      exact ⟨_, rfl, mk_given (T.ox (7, "InvalidSpace") (by decide)).1 (T.gv "InvalidSpace" (by decide)) fun a d H2 h1 h2 h3 => k a H2 h1 (made_given (n := 4) (by decide) h2 h3)⟩
    · refine ⟨_, rfl, _, _, rfl, rfl, _, rfl, ?_⟩
      refine if_f (by decide) ?_
      refine ⟨_, rfl, _, _, rfl, rfl, _, rfl, ?_⟩
      refine if_t (by decide) ?_
      refine ⟨_, rfl, rfl, _, rfl, ?_⟩
      refine if_f (by decide) ?_
      refine ⟨_, rfl, rfl, _, rfl, ?_⟩
      refine if_t (by decide) ?_
      exact ⟨_, rfl, mk_given (T.ox (8, "InvalidSigns") (by decide)).1 (T.gv "InvalidSigns" (by decide)) fun a d H2 h1 h2 h3 => k a H2 h1 (made_given (n := 5) (by decide) h2 h3)⟩
    · refine ⟨_, rfl, _, _, rfl, rfl, _, rfl, ?_⟩
      refine if_f (by decide) ?_
      refine ⟨_, rfl, _, _, rfl, rfl, _, rfl, ?_⟩
      refine if_t (by decide) ?_
      refine ⟨_, rfl, rfl, _, rfl, ?_⟩
      refine if_f (by decide) ?_
      refine ⟨_, rfl, rfl, _, rfl, ?_⟩
      refine if_f (by decide) ?_
      refine ⟨_, rfl, rfl, _, rfl, ?_⟩
      refine if_t (by decide) ?_
      exact ⟨_, rfl, mk_given (T.ox (9, "InvalidRow") (by decide)).1 (T.gv "InvalidRow" (by decide)) fun a d H2 h1 h2 h3 => k a H2 h1 (made_given (n := 6) (by decide) h2 h3)⟩
    · refine ⟨_, rfl, _, _, rfl, rfl, _, rfl, ?_⟩
      refine if_f (by decide) ?_
      refine ⟨_, rfl, _, _, rfl, rfl, _, rfl, ?_⟩
      refine if_t (by decide) ?_
      refine ⟨_, rfl, rfl, _, rfl, ?_⟩
      refine if_f (by decide) ?_
      refine ⟨_, rfl, rfl, _, rfl, ?_⟩
      refine if_f (by decide) ?_
      refine ⟨_, rfl, rfl, _, rfl, ?_⟩
      refine if_f (by decide) ?_
      exact ⟨_, rfl, mk_given (T.ox (10, "InvalidTable") (by decide)).1 (T.gv "InvalidTable" (by decide)) fun a d H2 h1 h2 h3 => k a H2 h1 (made_given (n := 7) (by decide) h2 h3)⟩
    · refine ⟨_, rfl, _, _, rfl, rfl, _, rfl, ?_⟩
      refine if_f (by decide) ?_
      refine ⟨_, rfl, _, _, rfl, rfl, _, rfl, ?_⟩
      refine if_f (by decide) ?_
      refine ⟨_, rfl, _, _, rfl, rfl, _, rfl, ?_⟩
      refine if_t (by decide) ?_
      refine ⟨_, rfl, rfl, _, rfl, ?_⟩
      refine if_t (by decide) ?_
      exact ⟨_, rfl, mk_given (T.ox (11, "InvalidLine") (by decide)).1 (T.gv "InvalidLine" (by decide)) fun a d H2 h1 h2 h3 => k a H2 h1 (made_given (n := 8) (by decide) h2 h3)⟩
    · refine ⟨_, rfl, _, _, rfl, rfl, _, rfl, ?_⟩
      refine if_f (by decide) ?_
      refine ⟨_, rfl, _, _, rfl, rfl, _, rfl, ?_⟩
      refine if_f (by decide) ?_
      refine ⟨_, rfl, _, _, rfl, rfl, _, rfl, ?_⟩
      refine if_t (by decide) ?_
      refine ⟨_, rfl, rfl, _, rfl, ?_⟩
      refine if_f (by decide) ?_
      refine ⟨_, rfl, rfl, _, rfl, ?_⟩
      refine if_t (by decide) ?_
      exact ⟨_, rfl, mk_given (T.ox (12, "InvalidPaper") (by decide)).1 (T.gv "InvalidPaper" (by decide)) fun a d H2 h1 h2 h3 => k a H2 h1 (made_given (n := 9) (by decide) h2 h3)⟩
    · refine ⟨_, rfl, _, _, rfl, rfl, _, rfl, ?_⟩
      refine if_f (by decide) ?_
      refine ⟨_, rfl, _, _, rfl, rfl, _, rfl, ?_⟩
      refine if_f (by decide) ?_
      refine ⟨_, rfl, _, _, rfl, rfl, _, rfl, ?_⟩
      refine if_t (by decide) ?_
      refine ⟨_, rfl, rfl, _, rfl, ?_⟩
      refine if_f (by decide) ?_
      refine ⟨_, rfl, rfl, _, rfl, ?_⟩
      refine if_f (by decide) ?_
      refine ⟨_, rfl, rfl, _, rfl, ?_⟩
      refine if_t (by decide) ?_
      exact ⟨_, rfl, mk_given (T.ox (13, "NotADesk") (by decide)).1 (T.gv "NotADesk" (by decide)) fun a d H2 h1 h2 h3 => k a H2 h1 (made_given (n := 10) (by decide) h2 h3)⟩
    · refine ⟨_, rfl, _, _, rfl, rfl, _, rfl, ?_⟩
      refine if_f (by decide) ?_
      refine ⟨_, rfl, _, _, rfl, rfl, _, rfl, ?_⟩
      refine if_f (by decide) ?_
      refine ⟨_, rfl, _, _, rfl, rfl, _, rfl, ?_⟩
      refine if_t (by decide) ?_
      refine ⟨_, rfl, rfl, _, rfl, ?_⟩
      refine if_f (by decide) ?_
      refine ⟨_, rfl, rfl, _, rfl, ?_⟩
      refine if_f (by decide) ?_
      refine ⟨_, rfl, rfl, _, rfl, ?_⟩
      refine if_f (by decide) ?_
      exact ⟨_, rfl, mk_given (T.ox (14, "NotNow") (by decide)).1 (T.gv "NotNow" (by decide)) fun a d H2 h1 h2 h3 => k a H2 h1 (made_given (n := 11) (by decide) h2 h3)⟩
    · refine ⟨_, rfl, _, _, rfl, rfl, _, rfl, ?_⟩
      refine if_f (by decide) ?_
      refine ⟨_, rfl, _, _, rfl, rfl, _, rfl, ?_⟩
      refine if_f (by decide) ?_
      refine ⟨_, rfl, _, _, rfl, rfl, _, rfl, ?_⟩
      refine if_f (by decide) ?_
      refine ⟨_, rfl, rfl, _, rfl, ?_⟩
      refine if_t (by decide) ?_
      exact ⟨_, rfl, _, rfl, by show 2 ≤ 100; decide, mk_text (T.ox (15, "InvalidText") (by decide)).1 T.rw_ T.wd fun a d H2 h1 h2 h3 => k a H2 h1 (made_text h2 h3)⟩
    · refine ⟨_, rfl, _, _, rfl, rfl, _, rfl, ?_⟩
      refine if_f (by decide) ?_
      refine ⟨_, rfl, _, _, rfl, rfl, _, rfl, ?_⟩
      refine if_f (by decide) ?_
      refine ⟨_, rfl, _, _, rfl, rfl, _, rfl, ?_⟩
      refine if_f (by decide) ?_
      refine ⟨_, rfl, rfl, _, rfl, ?_⟩
      refine if_f (by decide) ?_
      refine ⟨_, rfl, rfl, _, rfl, ?_⟩
      refine if_t (by decide) ?_
      exact fun a ha => k a _ (ext_new ha) (made_none (n := 13) (by decide) upd_same)
    · refine ⟨_, rfl, _, _, rfl, rfl, _, rfl, ?_⟩
      refine if_f (by decide) ?_
      refine ⟨_, rfl, _, _, rfl, rfl, _, rfl, ?_⟩
      refine if_f (by decide) ?_
      refine ⟨_, rfl, _, _, rfl, rfl, _, rfl, ?_⟩
      refine if_f (by decide) ?_
      refine ⟨_, rfl, rfl, _, rfl, ?_⟩
      refine if_f (by decide) ?_
      refine ⟨_, rfl, rfl, _, rfl, ?_⟩
      refine if_f (by decide) ?_
      exact fun a ha => k a _ (ext_new ha) (made_none (n := 14) (by decide) upd_same)
theorem ok_by_name (T : Tx K mg) : Okd P w K mg base L2.CX0 3 "_law_told_by_name" ["way", "thing", "more"] (spTold K) := by
  refine okd (q := (84, "_law_told_by_name")) (N := ["way", "thing", "more"]) (k := 2) T (by decide) ⟨rfl, rfl, rfl, by decide +kernel, rfl, by decide +kernel, by decide +kernel⟩ (fun _ _ _ _ _ _ us hl => match us, hl with | [_, _, _], _ => rfl) (fun vs H Q E h => ?_) (fun cdv A outer s0 H vs Q E hr h => ?_)
  · obtain ⟨n, t, m, rfl, _⟩ := h
    rfl
  · refine ⟨_, PSs.nox (pss_cons (ps_if (pt_cmpR op_lt (pv 0) pe_int (nomark _)) (pss_one (ps_ret (pe_ifExp (pt_cmpR op_eq (pv 0) pe_int (nomark _)) (pe_CK T (by decide) (i := 3) (by decide) (in_0 T) hr rfl (gV := id) (fun h => h) rfl (fun _ => rfl) (pk_cons (pv 1) pk_nil)) (pe_ifExp (pt_cmpR op_eq (pv 0) pe_int (nomark _)) (pe_CK T (by decide) (i := 4) (by decide) (in_1 T) hr rfl (gV := id) (fun h => h) rfl (fun _ => rfl) (pk_cons (pv 1) pk_nil)) (pe_ifExp (pt_cmpR op_eq (pv 0) pe_int (nomark _)) (pe_CK T (by decide) (i := 5) (by decide) (in_2 T) hr rfl (gV := id) (fun h => h) rfl (fun _ => rfl) (pk_cons (pv 1) pk_nil)) (pe_CK T (by decide) (i := 6) (by decide) (in_3 T) hr rfl (gV := id) (fun h => h) rfl (fun _ => rfl) (pk_cons (pv 1) pk_nil))))))) pss_nil)
      (pss_cons (ps_if (pt_cmpR op_lt (pv 0) pe_int (nomark _)) (pss_one (ps_ret (pe_ifExp (pt_cmpR op_eq (pv 0) pe_int (nomark _)) (pe_CK T (by decide) (i := 7) (by decide) (in_4 T) hr rfl (gV := id) (fun h => h) rfl (fun _ => rfl) (pk_cons (pv 1) pk_nil)) (pe_ifExp (pt_cmpR op_eq (pv 0) pe_int (nomark _)) (pe_CK T (by decide) (i := 8) (by decide) (in_5 T) hr rfl (gV := id) (fun h => h) rfl (fun _ => rfl) (pk_cons (pv 1) pk_nil)) (pe_ifExp (pt_cmpR op_eq (pv 0) pe_int (nomark _)) (pe_CK T (by decide) (i := 9) (by decide) (in_6 T) hr rfl (gV := id) (fun h => h) rfl (fun _ => rfl) (pk_cons (pv 1) pk_nil)) (pe_CK T (by decide) (i := 10) (by decide) (in_7 T) hr rfl (gV := id) (fun h => h) rfl (fun _ => rfl) (pk_cons (pv 1) pk_nil))))))) pss_nil)
      (pss_cons (ps_if (pt_cmpR op_lt (pv 0) pe_int (nomark _)) (pss_one (ps_ret (pe_ifExp (pt_cmpR op_eq (pv 0) pe_int (nomark _)) (pe_CK T (by decide) (i := 11) (by decide) (in_8 T) hr rfl (gV := id) (fun h => h) rfl (fun _ => rfl) (pk_cons (pv 1) pk_nil)) (pe_ifExp (pt_cmpR op_eq (pv 0) pe_int (nomark _)) (pe_CK T (by decide) (i := 12) (by decide) (in_9 T) hr rfl (gV := id) (fun h => h) rfl (fun _ => rfl) (pk_cons (pv 1) pk_nil)) (pe_ifExp (pt_cmpR op_eq (pv 0) pe_int (nomark _)) (pe_CK T (by decide) (i := 13) (by decide) (in_10 T) hr rfl (gV := id) (fun h => h) rfl (fun _ => rfl) (pk_cons (pv 1) pk_nil)) (pe_CK T (by decide) (i := 14) (by decide) (in_11 T) hr rfl (gV := id) (fun h => h) rfl (fun _ => rfl) (pk_cons (pv 1) pk_nil))))))) pss_nil)
      (pss_one (ps_ret (pe_ifExp (pt_cmpR op_eq (pv 0) pe_int (nomark _)) (pe_CK T (by decide) (i := 15) (by decide) (in_12 T) hr rfl (gV := swap) swap_rel rfl swap_len (pk_cons (pv 2) (pk_cons (pv 1) pk_nil))) (pe_ifExp (pt_cmpR op_eq (pv 0) pe_int (nomark _)) (pe_C0 T (by decide) (by decide) rfl) (pe_C0 T (by decide) (by decide) rfl)))))))), ?_⟩
    obtain ⟨n, thing, more, rfl, hn, k⟩ := h
    have hn' : n = 0 ∨ n = 1 ∨ n = 2 ∨ n = 3 ∨ n = 4 ∨ n = 5 ∨ n = 6 ∨ n = 7 ∨ n = 8 ∨ n = 9 ∨ n = 10 ∨ n = 11 ∨ n = 12 ∨ n = 13 ∨ n = 14 := by omega
    rcases hn' with rfl | rfl | rfl | rfl | rfl | rfl | rfl | rfl | rfl | rfl | rfl | rfl | rfl | rfl | rfl
    · refine ⟨_, rfl, _, _, rfl, rfl, _, rfl, ?_⟩
      refine if_t (by decide) ?_
      refine ⟨_, rfl, rfl, _, rfl, ?_⟩
      refine if_t (by decide) ?_
      exact ⟨_, rfl, mk_given (T.ox (3, "InvalidSystem") (by decide)).1 (T.gv "InvalidSystem" (by decide)) fun a d H2 h1 h2 h3 => k a H2 h1 (made_given (n := 0) (by decide) h2 h3)⟩
    · refine ⟨_, rfl, _, _, rfl, rfl, _, rfl, ?_⟩
      refine if_t (by decide) ?_
      refine ⟨_, rfl, rfl, _, rfl, ?_⟩
      refine if_f (by decide) ?_
      refine ⟨_, rfl, rfl, _, rfl, ?_⟩
      refine if_t (by decide) ?_
      exact ⟨_, rfl, mk_given (T.ox (4, "InvalidName") (by decide)).1 (T.gv "InvalidName" (by decide)) fun a d H2 h1 h2 h3 => k a H2 h1 (made_given (n := 1) (by decide) h2 h3)⟩
    · refine ⟨_, rfl, _, _, rfl, rfl, _, rfl, ?_⟩
      refine if_t (by decide) ?_
      refine ⟨_, rfl, rfl, _, rfl, ?_⟩
      refine if_f (by decide) ?_
      refine ⟨_, rfl, rfl, _, rfl, ?_⟩
      refine if_f (by decide) ?_
      refine ⟨_, rfl, rfl, _, rfl, ?_⟩
      refine if_t (by decide) ?_
      exact ⟨_, rfl, mk_given (T.ox (5, "InvalidNumber") (by decide)).1 (T.gv "InvalidNumber" (by decide)) fun a d H2 h1 h2 h3 => k a H2 h1 (made_given (n := 2) (by decide) h2 h3)⟩
    · refine ⟨_, rfl, _, _, rfl, rfl, _, rfl, ?_⟩
      refine if_t (by decide) ?_
      refine ⟨_, rfl, rfl, _, rfl, ?_⟩
      refine if_f (by decide) ?_
      refine ⟨_, rfl, rfl, _, rfl, ?_⟩
      refine if_f (by decide) ?_
      refine ⟨_, rfl, rfl, _, rfl, ?_⟩
      refine if_f (by decide) ?_
      exact ⟨_, rfl, mk_given (T.ox (6, "InvalidPoint") (by decide)).1 (T.gv "InvalidPoint" (by decide)) fun a d H2 h1 h2 h3 => k a H2 h1 (made_given (n := 3) (by decide) h2 h3)⟩
    · refine ⟨_, rfl, _, _, rfl, rfl, _, rfl, ?_⟩
      refine if_f (by decide) ?_
      refine ⟨_, rfl, _, _, rfl, rfl, _, rfl, ?_⟩
      refine if_t (by decide) ?_
      refine ⟨_, rfl, rfl, _, rfl, ?_⟩
      refine if_t (by decide) ?_
      exact ⟨_, rfl, mk_given (T.ox (7, "InvalidSpace") (by decide)).1 (T.gv "InvalidSpace" (by decide)) fun a d H2 h1 h2 h3 => k a H2 h1 (made_given (n := 4) (by decide) h2 h3)⟩
    · refine ⟨_, rfl, _, _, rfl, rfl, _, rfl, ?_⟩
      refine if_f (by decide) ?_
      refine ⟨_, rfl, _, _, rfl, rfl, _, rfl, ?_⟩
      refine if_t (by decide) ?_
      refine ⟨_, rfl, rfl, _, rfl, ?_⟩
      refine if_f (by decide) ?_
      refine ⟨_, rfl, rfl, _, rfl, ?_⟩
      refine if_t (by decide) ?_
      exact ⟨_, rfl, mk_given (T.ox (8, "InvalidSigns") (by decide)).1 (T.gv "InvalidSigns" (by decide)) fun a d H2 h1 h2 h3 => k a H2 h1 (made_given (n := 5) (by decide) h2 h3)⟩
    · refine ⟨_, rfl, _, _, rfl, rfl, _, rfl, ?_⟩
      refine if_f (by decide) ?_
      refine ⟨_, rfl, _, _, rfl, rfl, _, rfl, ?_⟩
      refine if_t (by decide) ?_
      refine ⟨_, rfl, rfl, _, rfl, ?_⟩
      refine if_f (by decide) ?_
      refine ⟨_, rfl, rfl, _, rfl, ?_⟩
      refine if_f (by decide) ?_
      refine ⟨_, rfl, rfl, _, rfl, ?_⟩
      refine if_t (by decide) ?_
      exact ⟨_, rfl, mk_given (T.ox (9, "InvalidRow") (by decide)).1 (T.gv "InvalidRow" (by decide)) fun a d H2 h1 h2 h3 => k a H2 h1 (made_given (n := 6) (by decide) h2 h3)⟩
    · refine ⟨_, rfl, _, _, rfl, rfl, _, rfl, ?_⟩
      refine if_f (by decide) ?_
      refine ⟨_, rfl, _, _, rfl, rfl, _, rfl, ?_⟩
      refine if_t (by decide) ?_
      refine ⟨_, rfl, rfl, _, rfl, ?_⟩
      refine if_f (by decide) ?_
      refine ⟨_, rfl, rfl, _, rfl, ?_⟩
      refine if_f (by decide) ?_
      refine ⟨_, rfl, rfl, _, rfl, ?_⟩
      refine if_f (by decide) ?_
      exact ⟨_, rfl, mk_given (T.ox (10, "InvalidTable") (by decide)).1 (T.gv "InvalidTable" (by decide)) fun a d H2 h1 h2 h3 => k a H2 h1 (made_given (n := 7) (by decide) h2 h3)⟩
    · refine ⟨_, rfl, _, _, rfl, rfl, _, rfl, ?_⟩
      refine if_f (by decide) ?_
      refine ⟨_, rfl, _, _, rfl, rfl, _, rfl, ?_⟩
      refine if_f (by decide) ?_
      refine ⟨_, rfl, _, _, rfl, rfl, _, rfl, ?_⟩
      refine if_t (by decide) ?_
      refine ⟨_, rfl, rfl, _, rfl, ?_⟩
      refine if_t (by decide) ?_
      exact ⟨_, rfl, mk_given (T.ox (11, "InvalidLine") (by decide)).1 (T.gv "InvalidLine" (by decide)) fun a d H2 h1 h2 h3 => k a H2 h1 (made_given (n := 8) (by decide) h2 h3)⟩
    · refine ⟨_, rfl, _, _, rfl, rfl, _, rfl, ?_⟩
      refine if_f (by decide) ?_
      refine ⟨_, rfl, _, _, rfl, rfl, _, rfl, ?_⟩
      refine if_f (by decide) ?_
      refine ⟨_, rfl, _, _, rfl, rfl, _, rfl, ?_⟩
      refine if_t (by decide) ?_
      refine ⟨_, rfl, rfl, _, rfl, ?_⟩
      refine if_f (by decide) ?_
      refine ⟨_, rfl, rfl, _, rfl, ?_⟩
      refine if_t (by decide) ?_
      exact ⟨_, rfl, mk_given (T.ox (12, "InvalidPaper") (by decide)).1 (T.gv "InvalidPaper" (by decide)) fun a d H2 h1 h2 h3 => k a H2 h1 (made_given (n := 9) (by decide) h2 h3)⟩
    · refine ⟨_, rfl, _, _, rfl, rfl, _, rfl, ?_⟩
      refine if_f (by decide) ?_
      refine ⟨_, rfl, _, _, rfl, rfl, _, rfl, ?_⟩
      refine if_f (by decide) ?_
      refine ⟨_, rfl, _, _, rfl, rfl, _, rfl, ?_⟩
      refine if_t (by decide) ?_
      refine ⟨_, rfl, rfl, _, rfl, ?_⟩
      refine if_f (by decide) ?_
      refine ⟨_, rfl, rfl, _, rfl, ?_⟩
      refine if_f (by decide) ?_
      refine ⟨_, rfl, rfl, _, rfl, ?_⟩
      refine if_t (by decide) ?_
      exact ⟨_, rfl, mk_given (T.ox (13, "NotADesk") (by decide)).1 (T.gv "NotADesk" (by decide)) fun a d H2 h1 h2 h3 => k a H2 h1 (made_given (n := 10) (by decide) h2 h3)⟩
    · refine ⟨_, rfl, _, _, rfl, rfl, _, rfl, ?_⟩
      refine if_f (by decide) ?_
      refine ⟨_, rfl, _, _, rfl, rfl, _, rfl, ?_⟩
      refine if_f (by decide) ?_
      refine ⟨_, rfl, _, _, rfl, rfl, _, rfl, ?_⟩
      refine if_t (by decide) ?_
      refine ⟨_, rfl, rfl, _, rfl, ?_⟩
      refine if_f (by decide) ?_
      refine ⟨_, rfl, rfl, _, rfl, ?_⟩
      refine if_f (by decide) ?_
      refine ⟨_, rfl, rfl, _, rfl, ?_⟩
      refine if_f (by decide) ?_
      exact ⟨_, rfl, mk_given (T.ox (14, "NotNow") (by decide)).1 (T.gv "NotNow" (by decide)) fun a d H2 h1 h2 h3 => k a H2 h1 (made_given (n := 11) (by decide) h2 h3)⟩
    · refine ⟨_, rfl, _, _, rfl, rfl, _, rfl, ?_⟩
      refine if_f (by decide) ?_
      refine ⟨_, rfl, _, _, rfl, rfl, _, rfl, ?_⟩
      refine if_f (by decide) ?_
      refine ⟨_, rfl, _, _, rfl, rfl, _, rfl, ?_⟩
      refine if_f (by decide) ?_
      refine ⟨_, rfl, rfl, _, rfl, ?_⟩
      refine if_t (by decide) ?_
      exact ⟨_, rfl, _, rfl, by show 2 ≤ 100; decide, mk_text (T.ox (15, "InvalidText") (by decide)).1 T.rw_ T.wd fun a d H2 h1 h2 h3 => k a H2 h1 (made_text h2 h3)⟩
    · refine ⟨_, rfl, _, _, rfl, rfl, _, rfl, ?_⟩
      refine if_f (by decide) ?_
      refine ⟨_, rfl, _, _, rfl, rfl, _, rfl, ?_⟩
      refine if_f (by decide) ?_
      refine ⟨_, rfl, _, _, rfl, rfl, _, rfl, ?_⟩
      refine if_f (by decide) ?_
      refine ⟨_, rfl, rfl, _, rfl, ?_⟩
      refine if_f (by decide) ?_
      refine ⟨_, rfl, rfl, _, rfl, ?_⟩
      refine if_t (by decide) ?_
      exact fun a ha => k a _ (ext_new ha) (made_none (n := 13) (by decide) upd_same)
    · refine ⟨_, rfl, _, _, rfl, rfl, _, rfl, ?_⟩
      refine if_f (by decide) ?_
      refine ⟨_, rfl, _, _, rfl, rfl, _, rfl, ?_⟩
      refine if_f (by decide) ?_
      refine ⟨_, rfl, _, _, rfl, rfl, _, rfl, ?_⟩
      refine if_f (by decide) ?_
      refine ⟨_, rfl, rfl, _, rfl, ?_⟩
      refine if_f (by decide) ?_
      refine ⟨_, rfl, rfl, _, rfl, ?_⟩
      refine if_f (by decide) ?_
      exact fun a ha => k a _ (ext_new ha) (made_none (n := 14) (by decide) upd_same)
theorem ok_raised (T : Tx K mg) : Okd P w K mg base (L2N.CX P w) 3 "_law_raised" ["way", "thing", "more"] (spRaised K) := by
  refine okd (q := (85, "_law_raised")) (N := ["way", "thing", "more"]) (k := 2) T (by decide) ⟨rfl, rfl, rfl, by decide +kernel, rfl, by decide +kernel, by decide +kernel⟩ (fun _ _ _ _ _ _ us hl => match us, hl with | [_, _, _], _ => rfl) (fun vs H Q E h => ?_) (fun cdv A outer s0 H vs Q E hr h => ?_)
  · obtain ⟨n, t, m, rfl, _⟩ := h
    rfl
  · have tk : L2N.Takes (cxOf (L2N.CX P w) P w K mg base ["way", "thing", "more"] "_law_raised" (defScope (top 85)) (ga K "_law_raised") cdv A outer s0 H E) (fun cls d _ H => E cls d H) := L2N.takes_of rfl rfl rfl rfl
    refine ⟨_, (pss_cons (ps_if (pt_cmpR op_eq (pv 0) pe_int (nomark _)) (pss_one (L2N.ps_raise rfl tk (pmk_C T (by decide) (i := 3) (by decide) (in_0 T) hr rfl (pa_cons (pv 1) pa_nil)))) pss_nil)
      (pss_cons (ps_if (pt_cmpR op_eq (pv 0) pe_int (nomark _)) (pss_one (L2N.ps_raise rfl tk (pmk_C T (by decide) (i := 4) (by decide) (in_1 T) hr rfl (pa_cons (pv 1) pa_nil)))) pss_nil)
      (pss_cons (ps_if (pt_cmpR op_eq (pv 0) pe_int (nomark _)) (pss_one (L2N.ps_raise rfl tk (pmk_C T (by decide) (i := 5) (by decide) (in_2 T) hr rfl (pa_cons (pv 1) pa_nil)))) pss_nil)
      (pss_cons (ps_if (pt_cmpR op_eq (pv 0) pe_int (nomark _)) (pss_one (L2N.ps_raise rfl tk (pmk_C T (by decide) (i := 6) (by decide) (in_3 T) hr rfl (pa_cons (pv 1) pa_nil)))) pss_nil)
      (pss_cons (ps_if (pt_cmpR op_eq (pv 0) pe_int (nomark _)) (pss_one (L2N.ps_raise rfl tk (pmk_C T (by decide) (i := 7) (by decide) (in_4 T) hr rfl (pa_cons (pv 1) pa_nil)))) pss_nil)
      (pss_cons (ps_if (pt_cmpR op_eq (pv 0) pe_int (nomark _)) (pss_one (L2N.ps_raise rfl tk (pmk_C T (by decide) (i := 8) (by decide) (in_5 T) hr rfl (pa_cons (pv 1) pa_nil)))) pss_nil)
      (pss_cons (ps_if (pt_cmpR op_eq (pv 0) pe_int (nomark _)) (pss_one (L2N.ps_raise rfl tk (pmk_C T (by decide) (i := 9) (by decide) (in_6 T) hr rfl (pa_cons (pv 1) pa_nil)))) pss_nil)
      (pss_cons (ps_if (pt_cmpR op_eq (pv 0) pe_int (nomark _)) (pss_one (L2N.ps_raise rfl tk (pmk_C T (by decide) (i := 10) (by decide) (in_7 T) hr rfl (pa_cons (pv 1) pa_nil)))) pss_nil)
      (pss_cons (ps_if (pt_cmpR op_eq (pv 0) pe_int (nomark _)) (pss_one (L2N.ps_raise rfl tk (pmk_C T (by decide) (i := 11) (by decide) (in_8 T) hr rfl (pa_cons (pv 1) pa_nil)))) pss_nil)
      (pss_cons (ps_if (pt_cmpR op_eq (pv 0) pe_int (nomark _)) (pss_one (L2N.ps_raise rfl tk (pmk_C T (by decide) (i := 12) (by decide) (in_9 T) hr rfl (pa_cons (pv 1) pa_nil)))) pss_nil)
      (pss_cons (ps_if (pt_cmpR op_eq (pv 0) pe_int (nomark _)) (pss_one (L2N.ps_raise rfl tk (pmk_C T (by decide) (i := 13) (by decide) (in_10 T) hr rfl (pa_cons (pv 1) pa_nil)))) pss_nil)
      (pss_cons (ps_if (pt_cmpR op_eq (pv 0) pe_int (nomark _)) (pss_one (L2N.ps_raise rfl tk (pmk_C T (by decide) (i := 14) (by decide) (in_11 T) hr rfl (pa_cons (pv 1) pa_nil)))) pss_nil)
      (pss_cons (ps_if (pt_cmpR op_eq (pv 0) pe_int (nomark _)) (pss_one (L2N.ps_raise rfl tk (pmk_C T (by decide) (i := 15) (by decide) (in_12 T) hr rfl (pa_cons (pv 1) (pa_cons (pv 2) pa_nil))))) pss_nil)
      (pss_cons (ps_if (pt_cmpR op_eq (pv 0) pe_int (nomark _)) (pss_one (L2N.ps_raise rfl tk (pmk_C0 T (by decide) (by decide) rfl))) pss_nil)
      (pss_one (L2N.ps_raise rfl tk (pmk_C0 T (by decide) (by decide) rfl))))))))))))))))), ?_⟩
    obtain ⟨n, thing, more, rfl, hn, k⟩ := h
    have hn' : n = 0 ∨ n = 1 ∨ n = 2 ∨ n = 3 ∨ n = 4 ∨ n = 5 ∨ n = 6 ∨ n = 7 ∨ n = 8 ∨ n = 9 ∨ n = 10 ∨ n = 11 ∨ n = 12 ∨ n = 13 ∨ n = 14 := by omega
    rcases hn' with rfl | rfl | rfl | rfl | rfl | rfl | rfl | rfl | rfl | rfl | rfl | rfl | rfl | rfl | rfl
    · refine ⟨_, rfl, rfl, _, rfl, ?_⟩
      refine if_t (by decide) ?_
      exact ⟨_, rfl, rs_given (T.ox (3, "InvalidSystem") (by decide)).1 (T.gv "InvalidSystem" (by decide)) fun d H2 h1 h2 => k (some d) H2 h1 (.inl ⟨by decide, d, rfl, h2⟩)⟩
    · refine ⟨_, rfl, rfl, _, rfl, ?_⟩
      refine if_f (by decide) ?_
      refine ⟨_, rfl, rfl, _, rfl, ?_⟩
      refine if_t (by decide) ?_
      exact ⟨_, rfl, rs_given (T.ox (4, "InvalidName") (by decide)).1 (T.gv "InvalidName" (by decide)) fun d H2 h1 h2 => k (some d) H2 h1 (.inl ⟨by decide, d, rfl, h2⟩)⟩
    · refine ⟨_, rfl, rfl, _, rfl, ?_⟩
      refine if_f (by decide) ?_
      refine ⟨_, rfl, rfl, _, rfl, ?_⟩
      refine if_f (by decide) ?_
      refine ⟨_, rfl, rfl, _, rfl, ?_⟩
      refine if_t (by decide) ?_
      exact ⟨_, rfl, rs_given (T.ox (5, "InvalidNumber") (by decide)).1 (T.gv "InvalidNumber" (by decide)) fun d H2 h1 h2 => k (some d) H2 h1 (.inl ⟨by decide, d, rfl, h2⟩)⟩
    · refine ⟨_, rfl, rfl, _, rfl, ?_⟩
      refine if_f (by decide) ?_
      refine ⟨_, rfl, rfl, _, rfl, ?_⟩
      refine if_f (by decide) ?_
      refine ⟨_, rfl, rfl, _, rfl, ?_⟩
      refine if_f (by decide) ?_
      refine ⟨_, rfl, rfl, _, rfl, ?_⟩
      refine if_t (by decide) ?_
      exact ⟨_, rfl, rs_given (T.ox (6, "InvalidPoint") (by decide)).1 (T.gv "InvalidPoint" (by decide)) fun d H2 h1 h2 => k (some d) H2 h1 (.inl ⟨by decide, d, rfl, h2⟩)⟩
    · refine ⟨_, rfl, rfl, _, rfl, ?_⟩
      refine if_f (by decide) ?_
      refine ⟨_, rfl, rfl, _, rfl, ?_⟩
      refine if_f (by decide) ?_
      refine ⟨_, rfl, rfl, _, rfl, ?_⟩
      refine if_f (by decide) ?_
      refine ⟨_, rfl, rfl, _, rfl, ?_⟩
      refine if_f (by decide) ?_
      refine ⟨_, rfl, rfl, _, rfl, ?_⟩
      refine if_t (by decide) ?_
      exact ⟨_, rfl, rs_given (T.ox (7, "InvalidSpace") (by decide)).1 (T.gv "InvalidSpace" (by decide)) fun d H2 h1 h2 => k (some d) H2 h1 (.inl ⟨by decide, d, rfl, h2⟩)⟩
    · refine ⟨_, rfl, rfl, _, rfl, ?_⟩
      refine if_f (by decide) ?_
      refine ⟨_, rfl, rfl, _, rfl, ?_⟩
      refine if_f (by decide) ?_
      refine ⟨_, rfl, rfl, _, rfl, ?_⟩
      refine if_f (by decide) ?_
      refine ⟨_, rfl, rfl, _, rfl, ?_⟩
      refine if_f (by decide) ?_
      refine ⟨_, rfl, rfl, _, rfl, ?_⟩
      refine if_f (by decide) ?_
      refine ⟨_, rfl, rfl, _, rfl, ?_⟩
      refine if_t (by decide) ?_
      exact ⟨_, rfl, rs_given (T.ox (8, "InvalidSigns") (by decide)).1 (T.gv "InvalidSigns" (by decide)) fun d H2 h1 h2 => k (some d) H2 h1 (.inl ⟨by decide, d, rfl, h2⟩)⟩
    · refine ⟨_, rfl, rfl, _, rfl, ?_⟩
      refine if_f (by decide) ?_
      refine ⟨_, rfl, rfl, _, rfl, ?_⟩
      refine if_f (by decide) ?_
      refine ⟨_, rfl, rfl, _, rfl, ?_⟩
      refine if_f (by decide) ?_
      refine ⟨_, rfl, rfl, _, rfl, ?_⟩
      refine if_f (by decide) ?_
      refine ⟨_, rfl, rfl, _, rfl, ?_⟩
      refine if_f (by decide) ?_
      refine ⟨_, rfl, rfl, _, rfl, ?_⟩
      refine if_f (by decide) ?_
      refine ⟨_, rfl, rfl, _, rfl, ?_⟩
      refine if_t (by decide) ?_
      exact ⟨_, rfl, rs_given (T.ox (9, "InvalidRow") (by decide)).1 (T.gv "InvalidRow" (by decide)) fun d H2 h1 h2 => k (some d) H2 h1 (.inl ⟨by decide, d, rfl, h2⟩)⟩
    · refine ⟨_, rfl, rfl, _, rfl, ?_⟩
      refine if_f (by decide) ?_
      refine ⟨_, rfl, rfl, _, rfl, ?_⟩
      refine if_f (by decide) ?_
      refine ⟨_, rfl, rfl, _, rfl, ?_⟩
      refine if_f (by decide) ?_
      refine ⟨_, rfl, rfl, _, rfl, ?_⟩
      refine if_f (by decide) ?_
      refine ⟨_, rfl, rfl, _, rfl, ?_⟩
      refine if_f (by decide) ?_
      refine ⟨_, rfl, rfl, _, rfl, ?_⟩
      refine if_f (by decide) ?_
      refine ⟨_, rfl, rfl, _, rfl, ?_⟩
      refine if_f (by decide) ?_
      refine ⟨_, rfl, rfl, _, rfl, ?_⟩
      refine if_t (by decide) ?_
      exact ⟨_, rfl, rs_given (T.ox (10, "InvalidTable") (by decide)).1 (T.gv "InvalidTable" (by decide)) fun d H2 h1 h2 => k (some d) H2 h1 (.inl ⟨by decide, d, rfl, h2⟩)⟩
    · refine ⟨_, rfl, rfl, _, rfl, ?_⟩
      refine if_f (by decide) ?_
      refine ⟨_, rfl, rfl, _, rfl, ?_⟩
      refine if_f (by decide) ?_
      refine ⟨_, rfl, rfl, _, rfl, ?_⟩
      refine if_f (by decide) ?_
      refine ⟨_, rfl, rfl, _, rfl, ?_⟩
      refine if_f (by decide) ?_
      refine ⟨_, rfl, rfl, _, rfl, ?_⟩
      refine if_f (by decide) ?_
      refine ⟨_, rfl, rfl, _, rfl, ?_⟩
      refine if_f (by decide) ?_
      refine ⟨_, rfl, rfl, _, rfl, ?_⟩
      refine if_f (by decide) ?_
      refine ⟨_, rfl, rfl, _, rfl, ?_⟩
      refine if_f (by decide) ?_
      refine ⟨_, rfl, rfl, _, rfl, ?_⟩
      refine if_t (by decide) ?_
      exact ⟨_, rfl, rs_given (T.ox (11, "InvalidLine") (by decide)).1 (T.gv "InvalidLine" (by decide)) fun d H2 h1 h2 => k (some d) H2 h1 (.inl ⟨by decide, d, rfl, h2⟩)⟩
    · refine ⟨_, rfl, rfl, _, rfl, ?_⟩
      refine if_f (by decide) ?_
      refine ⟨_, rfl, rfl, _, rfl, ?_⟩
      refine if_f (by decide) ?_
      refine ⟨_, rfl, rfl, _, rfl, ?_⟩
      refine if_f (by decide) ?_
      refine ⟨_, rfl, rfl, _, rfl, ?_⟩
      refine if_f (by decide) ?_
      refine ⟨_, rfl, rfl, _, rfl, ?_⟩
      refine if_f (by decide) ?_
      refine ⟨_, rfl, rfl, _, rfl, ?_⟩
      refine if_f (by decide) ?_
      refine ⟨_, rfl, rfl, _, rfl, ?_⟩
      refine if_f (by decide) ?_
      refine ⟨_, rfl, rfl, _, rfl, ?_⟩
      refine if_f (by decide) ?_
      refine ⟨_, rfl, rfl, _, rfl, ?_⟩
      refine if_f (by decide) ?_
      refine ⟨_, rfl, rfl, _, rfl, ?_⟩
      refine if_t (by decide) ?_
      exact ⟨_, rfl, rs_given (T.ox (12, "InvalidPaper") (by decide)).1 (T.gv "InvalidPaper" (by decide)) fun d H2 h1 h2 => k (some d) H2 h1 (.inl ⟨by decide, d, rfl, h2⟩)⟩
    · refine ⟨_, rfl, rfl, _, rfl, ?_⟩
      refine if_f (by decide) ?_
      refine ⟨_, rfl, rfl, _, rfl, ?_⟩
      refine if_f (by decide) ?_
      refine ⟨_, rfl, rfl, _, rfl, ?_⟩
      refine if_f (by decide) ?_
      refine ⟨_, rfl, rfl, _, rfl, ?_⟩
      refine if_f (by decide) ?_
      refine ⟨_, rfl, rfl, _, rfl, ?_⟩
      refine if_f (by decide) ?_
      refine ⟨_, rfl, rfl, _, rfl, ?_⟩
      refine if_f (by decide) ?_
      refine ⟨_, rfl, rfl, _, rfl, ?_⟩
      refine if_f (by decide) ?_
      refine ⟨_, rfl, rfl, _, rfl, ?_⟩
      refine if_f (by decide) ?_
      refine ⟨_, rfl, rfl, _, rfl, ?_⟩
      refine if_f (by decide) ?_
      refine ⟨_, rfl, rfl, _, rfl, ?_⟩
      refine if_f (by decide) ?_
      refine ⟨_, rfl, rfl, _, rfl, ?_⟩
      refine if_t (by decide) ?_
      exact ⟨_, rfl, rs_given (T.ox (13, "NotADesk") (by decide)).1 (T.gv "NotADesk" (by decide)) fun d H2 h1 h2 => k (some d) H2 h1 (.inl ⟨by decide, d, rfl, h2⟩)⟩
    · refine ⟨_, rfl, rfl, _, rfl, ?_⟩
      refine if_f (by decide) ?_
      refine ⟨_, rfl, rfl, _, rfl, ?_⟩
      refine if_f (by decide) ?_
      refine ⟨_, rfl, rfl, _, rfl, ?_⟩
      refine if_f (by decide) ?_
      refine ⟨_, rfl, rfl, _, rfl, ?_⟩
      refine if_f (by decide) ?_
      refine ⟨_, rfl, rfl, _, rfl, ?_⟩
      refine if_f (by decide) ?_
      refine ⟨_, rfl, rfl, _, rfl, ?_⟩
      refine if_f (by decide) ?_
      refine ⟨_, rfl, rfl, _, rfl, ?_⟩
      refine if_f (by decide) ?_
      refine ⟨_, rfl, rfl, _, rfl, ?_⟩
      refine if_f (by decide) ?_
      refine ⟨_, rfl, rfl, _, rfl, ?_⟩
      refine if_f (by decide) ?_
      refine ⟨_, rfl, rfl, _, rfl, ?_⟩
      refine if_f (by decide) ?_
      refine ⟨_, rfl, rfl, _, rfl, ?_⟩
      refine if_f (by decide) ?_
      refine ⟨_, rfl, rfl, _, rfl, ?_⟩
      refine if_t (by decide) ?_
      exact ⟨_, rfl, rs_given (T.ox (14, "NotNow") (by decide)).1 (T.gv "NotNow" (by decide)) fun d H2 h1 h2 => k (some d) H2 h1 (.inl ⟨by decide, d, rfl, h2⟩)⟩
    · refine ⟨_, rfl, rfl, _, rfl, ?_⟩
      refine if_f (by decide) ?_
      refine ⟨_, rfl, rfl, _, rfl, ?_⟩
      refine if_f (by decide) ?_
      refine ⟨_, rfl, rfl, _, rfl, ?_⟩
      refine if_f (by decide) ?_
      refine ⟨_, rfl, rfl, _, rfl, ?_⟩
      refine if_f (by decide) ?_
      refine ⟨_, rfl, rfl, _, rfl, ?_⟩
      refine if_f (by decide) ?_
      refine ⟨_, rfl, rfl, _, rfl, ?_⟩
      refine if_f (by decide) ?_
      refine ⟨_, rfl, rfl, _, rfl, ?_⟩
      refine if_f (by decide) ?_
      refine ⟨_, rfl, rfl, _, rfl, ?_⟩
      refine if_f (by decide) ?_
      refine ⟨_, rfl, rfl, _, rfl, ?_⟩
      refine if_f (by decide) ?_
      refine ⟨_, rfl, rfl, _, rfl, ?_⟩
      refine if_f (by decide) ?_
      refine ⟨_, rfl, rfl, _, rfl, ?_⟩
      refine if_f (by decide) ?_
      refine ⟨_, rfl, rfl, _, rfl, ?_⟩
      refine if_f (by decide) ?_
      refine ⟨_, rfl, rfl, _, rfl, ?_⟩
      refine if_t (by decide) ?_
      exact ⟨_, rfl, _, rfl, rs_text (T.ox (15, "InvalidText") (by decide)).1 T.rw_ T.wd fun d H2 h1 h2 => k (some d) H2 h1 (.inr (.inl ⟨rfl, d, rfl, h2⟩))⟩
    · refine ⟨_, rfl, rfl, _, rfl, ?_⟩
      refine if_f (by decide) ?_
      refine ⟨_, rfl, rfl, _, rfl, ?_⟩
      refine if_f (by decide) ?_
      refine ⟨_, rfl, rfl, _, rfl, ?_⟩
      refine if_f (by decide) ?_
      refine ⟨_, rfl, rfl, _, rfl, ?_⟩
      refine if_f (by decide) ?_
      refine ⟨_, rfl, rfl, _, rfl, ?_⟩
      refine if_f (by decide) ?_
      refine ⟨_, rfl, rfl, _, rfl, ?_⟩
      refine if_f (by decide) ?_
      refine ⟨_, rfl, rfl, _, rfl, ?_⟩
      refine if_f (by decide) ?_
      refine ⟨_, rfl, rfl, _, rfl, ?_⟩
      refine if_f (by decide) ?_
      refine ⟨_, rfl, rfl, _, rfl, ?_⟩
      refine if_f (by decide) ?_
      refine ⟨_, rfl, rfl, _, rfl, ?_⟩
      refine if_f (by decide) ?_
      refine ⟨_, rfl, rfl, _, rfl, ?_⟩
      refine if_f (by decide) ?_
      refine ⟨_, rfl, rfl, _, rfl, ?_⟩
      refine if_f (by decide) ?_
      refine ⟨_, rfl, rfl, _, rfl, ?_⟩
      refine if_f (by decide) ?_
      refine ⟨_, rfl, rfl, _, rfl, ?_⟩
      refine if_t (by decide) ?_
      exact k none _ (fun _ _ e => e) (.inr (.inr ⟨by decide, rfl⟩))
    · refine ⟨_, rfl, rfl, _, rfl, ?_⟩
      refine if_f (by decide) ?_
      refine ⟨_, rfl, rfl, _, rfl, ?_⟩
      refine if_f (by decide) ?_
      refine ⟨_, rfl, rfl, _, rfl, ?_⟩
      refine if_f (by decide) ?_
      refine ⟨_, rfl, rfl, _, rfl, ?_⟩
      refine if_f (by decide) ?_
      refine ⟨_, rfl, rfl, _, rfl, ?_⟩
      refine if_f (by decide) ?_
      refine ⟨_, rfl, rfl, _, rfl, ?_⟩
      refine if_f (by decide) ?_
      refine ⟨_, rfl, rfl, _, rfl, ?_⟩
      refine if_f (by decide) ?_
      refine ⟨_, rfl, rfl, _, rfl, ?_⟩
      refine if_f (by decide) ?_
      refine ⟨_, rfl, rfl, _, rfl, ?_⟩
      refine if_f (by decide) ?_
      refine ⟨_, rfl, rfl, _, rfl, ?_⟩
      refine if_f (by decide) ?_
      refine ⟨_, rfl, rfl, _, rfl, ?_⟩
      refine if_f (by decide) ?_
      refine ⟨_, rfl, rfl, _, rfl, ?_⟩
      refine if_f (by decide) ?_
      refine ⟨_, rfl, rfl, _, rfl, ?_⟩
      refine if_f (by decide) ?_
      refine ⟨_, rfl, rfl, _, rfl, ?_⟩
      refine if_f (by decide) ?_
      exact k none _ (fun _ _ e => e) (.inr (.inr ⟨by decide, rfl⟩))
end
end K1

/-! Kf: what is the same; what the drawn things show. -/
namespace K1
open PySem PySem.Spec PyProof.Rows L2 L2H Er
theorem ErrIn.ext {l : List (Addr × Obj)} {H H' : Hp} {a C : Addr} {d : Option Addr} (k : Ext H H') (x : ErrIn l H a C d) : ErrIn l H' a C d := by
  rcases x with x | ⟨φ, h1, h2⟩
  · exact .inl x
  · exact .inr ⟨φ, k _ _ h1, h2⟩
theorem FsAt.ext {H H' : Hp} {d : Addr} {fs : List (Str × V)} (k : Ext H H') (x : FsAt H d fs) : FsAt H' d fs := x.imp (k _ _) (k _ _)
theorem DcOk.ext {H H' : Hp} {d : Option Addr} (k : Ext H H') (x : DcOk H d) : DcOk H' d := fun dd e => let ⟨fs, h⟩ := x dd e; ⟨fs, FsAt.ext k h⟩
theorem Made.ext {K : PySem.W.Frag} {l : List (Addr × Obj)} {H H' : Hp} {a : Addr} {n : Nat} {t m : V} (k : Ext H H') (x : Made K l H a n t m) : Made K l H' a n t m := by
  obtain ⟨d, h1, h2⟩ := x
  refine ⟨d, ErrIn.ext k h1, ?_⟩
  rcases h2 with ⟨h, dd, e, f⟩ | ⟨h, dd, e, f⟩ | h
  · exact .inl ⟨h, dd, e, FsAt.ext k f⟩
  · exact .inr (.inl ⟨h, dd, e, FsAt.ext k f⟩)
  · exact .inr (.inr h)
theorem Made.dc {K : PySem.W.Frag} {l : List (Addr × Obj)} {H : Hp} {a : Addr} {n : Nat} {t m : V} (x : Made K l H a n t m) : ∃ d, ErrIn l H a (ga K (wn n)) d ∧ DcOk H d := by
  obtain ⟨d, h1, h2⟩ := x
  refine ⟨d, h1, fun dd e => ?_⟩
  rcases h2 with ⟨h, dd', e', f⟩ | ⟨h, dd', e', f⟩ | ⟨_, e'⟩
  · rw [e'] at e; cases e; exact ⟨_, f⟩
  · rw [e'] at e; cases e; exact ⟨_, f⟩
  · rw [e'] at e; cases e
theorem Ext.trans {H H1 H2 : Hp} (a : Ext H H1) (b : Ext H1 H2) : Ext H H2 := fun c o e => b c o (a c o e)
theorem paired_mono {α β : Type} {F G : α → β → Prop} (k : ∀ {x y}, F x y → G x y) : ∀ {xs : List α} {ys : List β}, Paired F xs ys → Paired G xs ys
  | _, _, .nil => .nil
  | _, _, .cons p q => .cons (k p) (paired_mono k q)
theorem eqX_mono {K : PySem.W.Frag} {H H' : Hp} (k : Ext H H') : ∀ (n : Nat) {x y : V}, EqX K H n x y → EqX K H' n x y
  | 0, _, _, h => h
  | n + 1, x, y, h => by
    rcases h with h | h | ⟨a, b, xs, ys, e1, e2, h1, h2, h3⟩
    · exact .inl h
    · exact .inr (.inl h)
    · exact .inr (.inr ⟨a, b, xs, ys, e1, e2, k _ _ h1, k _ _ h2, paired_mono (eqX_mono k n) h3⟩)
/-- the same thing, or one made of the same; a drawn one -/
def Sim (K : PySem.W.Frag) (H : Hp) (x y : V) : Prop := EqX K H 3 x y ∧ ∃ d ∈ things, datV H 6 x = some d ∧ datV H 6 y = some d
theorem Sim.ext {K : PySem.W.Frag} {H H' : Hp} {x y : V} (k : Ext H H') (h : Sim K H x y) : Sim K H' x y :=
  ⟨eqX_mono k 3 h.1, let ⟨d, h1, h2, h3⟩ := h.2; ⟨d, h1, datV_mono 6 k h2, datV_mono 6 k h3⟩⟩
theorem sim_self {K : PySem.W.Frag} {H : Hp} {x : V} {d : PyData} (h1 : d ∈ things) (h2 : datV H 6 x = some d) : Sim K H x x := by
  refine ⟨?_, d, h1, h2, h2⟩
  cases x with
  | ref a => exact .inr (.inl ⟨a, rfl, rfl⟩)
  | non => exact .inl ⟨rfl, rfl⟩
  | bl b => exact .inl ⟨rfl, rfl⟩
  | int b => exact .inl ⟨rfl, rfl⟩
  | str b => exact .inl ⟨rfl, rfl⟩
  | byt b => cases h2
  | flt b => cases h2
  | ty b => cases h2
def okT (d : PyData) : Bool := d.showable && (Nat.ble d.shown.length 16777216 && Nat.ble d.depth 20)
theorem okT_one : (things.all fun a => okT (.tuple [a])) = true := by decide +kernel
theorem okT_two : (things.all fun a => things.all fun b => okT (.tuple [a, b])) = true := by decide +kernel
theorem okT_of {d : PyData} (h : okT d = true) : d.showable = true ∧ d.shown.length ≤ sizeLine ∧ d.depth ≤ 20 := by
  unfold okT at h
  simp only [Bool.and_eq_true] at h
  exact ⟨h.1, by rw [sizeLine_eq]; exact Nat.le_of_ble_eq_true h.2.1, Nat.le_of_ble_eq_true h.2.2⟩
theorem dat_one {H : Hp} {p : Addr} {x : V} {a : PyData} (h : H p = some (.tup [x])) (h1 : datV H 6 x = some a) : datV H 7 (.ref p) = some (.tuple [a]) := by
  unfold datV
  rw [h]
  simp only [datL]
  rw [h1]
  rfl
theorem dat_two {H : Hp} {p : Addr} {x y : V} {a b : PyData} (h : H p = some (.tup [x, y])) (h1 : datV H 6 x = some a) (h2 : datV H 6 y = some b) : datV H 7 (.ref p) = some (.tuple [a, b]) := by
  unfold datV
  rw [h]
  simp only [datL]
  rw [h1, h2]
  rfl
end K1

/-! Kg (printed by gkg.py): of which classes an error is. -/
namespace K1
open PySem PySem.Spec PyProof.Rows L2 L2H Er
section
variable {P : Program} {w : World} {K : PySem.W.Frag} {mg : Str → Option Value} {base : Heap}
def kindsOf (x : Str) : List Bool := ways.map fun y => decide (x = y)
def spKinds (K : PySem.W.Frag) : SpW := fun l vs H Q => ∃ (a : Addr) (x : Str) (d : Option Addr), vs = [.ref a] ∧ x ∈ clss ∧ ErrIn l H a (ga K x) d ∧ DcOk H d ∧
  ∀ D H', Ext H H' → H' D = some (.lst ((places (kindsOf x) 0).map fun k => V.int (k : Nat))) → Q (.ref D) H'
theorem kinds_wn : ∀ n, n < 15 → places (kindsOf (wn n)) 0 = [n] := by decide +kernel
theorem kinds_pw : places (kindsOf "PowerError") 0 = [] := by decide +kernel
theorem ok_kinds (T : Tx K mg) : OkW P w K mg base 2 "_law_kinds" ["error"] (spKinds K) := by
  refine okw (q := (86, "_law_kinds")) (N := ["error", "found"]) (k := 1) T (by decide) ⟨rfl, rfl, rfl, by decide +kernel, rfl, by decide +kernel, by decide +kernel⟩ (fun _ _ _ _ _ _ us hl => match us, hl with | [_], _ => rfl) (fun l vs H Q h => ?_) (fun cdv A outer s0 H vs Q l hr kn h => ?_)
  · obtain ⟨a, x, d, rfl, _⟩ := h
    rfl
  · have nd : (["error", "found"] : List Str).Nodup := by decide +kernel
    have hIs : mg "isinstance" = none := T.f "isinstance" (by decide)
    have hEn : mg "enumerate" = none := T.f "enumerate" (by decide)
    have hp : ∀ q ∈ l, q ∈ (cxW P w K mg base ["error", "found"] "_law_kinds" (defScope (top 86)) (ga K "_law_kinds") cdv A outer s0 H (calmOf l) l).pn := fun q hq => hq
    refine ⟨_, pss_cons (ps_set (i := 1) nd rfl (.inl rfl) (pe_lst (pa_cons (pe_callB (call_isX hp) rfl hIs (by kernel_rfl) (pa_cons (pv 0) (pa_cons (pe_glob (v := .ref (ga K "InvalidSystem")) rfl (T.g "InvalidSystem" (by decide)) rfl) pa_nil))) (pa_cons (pe_callB (call_isX hp) rfl hIs (by kernel_rfl) (pa_cons (pv 0) (pa_cons (pe_glob (v := .ref (ga K "InvalidName")) rfl (T.g "InvalidName" (by decide)) rfl) pa_nil))) (pa_cons (pe_callB (call_isX hp) rfl hIs (by kernel_rfl) (pa_cons (pv 0) (pa_cons (pe_glob (v := .ref (ga K "InvalidNumber")) rfl (T.g "InvalidNumber" (by decide)) rfl) pa_nil))) (pa_cons (pe_callB (call_isX hp) rfl hIs (by kernel_rfl) (pa_cons (pv 0) (pa_cons (pe_glob (v := .ref (ga K "InvalidPoint")) rfl (T.g "InvalidPoint" (by decide)) rfl) pa_nil))) pa_nil))))))
      (pss_cons (ps_set (i := 1) nd rfl (.inl rfl) (pe_op op_cat (pv 1) (pe_lst (pa_cons (pe_callB (call_isX hp) rfl hIs (by kernel_rfl) (pa_cons (pv 0) (pa_cons (pe_glob (v := .ref (ga K "InvalidSpace")) rfl (T.g "InvalidSpace" (by decide)) rfl) pa_nil))) (pa_cons (pe_callB (call_isX hp) rfl hIs (by kernel_rfl) (pa_cons (pv 0) (pa_cons (pe_glob (v := .ref (ga K "InvalidSigns")) rfl (T.g "InvalidSigns" (by decide)) rfl) pa_nil))) (pa_cons (pe_callB (call_isX hp) rfl hIs (by kernel_rfl) (pa_cons (pv 0) (pa_cons (pe_glob (v := .ref (ga K "InvalidRow")) rfl (T.g "InvalidRow" (by decide)) rfl) pa_nil))) (pa_cons (pe_callB (call_isX hp) rfl hIs (by kernel_rfl) (pa_cons (pv 0) (pa_cons (pe_glob (v := .ref (ga K "InvalidTable")) rfl (T.g "InvalidTable" (by decide)) rfl) pa_nil))) pa_nil)))))))
      (pss_cons (ps_set (i := 1) nd rfl (.inl rfl) (pe_op op_cat (pv 1) (pe_lst (pa_cons (pe_callB (call_isX hp) rfl hIs (by kernel_rfl) (pa_cons (pv 0) (pa_cons (pe_glob (v := .ref (ga K "InvalidLine")) rfl (T.g "InvalidLine" (by decide)) rfl) pa_nil))) (pa_cons (pe_callB (call_isX hp) rfl hIs (by kernel_rfl) (pa_cons (pv 0) (pa_cons (pe_glob (v := .ref (ga K "InvalidPaper")) rfl (T.g "InvalidPaper" (by decide)) rfl) pa_nil))) (pa_cons (pe_callB (call_isX hp) rfl hIs (by kernel_rfl) (pa_cons (pv 0) (pa_cons (pe_glob (v := .ref (ga K "NotADesk")) rfl (T.g "NotADesk" (by decide)) rfl) pa_nil))) (pa_cons (pe_callB (call_isX hp) rfl hIs (by kernel_rfl) (pa_cons (pv 0) (pa_cons (pe_glob (v := .ref (ga K "NotNow")) rfl (T.g "NotNow" (by decide)) rfl) pa_nil))) pa_nil)))))))
      (pss_cons (ps_set (i := 1) nd rfl (.inl rfl) (pe_op op_cat (pv 1) (pe_lst (pa_cons (pe_callB (call_isX hp) rfl hIs (by kernel_rfl) (pa_cons (pv 0) (pa_cons (pe_glob (v := .ref (ga K "InvalidText")) rfl (T.g "InvalidText" (by decide)) rfl) pa_nil))) (pa_cons (pe_callB (call_isX hp) rfl hIs (by kernel_rfl) (pa_cons (pv 0) (pa_cons (pe_glob (v := .ref (ga K "TooMany")) rfl (T.g "TooMany" (by decide)) rfl) pa_nil))) (pa_cons (pe_callB (call_isX hp) rfl hIs (by kernel_rfl) (pa_cons (pv 0) (pa_cons (pe_glob (v := .ref (ga K "NothingToUndo")) rfl (T.g "NothingToUndo" (by decide)) rfl) pa_nil))) pa_nil))))))
      (pss_one (ps_ret (pe_trues kn.wa rfl hEn (pa_cons (pv 1) pa_nil))))))), ?_⟩
    obtain ⟨a, x, d, rfl, hx, er, dc, k⟩ := h
    refine ⟨_, rfl, a, _, d, _, _, _, rfl, T.ex x hx, er, dc, fun u r => r, T.kw x hx "InvalidSystem" (by decide), ?_⟩
    refine ⟨_, rfl, a, _, d, _, _, _, rfl, T.ex x hx, er, dc, fun u r => r, T.kw x hx "InvalidName" (by decide), ?_⟩
    refine ⟨_, rfl, a, _, d, _, _, _, rfl, T.ex x hx, er, dc, fun u r => r, T.kw x hx "InvalidNumber" (by decide), ?_⟩
    refine ⟨_, rfl, a, _, d, _, _, _, rfl, T.ex x hx, er, dc, fun u r => r, T.kw x hx "InvalidPoint" (by decide), ?_⟩
    refine ⟨by show 4 ≤ sizeLine; decide, fun p1 n1 => ?_⟩
    have k1 : Ext H _ := ext_new (o := .lst [.bl (decide (x = "InvalidSystem")), .bl (decide (x = "InvalidName")), .bl (decide (x = "InvalidNumber")), .bl (decide (x = "InvalidPoint"))]) n1
    have l1 : upd H p1 (.lst [.bl (decide (x = "InvalidSystem")), .bl (decide (x = "InvalidName")), .bl (decide (x = "InvalidNumber")), .bl (decide (x = "InvalidPoint"))]) p1 = _ := upd_same
    generalize upd H p1 (.lst [.bl (decide (x = "InvalidSystem")), .bl (decide (x = "InvalidName")), .bl (decide (x = "InvalidNumber")), .bl (decide (x = "InvalidPoint"))]) = H1 at k1 l1 ⊢
    refine ⟨_, rfl, ?_⟩
    refine ⟨_, rfl, a, _, d, _, _, _, rfl, T.ex x hx, (ErrIn.ext k1 er), (DcOk.ext k1 dc), fun u r => r, T.kw x hx "InvalidSpace" (by decide), ?_⟩
    refine ⟨_, rfl, a, _, d, _, _, _, rfl, T.ex x hx, (ErrIn.ext k1 er), (DcOk.ext k1 dc), fun u r => r, T.kw x hx "InvalidSigns" (by decide), ?_⟩
    refine ⟨_, rfl, a, _, d, _, _, _, rfl, T.ex x hx, (ErrIn.ext k1 er), (DcOk.ext k1 dc), fun u r => r, T.kw x hx "InvalidRow" (by decide), ?_⟩
    refine ⟨_, rfl, a, _, d, _, _, _, rfl, T.ex x hx, (ErrIn.ext k1 er), (DcOk.ext k1 dc), fun u r => r, T.kw x hx "InvalidTable" (by decide), ?_⟩
    refine ⟨by show 4 ≤ sizeLine; decide, fun q2 m2 => ?_⟩
    have j2 := ext_new (o := .lst [.bl (decide (x = "InvalidSpace")), .bl (decide (x = "InvalidSigns")), .bl (decide (x = "InvalidRow")), .bl (decide (x = "InvalidTable"))]) m2
    have c2 : upd H1 q2 (.lst [.bl (decide (x = "InvalidSpace")), .bl (decide (x = "InvalidSigns")), .bl (decide (x = "InvalidRow")), .bl (decide (x = "InvalidTable"))]) q2 = _ := upd_same
    have l1' := j2 _ _ l1
    generalize upd H1 q2 (.lst [.bl (decide (x = "InvalidSpace")), .bl (decide (x = "InvalidSigns")), .bl (decide (x = "InvalidRow")), .bl (decide (x = "InvalidTable"))]) = G2 at j2 c2 l1' ⊢
    refine ⟨p1, q2, _, _, rfl, rfl, l1', c2, by show 4 + 4 ≤ sizeLine; decide, fun p2 n2 => ?_⟩
    have h2 := ext_new (o := .lst ([V.bl (decide (x = "InvalidSystem")), V.bl (decide (x = "InvalidName")), V.bl (decide (x = "InvalidNumber")), V.bl (decide (x = "InvalidPoint"))] ++ [V.bl (decide (x = "InvalidSpace")), V.bl (decide (x = "InvalidSigns")), V.bl (decide (x = "InvalidRow")), V.bl (decide (x = "InvalidTable"))])) n2
    have l2 : upd G2 p2 (.lst ([V.bl (decide (x = "InvalidSystem")), V.bl (decide (x = "InvalidName")), V.bl (decide (x = "InvalidNumber")), V.bl (decide (x = "InvalidPoint"))] ++ [V.bl (decide (x = "InvalidSpace")), V.bl (decide (x = "InvalidSigns")), V.bl (decide (x = "InvalidRow")), V.bl (decide (x = "InvalidTable"))])) p2 = _ := upd_same
    have k2 := Ext.trans k1 (Ext.trans j2 h2)
    generalize upd G2 p2 (.lst ([V.bl (decide (x = "InvalidSystem")), V.bl (decide (x = "InvalidName")), V.bl (decide (x = "InvalidNumber")), V.bl (decide (x = "InvalidPoint"))] ++ [V.bl (decide (x = "InvalidSpace")), V.bl (decide (x = "InvalidSigns")), V.bl (decide (x = "InvalidRow")), V.bl (decide (x = "InvalidTable"))])) = H2 at h2 l2 k2 ⊢
    refine ⟨_, rfl, ?_⟩
    refine ⟨_, rfl, a, _, d, _, _, _, rfl, T.ex x hx, (ErrIn.ext k2 er), (DcOk.ext k2 dc), fun u r => r, T.kw x hx "InvalidLine" (by decide), ?_⟩
    refine ⟨_, rfl, a, _, d, _, _, _, rfl, T.ex x hx, (ErrIn.ext k2 er), (DcOk.ext k2 dc), fun u r => r, T.kw x hx "InvalidPaper" (by decide), ?_⟩
    refine ⟨_, rfl, a, _, d, _, _, _, rfl, T.ex x hx, (ErrIn.ext k2 er), (DcOk.ext k2 dc), fun u r => r, T.kw x hx "NotADesk" (by decide), ?_⟩
    refine ⟨_, rfl, a, _, d, _, _, _, rfl, T.ex x hx, (ErrIn.ext k2 er), (DcOk.ext k2 dc), fun u r => r, T.kw x hx "NotNow" (by decide), ?_⟩
    refine ⟨by show 4 ≤ sizeLine; decide, fun q3 m3 => ?_⟩
    have j3 := ext_new (o := .lst [.bl (decide (x = "InvalidLine")), .bl (decide (x = "InvalidPaper")), .bl (decide (x = "NotADesk")), .bl (decide (x = "NotNow"))]) m3
    have c3 : upd H2 q3 (.lst [.bl (decide (x = "InvalidLine")), .bl (decide (x = "InvalidPaper")), .bl (decide (x = "NotADesk")), .bl (decide (x = "NotNow"))]) q3 = _ := upd_same
    have l2' := j3 _ _ l2
    generalize upd H2 q3 (.lst [.bl (decide (x = "InvalidLine")), .bl (decide (x = "InvalidPaper")), .bl (decide (x = "NotADesk")), .bl (decide (x = "NotNow"))]) = G3 at j3 c3 l2' ⊢
    refine ⟨p2, q3, _, _, rfl, rfl, l2', c3, by show 8 + 4 ≤ sizeLine; decide, fun p3 n3 => ?_⟩
    have h3 := ext_new (o := .lst (([V.bl (decide (x = "InvalidSystem")), V.bl (decide (x = "InvalidName")), V.bl (decide (x = "InvalidNumber")), V.bl (decide (x = "InvalidPoint"))] ++ [V.bl (decide (x = "InvalidSpace")), V.bl (decide (x = "InvalidSigns")), V.bl (decide (x = "InvalidRow")), V.bl (decide (x = "InvalidTable"))]) ++ [V.bl (decide (x = "InvalidLine")), V.bl (decide (x = "InvalidPaper")), V.bl (decide (x = "NotADesk")), V.bl (decide (x = "NotNow"))])) n3
    have l3 : upd G3 p3 (.lst (([V.bl (decide (x = "InvalidSystem")), V.bl (decide (x = "InvalidName")), V.bl (decide (x = "InvalidNumber")), V.bl (decide (x = "InvalidPoint"))] ++ [V.bl (decide (x = "InvalidSpace")), V.bl (decide (x = "InvalidSigns")), V.bl (decide (x = "InvalidRow")), V.bl (decide (x = "InvalidTable"))]) ++ [V.bl (decide (x = "InvalidLine")), V.bl (decide (x = "InvalidPaper")), V.bl (decide (x = "NotADesk")), V.bl (decide (x = "NotNow"))])) p3 = _ := upd_same
    have k3 := Ext.trans k2 (Ext.trans j3 h3)
    generalize upd G3 p3 (.lst (([V.bl (decide (x = "InvalidSystem")), V.bl (decide (x = "InvalidName")), V.bl (decide (x = "InvalidNumber")), V.bl (decide (x = "InvalidPoint"))] ++ [V.bl (decide (x = "InvalidSpace")), V.bl (decide (x = "InvalidSigns")), V.bl (decide (x = "InvalidRow")), V.bl (decide (x = "InvalidTable"))]) ++ [V.bl (decide (x = "InvalidLine")), V.bl (decide (x = "InvalidPaper")), V.bl (decide (x = "NotADesk")), V.bl (decide (x = "NotNow"))])) = H3 at h3 l3 k3 ⊢
    refine ⟨_, rfl, ?_⟩
    refine ⟨_, rfl, a, _, d, _, _, _, rfl, T.ex x hx, (ErrIn.ext k3 er), (DcOk.ext k3 dc), fun u r => r, T.kw x hx "InvalidText" (by decide), ?_⟩
    refine ⟨_, rfl, a, _, d, _, _, _, rfl, T.ex x hx, (ErrIn.ext k3 er), (DcOk.ext k3 dc), fun u r => r, T.kw x hx "TooMany" (by decide), ?_⟩
    refine ⟨_, rfl, a, _, d, _, _, _, rfl, T.ex x hx, (ErrIn.ext k3 er), (DcOk.ext k3 dc), fun u r => r, T.kw x hx "NothingToUndo" (by decide), ?_⟩
    refine ⟨by show 3 ≤ sizeLine; decide, fun q4 m4 => ?_⟩
    have j4 := ext_new (o := .lst [.bl (decide (x = "InvalidText")), .bl (decide (x = "TooMany")), .bl (decide (x = "NothingToUndo"))]) m4
    have c4 : upd H3 q4 (.lst [.bl (decide (x = "InvalidText")), .bl (decide (x = "TooMany")), .bl (decide (x = "NothingToUndo"))]) q4 = _ := upd_same
    have l3' := j4 _ _ l3
    generalize upd H3 q4 (.lst [.bl (decide (x = "InvalidText")), .bl (decide (x = "TooMany")), .bl (decide (x = "NothingToUndo"))]) = G4 at j4 c4 l3' ⊢
    refine ⟨p3, q4, _, _, rfl, rfl, l3', c4, by show 12 + 3 ≤ sizeLine; decide, fun p4 n4 => ?_⟩
    have h4 := ext_new (o := .lst ((([V.bl (decide (x = "InvalidSystem")), V.bl (decide (x = "InvalidName")), V.bl (decide (x = "InvalidNumber")), V.bl (decide (x = "InvalidPoint"))] ++ [V.bl (decide (x = "InvalidSpace")), V.bl (decide (x = "InvalidSigns")), V.bl (decide (x = "InvalidRow")), V.bl (decide (x = "InvalidTable"))]) ++ [V.bl (decide (x = "InvalidLine")), V.bl (decide (x = "InvalidPaper")), V.bl (decide (x = "NotADesk")), V.bl (decide (x = "NotNow"))]) ++ [V.bl (decide (x = "InvalidText")), V.bl (decide (x = "TooMany")), V.bl (decide (x = "NothingToUndo"))])) n4
    have l4 : upd G4 p4 (.lst ((([V.bl (decide (x = "InvalidSystem")), V.bl (decide (x = "InvalidName")), V.bl (decide (x = "InvalidNumber")), V.bl (decide (x = "InvalidPoint"))] ++ [V.bl (decide (x = "InvalidSpace")), V.bl (decide (x = "InvalidSigns")), V.bl (decide (x = "InvalidRow")), V.bl (decide (x = "InvalidTable"))]) ++ [V.bl (decide (x = "InvalidLine")), V.bl (decide (x = "InvalidPaper")), V.bl (decide (x = "NotADesk")), V.bl (decide (x = "NotNow"))]) ++ [V.bl (decide (x = "InvalidText")), V.bl (decide (x = "TooMany")), V.bl (decide (x = "NothingToUndo"))])) p4 = _ := upd_same
    have k4 := Ext.trans k3 (Ext.trans j4 h4)
    generalize upd G4 p4 (.lst ((([V.bl (decide (x = "InvalidSystem")), V.bl (decide (x = "InvalidName")), V.bl (decide (x = "InvalidNumber")), V.bl (decide (x = "InvalidPoint"))] ++ [V.bl (decide (x = "InvalidSpace")), V.bl (decide (x = "InvalidSigns")), V.bl (decide (x = "InvalidRow")), V.bl (decide (x = "InvalidTable"))]) ++ [V.bl (decide (x = "InvalidLine")), V.bl (decide (x = "InvalidPaper")), V.bl (decide (x = "NotADesk")), V.bl (decide (x = "NotNow"))]) ++ [V.bl (decide (x = "InvalidText")), V.bl (decide (x = "TooMany")), V.bl (decide (x = "NothingToUndo"))])) = H4 at h4 l4 k4 ⊢
    refine ⟨_, rfl, ?_⟩
    exact ⟨p4, kindsOf x, rfl, SqL.of l4, fun D hD => k D _ (Ext.trans k4 (ext_new hD)) upd_same⟩
end
end K1

/-! Kh: whether an error is right. -/
namespace K1
open PySem PySem.Spec PyProof.Rows L2 L2H Er
section
variable {P : Program} {w : World} {K : PySem.W.Frag} {mg : Str → Option Value} {base : Heap}
def spRight (K : PySem.W.Frag) : SpW := fun l vs H Q => ∃ (a : Addr) (n : Nat) (t m thing more : V), vs = [.ref a, .int (n : Int), thing, more] ∧ n < 15 ∧ Made K l H a n t m ∧ Sim K H t thing ∧ Sim K H m more ∧ ∀ H', Ext H H' → Q (.bl true) H'
theorem ru {k : Nat} {A : Around} (r : RoomH k A) : A.units + 64 < cLine := by
  have := r.un
  omega
theorem wn_cls {n : Nat} (h : n < 15) : wn n ∈ clss := List.mem_append_left _ (wn_mem h)
theorem same_one {K : PySem.W.Frag} {H : Hp} {n : Nat} : Paired (EqX K H 3) [V.int (n : Nat)] [V.int (n : Nat)] := .cons (.inl ⟨rfl, rfl⟩) .nil
theorem ok_right (T : Tx K mg) : OkW P w K mg base 3 "_law_is_right" ["error", "way", "thing", "more"] (spRight K) := by
  refine okw (q := (87, "_law_is_right")) (N := ["error", "way", "thing", "more", "kept", "due"]) (k := 2) T (by decide) ⟨rfl, rfl, rfl, by decide +kernel, rfl, by decide +kernel, by decide +kernel⟩ (fun _ _ _ _ _ _ us hl => match us, hl with | [_, _, _, _], _ => rfl) (fun l vs H Q h => ?_) (fun cdv A outer s0 H vs Q l hr kn h => ?_)
  · obtain ⟨a, n, t, m, x, y, rfl, _⟩ := h
    rfl
  · have nd : (["error", "way", "thing", "more", "kept", "due"] : List Str).Nodup := by decide +kernel
    have hIs : mg "isinstance" = none := T.f "isinstance" (by decide)
    have hVE : mg "ValueError" = none := T.f "ValueError" (by decide)
    have hRp : mg "repr" = none := T.f "repr" (by decide)
    have hp : ∀ q ∈ l, q ∈ (cxW P w K mg base ["error", "way", "thing", "more", "kept", "due"] "_law_is_right" (defScope (top 87)) (ga K "_law_is_right") cdv A outer s0 H (calmOf l) l).pn := fun q hq => hq
    have hu := ru hr
    refine ⟨_, pss_cons (ps_if (PW.pt (pw_or (pt_cmpR (op_nsame hu) (pe_cW (ok_kinds T) hr kn.guards kn.wm rfl (pa_cons (pv 0) pa_nil)) (pe_lst (pa_cons (pv 1) pa_nil)) (nomark _))
        (pw_or (pt_not (pt_val (pe_callB (call_isX hp) rfl hIs (by kernel_rfl) (pa_cons (pv 0) (pa_cons (pe_glob (v := .ref (ga K "PowerError")) rfl (T.g "PowerError" (by decide)) rfl) pa_nil)))))
        (pw_or1 (pt_not (pt_val (pe_callB (call_isX hp) rfl hIs (by kernel_rfl) (pa_cons (pv 0) (pa_cons (pe_bltn (v := .ty "ValueError") rfl hVE (by kernel_rfl) rfl) pa_nil))))))))) (pss_one (ps_ret pe_bl)) pss_nil)
      (pss_cons (ps_if (pt_cmpR op_gt (pv 1) pe_int (nomark _)) (pss_one (ps_ret pe_bl)) pss_nil)
      (pss_cons (ps_set (i := 4) nd rfl (.inl rfl) (pe_ifExp (pt_cmpR op_eq (pv 1) pe_int (nomark _)) (pe_tup (pa_cons (pe_at hp (pv 0)) (pa_cons (pe_at hp (pv 0)) pa_nil))) (pe_tup (pa_cons (pe_at hp (pv 0)) pa_nil))))
      (pss_cons (ps_set (i := 5) nd rfl (.inl rfl) (pe_ifExp (pt_cmpR op_eq (pv 1) pe_int (nomark _)) (pe_tup (pa_cons (pv 2) (pa_cons (pv 3) pa_nil))) (pe_tup (pa_cons (pv 2) pa_nil))))
      (pss_one (ps_ret (pe_and (pe_cmpR op_eq (pe_callB (call_reprD kn.guards hu) rfl hRp (by kernel_rfl) (pa_cons (pv 4) pa_nil)) (pe_callB (call_reprD kn.guards hu) rfl hRp (by kernel_rfl) (pa_cons (pv 5) pa_nil)) (nomark _))
        (pe_one (pe_cmpR (op_same hu) (pe_lst (pa_cons (pv 4) pa_nil)) (pe_lst (pa_cons (pv 5) pa_nil)) (nomark _))))))))), ?_⟩
    obtain ⟨a, n, t, m, thing, more, rfl, hn, made, s1, s2, k⟩ := h
    obtain ⟨d, er, dc⟩ := made.dc
    have hx := wn_cls hn
    -- its classes
    refine ⟨_, rfl, a, wn n, d, rfl, hx, er, dc, fun D H1 k1 hD => ?_⟩
    rw [kinds_wn n hn] at hD
    refine ⟨_, rfl, by show 1 ≤ sizeLine; decide, fun p1 n1 => ?_⟩
    have k2 : Ext H (upd H1 p1 (.lst [.int (n : Int)])) := Ext.trans k1 (ext_new n1)
    have l1 : upd H1 p1 (.lst [.int (n : Int)]) p1 = some (.lst [.int (n : Int)]) := upd_same
    have l2 : upd H1 p1 (.lst [.int (n : Int)]) D = some (.lst [.int (n : Int)]) := ext_new n1 _ _ hD
    generalize upd H1 p1 (.lst [.int (n : Int)]) = H2 at k2 l1 l2 ⊢
    refine ⟨3, D, p1, _, _, by decide, rfl, rfl, SqL.of l2, SqL.of l1, same_one, _, rfl, ?_⟩
    refine if_f rfl ?_
    refine ⟨_, rfl, a, _, d, _, _, _, rfl, T.ex _ hx, ErrIn.ext k2 er, DcOk.ext k2 dc, fun u r => r, T.kp _ hx, _, rfl, ?_⟩
    refine if_f rfl ?_
    refine ⟨_, rfl, a, _, d, _, _, _, rfl, T.ex _ hx, ErrIn.ext k2 er, DcOk.ext k2 dc, fun u r => r, T.kv _ hx, _, rfl, ?_⟩
    refine if_f rfl ?_
    -- what it keeps
    refine ⟨_, rfl, _, _, rfl, rfl, _, rfl, ?_⟩
    by_cases c : 12 < n
    · refine if_t (decide_eq_true (by omega)) ?_
      exact k H2 k2
    refine if_f (decide_eq_false (by omega)) ?_
    obtain ⟨d1, e1, hk⟩ := made
    refine ⟨_, rfl, rfl, _, rfl, ?_⟩
    by_cases c12 : n = 12
    · subst c12
      refine if_t (by decide) ?_
      obtain ⟨dd, rfl, hf⟩ : ∃ dd, d1 = some dd ∧ FsAt H dd [("word", m), ("row", t)] := by
        rcases hk with ⟨h, _⟩ | ⟨_, h⟩ | ⟨h, _⟩
        · omega
        · exact h
        · omega
      refine ⟨_, rfl, a, _, dd, _, t, rfl, T.ex _ hx, T.rw_, ErrIn.ext k2 e1, FsAt.ext k2 hf, rfl, _, rfl, a, _, dd, _, m, rfl, T.ex _ hx, T.wd, ErrIn.ext k2 e1, FsAt.ext k2 hf, rfl, by show 2 ≤ sizeLine; decide, fun p2 n2 => ?_⟩
      have k3 := Ext.trans k2 (ext_new (o := .tup [t, m]) n2)
      have a1 : upd H2 p2 (.tup [t, m]) p2 = some (.tup [t, m]) := upd_same
      generalize upd H2 p2 (.tup [t, m]) = H3 at k3 a1 ⊢
      refine ⟨_, rfl, rfl, _, rfl, if_t (by decide) ⟨_, rfl, _, rfl, by show 2 ≤ sizeLine; decide, fun p3 n3 => ?_⟩⟩
      have k4 := Ext.trans k3 (ext_new (o := .tup [thing, more]) n3)
      have a2 : upd H3 p3 (.tup [thing, more]) p3 = some (.tup [thing, more]) := upd_same
      have a1' := ext_new (o := .tup [thing, more]) n3 _ _ a1
      generalize upd H3 p3 (.tup [thing, more]) = H4 at k4 a1' a2 ⊢
      obtain ⟨eq1, x1, i1, j1, j2⟩ := Sim.ext k4 s1
      obtain ⟨eq2, x2, i2, j3, j4⟩ := Sim.ext k4 s2
      obtain ⟨z1, z2, z3⟩ := okT_of (List.all_eq_true.mp (List.all_eq_true.mp okT_two x1 i1) x2 i2)
      refine ⟨_, rfl, p2, 7, _, by decide, rfl, dat_two a1' j1 j3, z1, z2, z3, _, rfl, p3, 7, _, by decide, rfl, dat_two a2 j2 j4, z1, z2, z3, rfl, ?_⟩
      refine ⟨true, by simp, if_t rfl ?_⟩
      refine ⟨_, rfl, by show 1 ≤ sizeLine; decide, fun p4 n4 => ⟨_, rfl, by show 1 ≤ sizeLine; decide, fun p5 n5 => ?_⟩⟩
      have k5 := ext_new (o := .lst [.ref p2]) n4
      have k6 := ext_new (o := .lst [.ref p3]) n5
      refine ⟨4, p4, p5, [.ref p2], [.ref p3], by decide, rfl, rfl, SqL.of (k6 _ _ upd_same), SqL.of upd_same, .cons (.inr (.inr ⟨p2, p3, _, _, rfl, rfl, k6 _ _ (k5 _ _ a1'), k6 _ _ (k5 _ _ a2), .cons (eqX_mono (Ext.trans k5 k6) 3 eq1) (.cons (eqX_mono (Ext.trans k5 k6) 3 eq2) .nil)⟩)) .nil, ?_⟩
      exact k _ (Ext.trans k4 (Ext.trans k5 k6))
    · refine if_f (by simp; omega) ?_
      obtain ⟨dd, rfl, hf⟩ : ∃ dd, d1 = some dd ∧ FsAt H dd [("given", t)] := by
        rcases hk with ⟨_, h⟩ | ⟨h, _⟩ | ⟨h, _⟩
        · exact h
        · exact absurd h c12
        · omega
      have hg : wn n ∈ gvn := by
        have e : wn n = gvn.getD n "" := by
          unfold wn ways
          rw [List.getD_eq_getElem?_getD, List.getD_eq_getElem?_getD, List.getElem?_append_left (show n < gvn.length from (by show n < 12; omega))]
        rw [e, List.getD_eq_getElem?_getD, List.getElem?_eq_getElem (show n < gvn.length from (by show n < 12; omega))]
        exact List.getElem_mem _
      refine ⟨_, rfl, a, _, dd, _, t, rfl, T.ex _ hx, T.gv _ hg, ErrIn.ext k2 e1, FsAt.ext k2 hf, rfl, by show 1 ≤ sizeLine; decide, fun p2 n2 => ?_⟩
      have k3 := Ext.trans k2 (ext_new (o := .tup [t]) n2)
      have a1 : upd H2 p2 (.tup [t]) p2 = some (.tup [t]) := upd_same
      generalize upd H2 p2 (.tup [t]) = H3 at k3 a1 ⊢
      refine ⟨_, rfl, rfl, _, rfl, if_f (by simp; omega) ⟨_, rfl, by show 1 ≤ sizeLine; decide, fun p3 n3 => ?_⟩⟩
      have k4 := Ext.trans k3 (ext_new (o := .tup [thing]) n3)
      have a2 : upd H3 p3 (.tup [thing]) p3 = some (.tup [thing]) := upd_same
      have a1' := ext_new (o := .tup [thing]) n3 _ _ a1
      generalize upd H3 p3 (.tup [thing]) = H4 at k4 a1' a2 ⊢
      obtain ⟨eq1, x1, i1, j1, j2⟩ := Sim.ext k4 s1
      obtain ⟨z1, z2, z3⟩ := okT_of (List.all_eq_true.mp okT_one x1 i1)
      refine ⟨_, rfl, p2, 7, _, by decide, rfl, dat_one a1' j1, z1, z2, z3, _, rfl, p3, 7, _, by decide, rfl, dat_one a2 j2, z1, z2, z3, rfl, ?_⟩
      refine ⟨true, by simp, if_t rfl ?_⟩
      refine ⟨_, rfl, by show 1 ≤ sizeLine; decide, fun p4 n4 => ⟨_, rfl, by show 1 ≤ sizeLine; decide, fun p5 n5 => ?_⟩⟩
      have k5 := ext_new (o := .lst [.ref p2]) n4
      have k6 := ext_new (o := .lst [.ref p3]) n5
      refine ⟨4, p4, p5, [.ref p2], [.ref p3], by decide, rfl, rfl, SqL.of (k6 _ _ upd_same), SqL.of upd_same, .cons (.inr (.inr ⟨p2, p3, _, _, rfl, rfl, k6 _ _ (k5 _ _ a1'), k6 _ _ (k5 _ _ a2), .cons (eqX_mono (Ext.trans k5 k6) 3 eq1) .nil⟩)) .nil, ?_⟩
      exact k _ (Ext.trans k4 (Ext.trans k5 k6))
end
end K1

/-! Ki: a kept thing that is changed later; the program's functions that refuse. -/
namespace K1
open PySem PySem.Spec PyProof.Rows L2 L2H Er
theorem Made.put {K : PySem.W.Frag} {l : List (Addr × Obj)} {H : Hp} {a p : Addr} {n : Nat} {t m : V} {xs ys : List V} (hp : H p = some (.lst xs)) (x : Made K l H a n t m) : Made K l (upd H p (.lst ys)) a n t m := by
  have st : ∀ {b o}, H b = some o → o ≠ .lst xs → upd H p (.lst ys) b = some o := fun {b o} e ne => by
    have : b ≠ p := fun z => by
      rw [z, hp] at e
      cases e
      exact ne rfl
    rw [upd_ne this]
    exact e
  have fs : ∀ {d f}, FsAt H d f → FsAt (upd H p (.lst ys)) d f := fun h => h.imp (fun e => st e (fun z => nomatch z)) (fun e => st e (fun z => nomatch (show HO.ext _ = HO.lst _ from z)))
  obtain ⟨d, h1, h2⟩ := x
  refine ⟨d, ?_, ?_⟩
  · rcases h1 with h | ⟨φ, e, h⟩
    · exact .inl h
    · exact .inr ⟨φ, st e (fun z => nomatch z), h⟩
  · rcases h2 with ⟨h, dd, e, f⟩ | ⟨h, dd, e, f⟩ | h
    · exact .inl ⟨h, dd, e, fs f⟩
    · exact .inr (.inl ⟨h, dd, e, fs f⟩)
    · exact .inr (.inr h)
section
variable {P : Program} {w : World} {K : PySem.W.Frag} {mg : Str → Option Value} {base : Heap}
theorem rl {k : Nat} {A : Around} (r : Room k A) : A.units + 64 < cLine := by
  have := r.un
  omega
theorem wn_gvn {n : Nat} (h : n < 12) : wn n ∈ gvn := by
  have e : wn n = gvn.getD n "" := by
    unfold wn ways
    rw [List.getD_eq_getElem?_getD, List.getD_eq_getElem?_getD, List.getElem?_append_left (show n < gvn.length from h)]
  rw [e, List.getD_eq_getElem?_getD, List.getElem?_eq_getElem (show n < gvn.length from h)]
  exact List.getElem_mem _
def spLater : Sp := fun vs H Q _ => ∃ n : Nat, vs = [.int (n : Int)] ∧ n < 15 ∧ ∀ H', Ext H H' → Q (.bl true) H'
theorem ok_later (T : Tx K mg) : Okd P w K mg base L2.CX0 4 "_law_later_right" ["way"] spLater := by
  refine okd (q := (88, "_law_later_right")) (N := ["way", "thing", "error"]) (k := 3) T (by decide) ⟨rfl, rfl, rfl, by decide +kernel, rfl, by decide +kernel, by decide +kernel⟩ (fun _ _ _ _ _ _ us hl => match us, hl with | [_], _ => rfl) (fun vs H Q E h => ?_) (fun cdv A outer s0 H vs Q E hr h => ?_)
  · obtain ⟨n, rfl, _⟩ := h
    rfl
  · have nd : (["way", "thing", "error"] : List Str).Nodup := by decide +kernel
    have hu := rl hr
    refine ⟨_, PSs.nox (pss_cons (ps_set (i := 1) nd rfl (.inl rfl) (pe_lst (pa_cons pe_int pa_nil)))
      (pss_cons (ps_set (i := 2) nd rfl (.inl rfl) (pe_c (ok_by_place T) hr rfl (pa_cons (pv 0) (pa_cons (pv 1) (pa_cons pe_non pa_nil)))))
      (pss_cons (ps_expr (pe_bm PySem.F.plainAttrs_list PySem.F.slot_list_append PySem.F.type_list_append mt_append (pv 1) (pa_cons pe_int pa_nil)))
      (pss_one (ps_ret (pe_or (pe_cmpR op_gt (pv 0) pe_int (nomark _)) (pe_one (pe_cmpR (op_same hu) (pe_ifExp (pt_cmpR op_eq (pv 0) pe_int (nomark _)) (pe_at (l := []) (fun q h => nomatch h) (pv 2)) (pe_at (l := []) (fun q h => nomatch h) (pv 2)))
        (pe_lst (pa_cons pe_int (pa_cons pe_int pa_nil))) (nomark _))))))))), ?_⟩
    obtain ⟨n, rfl, hn, k⟩ := h
    refine ⟨by show 1 ≤ sizeLine; decide, fun p1 n1 => ?_⟩
    have k1 := ext_new (o := .lst [.int 1]) n1
    have a1 : upd H p1 (.lst [.int 1]) p1 = some (.lst [.int 1]) := upd_same
    have q1 : ∀ {b o}, H b = some o → b ≠ p1 := fun e => ne_of_none e n1
    generalize upd H p1 (.lst [.int 1]) = H1 at k1 a1 ⊢
    refine ⟨_, rfl, _, rfl, n, .ref p1, .non, rfl, hn, fun a H2 k2 made => ?_⟩
    have a2 := k2 _ _ a1
    refine ⟨_, rfl, .inl ⟨rfl, _, SqL.of a2⟩, p1, _, _, rfl, rfl, a2, by show 1 < sizeLine; decide, ?_⟩
    have made3 := made.put (ys := [.int 1] ++ [.int 2]) a2
    have k3 : Ext H (upd H2 p1 (.lst ([.int 1] ++ [.int 2]))) := fun b o e => by
      rw [upd_ne (q1 e)]
      exact k2 _ _ (k1 _ _ e)
    have a3 : upd H2 p1 (.lst ([.int 1] ++ [.int 2])) p1 = some (.lst [.int 1, .int 2]) := upd_same
    generalize upd H2 p1 (.lst ([.int 1] ++ [.int 2])) = H3 at k3 a3 made3 ⊢
    refine ⟨_, rfl, _, _, rfl, rfl, _, rfl, ?_⟩
    by_cases c : 12 < n
    · refine if_t (decide_eq_true (by omega)) ?_
      exact k H3 k3
    refine if_f (decide_eq_false (by omega)) ?_
    obtain ⟨d1, e1, hk⟩ := made3
    have hx := wn_cls hn
    have fin : ∀ p4, H3 p4 = none → ∃ (m : Nat) (u v : Addr) (xs ys : List V), m ≤ 20 ∧ (V.ref p1) = .ref u ∧ V.ref p4 = .ref v ∧ SqL K (upd H3 p4 (.lst [.int 1, .int 2])) u xs ∧ SqL K (upd H3 p4 (.lst [.int 1, .int 2])) v ys ∧ Paired (EqX K (upd H3 p4 (.lst [.int 1, .int 2])) m) xs ys ∧ Q (.bl true) (upd H3 p4 (.lst [.int 1, .int 2])) :=
      fun p4 n4 => ⟨3, p1, p4, _, _, by decide, rfl, rfl, SqL.of (ext_new n4 _ _ a3), SqL.of upd_same, .cons (.inl ⟨rfl, rfl⟩) (.cons (.inl ⟨rfl, rfl⟩) .nil), k _ (Ext.trans k3 (ext_new n4))⟩
    refine ⟨_, rfl, rfl, _, rfl, ?_⟩
    by_cases c12 : n = 12
    · subst c12
      refine if_t (by decide) ?_
      obtain ⟨dd, rfl, hf⟩ : ∃ dd, d1 = some dd ∧ FsAt H3 dd [("word", .non), ("row", .ref p1)] := by
        rcases hk with ⟨h, _⟩ | ⟨_, h⟩ | ⟨h, _⟩
        · omega
        · exact h
        · omega
      exact ⟨_, rfl, a, _, dd, _, .ref p1, rfl, T.ex _ hx, T.rw_, e1, hf, rfl, by show 2 ≤ sizeLine; decide, fun p4 n4 => fin p4 n4⟩
    · refine if_f (by simp; omega) ?_
      obtain ⟨dd, rfl, hf⟩ : ∃ dd, d1 = some dd ∧ FsAt H3 dd [("given", .ref p1)] := by
        rcases hk with ⟨_, h⟩ | ⟨h, _⟩ | ⟨h, _⟩
        · exact h
        · exact absurd h c12
        · omega
      exact ⟨_, rfl, a, _, dd, _, .ref p1, rfl, T.ex _ hx, T.gv _ (wn_gvn (by omega)), e1, hf, rfl, by show 2 ≤ sizeLine; decide, fun p4 n4 => fin p4 n4⟩
/-! ### the program's functions -/
/-- is_whole of a whole number -/
theorem ok_whole (T : Tx K mg) : Okd P w K mg base L2.CX0 1 "is_whole" ["value"] (fun vs H Q _ => ∃ i : Int, vs = [.int i] ∧ Q (.bl true) H) := by
  refine okd (q := (19, "is_whole")) (N := ["value"]) (k := 0) T (by decide) ⟨rfl, rfl, rfl, by decide +kernel, rfl, by decide +kernel, by decide +kernel⟩ (fun _ _ _ _ _ _ us hl => match us, hl with | [_], _ => rfl) (fun vs H Q E h => ?_) (fun cdv A outer s0 H vs Q E hr h => ?_)
  · obtain ⟨n, rfl, _⟩ := h
    rfl
  · have hIs : mg "isinstance" = none := T.f "isinstance" (by decide)
    refine ⟨_, PSs.nox (pss_one (ps_ret (pe_and (pe_callB call_isi rfl hIs (by kernel_rfl) (pa_cons (pv 0) (pa_cons (pe_bltn (v := .ty "int") rfl (T.f "int" (by decide)) (by kernel_rfl) rfl) pa_nil)))
      (pe_one (pe_not (pe_callB call_isi rfl hIs (by kernel_rfl) (pa_cons (pv 0) (pa_cons (pe_bltn (v := .ty "bool") rfl (T.f "bool" (by decide)) (by kernel_rfl) rfl) pa_nil)))))))), ?_⟩
    obtain ⟨i, rfl, k⟩ := h
    refine ⟨_, rfl, _, _, _, _, true, rfl, .ty "int", .base (.int i), kit_ty (a := "int") (b := "int") (by decide +kernel), true, rfl, if_t rfl ?_⟩
    exact ⟨_, rfl, _, _, _, _, false, rfl, .ty "bool", .base (.int i), kit_ty (a := "int") (b := "bool") (by decide +kernel), false, rfl, k⟩
theorem ok_between (T : Tx K mg) : Okd P w K mg base L2.CX0 2 "is_between" ["value", "low", "high"] (fun vs H Q _ => ∃ i lo hi : Int, vs = [.int i, .int lo, .int hi] ∧ lo ≤ i ∧ i ≤ hi ∧ Q (.bl true) H) := by
  refine okd (q := (20, "is_between")) (N := ["value", "low", "high"]) (k := 1) T (by decide) ⟨rfl, rfl, rfl, by decide +kernel, rfl, by decide +kernel, by decide +kernel⟩ (fun _ _ _ _ _ _ us hl => match us, hl with | [_, _, _], _ => rfl) (fun vs H Q E h => ?_) (fun cdv A outer s0 H vs Q E hr h => ?_)
  · obtain ⟨_, _, _, rfl, _⟩ := h
    rfl
  · refine ⟨_, PSs.nox (pss_one (ps_ret (pe_and (pe_c (ok_whole T) hr rfl (pa_cons (pv 0) pa_nil)) (pe_one (pe_chain op_le op_le (pv 1) (pv 0) (pv 2)))))), ?_⟩
    obtain ⟨i, lo, hi, rfl, h1, h2, k⟩ := h
    refine ⟨_, rfl, i, rfl, true, rfl, if_t rfl ?_⟩
    refine ⟨_, rfl, _, rfl, lo, i, rfl, rfl, true, (congrArg V.bl (decide_eq_true h1)), if_t rfl ?_⟩
    refine ⟨_, rfl, i, hi, rfl, rfl, ?_⟩
    show Q (.bl (decide (i ≤ hi))) H
    rw [decide_eq_true h2]
    exact k
/-- of a whole number; of a tuple of so many -/
theorem ok_tuple (T : Tx K mg) : Okd P w K mg base L2.CX0 1 "is_tuple_of" ["value", "low", "high"] (fun vs H Q _ => (∃ i lo hi : Int, vs = [.int i, .int lo, .int hi] ∧ Q (.bl false) H) ∨
    ∃ (p : Addr) (xs : List V) (lo hi : Int), vs = [.ref p, .int lo, .int hi] ∧ H p = some (.tup xs) ∧ lo ≤ xs.length ∧ (xs.length : Int) ≤ hi ∧ Q (.bl true) H) := by
  refine okd (q := (21, "is_tuple_of")) (N := ["value", "low", "high"]) (k := 0) T (by decide) ⟨rfl, rfl, rfl, by decide +kernel, rfl, by decide +kernel, by decide +kernel⟩ (fun _ _ _ _ _ _ us hl => match us, hl with | [_, _, _], _ => rfl) (fun vs H Q E h => ?_) (fun cdv A outer s0 H vs Q E hr h => ?_)
  · rcases h with ⟨_, _, _, rfl, _⟩ | ⟨_, _, _, _, rfl, _⟩ <;> rfl
  · have hIs : mg "isinstance" = none := T.f "isinstance" (by decide)
    have hL : mg "len" = none := T.f "len" (by decide)
    refine ⟨_, PSs.nox (pss_one (ps_ret (pe_and (pe_callB call_isi rfl hIs (by kernel_rfl) (pa_cons (pv 0) (pa_cons (pe_bltn (v := .ty "tuple") rfl (T.f "tuple" (by decide)) (by kernel_rfl) rfl) pa_nil)))
      (pe_one (pe_chain op_le op_le (pv 1) (pe_callB call_len_seq rfl hL (by kernel_rfl) (pa_cons (pv 0) pa_nil)) (pv 2)))))), ?_⟩
    rcases h with ⟨i, lo, hi, rfl, k⟩ | ⟨p, xs, lo, hi, rfl, hp, h1, h2, k⟩
    · exact ⟨_, rfl, _, _, _, _, false, rfl, .ty "tuple", .base (.int i), kit_ty (a := "int") (b := "tuple") (by decide +kernel), false, rfl, if_f rfl k⟩
    · refine ⟨_, rfl, _, _, _, _, true, rfl, .ty "tuple", .base (.tup hp), kit_ty (a := "tuple") (b := "tuple") (by decide +kernel), true, rfl, if_t rfl ?_⟩
      refine ⟨_, rfl, _, rfl, p, xs, rfl, .inr (SqT.of hp), lo, _, rfl, rfl, true, (congrArg V.bl (decide_eq_true h1)), if_t rfl ?_⟩
      refine ⟨_, rfl, _, hi, rfl, rfl, ?_⟩
      show Q (.bl (decide ((xs.length : Int) ≤ hi))) H
      rw [decide_eq_true h2]
      exact k
/-- the pair of 1 and 2 is no space -/
theorem ok_space (T : Tx K mg) : Okd P w K mg base L2.CX0 3 "is_space_by" ["value"] (fun vs H Q _ => ∃ p, vs = [.ref p] ∧ H p = some (.tup [.int 1, .int 2]) ∧ Q (.bl false) H) := by
  refine okd (q := (29, "is_space_by")) (N := ["value", "row"]) (k := 2) T (by decide) ⟨rfl, rfl, rfl, by decide +kernel, rfl, by decide +kernel, by decide +kernel⟩ (fun _ _ _ _ _ _ us hl => match us, hl with | [_], _ => rfl) (fun vs H Q E h => ?_) (fun cdv A outer s0 H vs Q E hr h => ?_)
  · obtain ⟨_, rfl, _⟩ := h
    rfl
  · obtain ⟨t1, c1⟩ := T.c1
    obtain ⟨t2, c2⟩ := T.c2
    refine ⟨_, PSs.nox (pss_cons (ps_if (PW.pt (pw_or (pt_not (pt_val (pe_c (ok_tuple T) (hr.mono (by decide)) rfl (pa_cons (pv 0) (pa_cons pe_int (pa_cons pe_int pa_nil))))))
        (pw_or1 (pt_not (pt_val (pe_c (ok_between T) hr rfl (pa_cons (pe_ix ix_tup (pv 0) pe_int (fun _ _ => rfl)) (pa_cons pe_int (pa_cons (pe_glob (v := .int 12) rfl c1 ⟨t1, rfl⟩) pa_nil))))))))) (pss_one (ps_ret pe_bl)) pss_nil)
      (pss_one (ps_ret (pe_and (pe_c (ok_tuple T) (hr.mono (by decide)) rfl (pa_cons (pe_ix ix_tup (pv 0) pe_int (fun _ _ => rfl)) (pa_cons pe_int (pa_cons (pe_glob (v := .int 12) rfl c2 ⟨t2, rfl⟩) pa_nil)))) pe_no)))), ?_⟩
    obtain ⟨p, rfl, hp, k⟩ := h
    refine ⟨_, rfl, .inr ⟨p, _, 2, 2, rfl, hp, by decide, by decide, true, rfl, if_f rfl ?_⟩⟩
    refine ⟨_, rfl, p, _, _, .int 1, rfl, rfl, SqT.of hp, rfl, 1, 0, 12, rfl, by decide, by decide, true, rfl, if_f rfl ?_⟩
    exact ⟨_, rfl, p, _, _, .int 2, rfl, rfl, SqT.of hp, rfl, .inl ⟨2, 0, 12, rfl, false, rfl, if_f rfl k⟩⟩
/-- 5 is no system -/
theorem ok_form (T : Tx K mg) : Okd P w K mg base L2.CX0 2 "has_form" ["value"] (fun vs H Q _ => vs = [.int 5] ∧ Q (.bl false) H) := by
  refine okd (q := (63, "has_form")) (N := ["value"]) (k := 1) T (by decide) ?S (fun _ _ _ _ _ _ us hl => match us, hl with | [_], _ => rfl) (fun vs H Q E h => ?_) (fun cdv A outer s0 H vs Q E hr h => ?_)
  case S => exact ⟨rfl, rfl, rfl, by decide +kernel, rfl, by decide +kernel, by decide +kernel⟩
  · obtain ⟨rfl, _⟩ := h
    rfl
  · refine ⟨_, PSs.nox (pss_cons (ps_if (PW.pt (pw_or (pt_not (pt_val (pe_c (ok_tuple T) hr rfl (pa_cons (pv 0) (pa_cons pe_int (pa_cons pe_int pa_nil)))))) pw_no)) (pss_one (ps_ret pe_bl)) pss_nil) pss_no), ?_⟩
    obtain ⟨rfl, k⟩ := h
    exact ⟨_, rfl, .inl ⟨5, 4, 4, rfl, false, rfl, if_t rfl (if_t rfl k)⟩⟩
theorem ok_system (T : Tx K mg) : Okd P w K mg base L2.CX0 3 "is_system_by" ["value"] (fun vs H Q _ => vs = [.int 5] ∧ Q (.bl false) H) := by
  refine okd (q := (65, "is_system_by")) (N := ["value"]) (k := 2) T (by decide) ⟨rfl, rfl, rfl, by decide +kernel, rfl, by decide +kernel, by decide +kernel⟩ (fun _ _ _ _ _ _ us hl => match us, hl with | [_], _ => rfl) (fun vs H Q E h => ?_) (fun cdv A outer s0 H vs Q E hr h => ?_)
  · obtain ⟨rfl, _⟩ := h
    rfl
  · refine ⟨_, PSs.nox (pss_cons (ps_if (pt_not (pt_val (pe_c (ok_form T) hr rfl (pa_cons (pv 0) pa_nil)))) (pss_one (ps_ret pe_bl)) pss_nil) pss_no), ?_⟩
    obtain ⟨rfl, k⟩ := h
    exact ⟨_, rfl, rfl, false, rfl, if_t rfl k⟩
/-! ### .. that raise -/
theorem ok_text_of (T : Tx K mg) : Okd P w K mg base (L2N.CX P w) 4 "text_of" ["system"] (fun vs H _ E => vs = [.int 5] ∧ ∀ d H', Ext H H' → H' d = some (.xd [("given", .int 5)]) → E (.ref (ga K "InvalidSystem")) (some d) H') := by
  refine okd (q := (73, "text_of")) (N := ["system"]) (k := 3) T (by decide) ⟨rfl, rfl, rfl, by decide +kernel, rfl, by decide +kernel, by decide +kernel⟩ (fun _ _ _ _ _ _ us hl => match us, hl with | [_], _ => rfl) (fun vs H Q E h => ?_) (fun cdv A outer s0 H vs Q E hr h => ?_)
  · obtain ⟨rfl, _⟩ := h
    rfl
  · have tk : L2N.Takes (cxOf (L2N.CX P w) P w K mg base ["system"] "text_of" (defScope (top 73)) (ga K "text_of") cdv A outer s0 H E) (fun cls d _ H => E cls d H) := L2N.takes_of rfl rfl rfl rfl
    refine ⟨_, pss_cons (ps_if (pt_not (pt_val (pe_c (ok_system T) hr rfl (pa_cons (pv 0) pa_nil)))) (pss_one (L2N.ps_raise rfl tk (pmk_C T (by decide) (i := 3) (by decide) (in_0 T) (hr.mono (by decide)) rfl (pa_cons (pv 0) pa_nil)))) pss_nil) pss_no, ?_⟩
    obtain ⟨rfl, k⟩ := h
    refine ⟨_, rfl, rfl, false, rfl, if_t rfl ?_⟩
    exact ⟨_, rfl, rs_given (T.ox (3, "InvalidSystem") (by decide)).1 (T.gv "InvalidSystem" (by decide)) fun d H2 h1 h2 => k d H2 h1 h2⟩
theorem ok_check_text (T : Tx K mg) : Okd P w K mg base (L2N.CX P w) 3 "check_text" ["value"] (fun vs H _ E => vs = [.int 5] ∧ ∀ d H', Ext H H' → H' d = some (.xd [("word", .non), ("row", .non)]) → E (.ref (ga K "InvalidText")) (some d) H') := by
  refine okd (q := (56, "check_text")) (N := ["value"]) (k := 2) T (by decide) ?S (fun _ _ _ _ _ _ us hl => match us, hl with | [_], _ => rfl) (fun vs H Q E h => ?_) (fun cdv A outer s0 H vs Q E hr h => ?_)
  case S => exact ⟨rfl, rfl, rfl, by decide +kernel, rfl, by decide +kernel, by decide +kernel⟩
  · obtain ⟨rfl, _⟩ := h
    rfl
  · have hIs : mg "isinstance" = none := T.f "isinstance" (by decide)
    have tk : L2N.Takes (cxOf (L2N.CX P w) P w K mg base ["value"] "check_text" (defScope (top 56)) (ga K "check_text") cdv A outer s0 H E) (fun cls d _ H => E cls d H) := L2N.takes_of rfl rfl rfl rfl
    refine ⟨_, pss_cons (ps_if (pt_not (pt_val (pe_callB call_isi rfl hIs (by kernel_rfl) (pa_cons (pv 0) (pa_cons (pe_bltn (v := .ty "str") rfl (T.f "str" (by decide)) (by kernel_rfl) rfl) pa_nil)))))
      (pss_one (L2N.ps_raise rfl tk (pmk_C T (by decide) (i := 15) (by decide) (in_12 T) hr rfl (pa_cons pe_non (pa_cons pe_non pa_nil))))) pss_nil) pss_no, ?_⟩
    obtain ⟨rfl, k⟩ := h
    refine ⟨_, rfl, _, _, _, _, false, rfl, .ty "str", .base (.int 5), kit_ty (a := "int") (b := "str") (by decide +kernel), false, rfl, if_t rfl ?_⟩
    exact rs_text (T.ox (15, "InvalidText") (by decide)).1 T.rw_ T.wd fun d H2 h1 h2 => k d H2 h1 h2
theorem ok_read (T : Tx K mg) : Okd P w K mg base (L2N.CX P w) 4 "read" ["text"] (fun vs H _ E => vs = [.int 5] ∧ ∀ d H', Ext H H' → H' d = some (.xd [("word", .non), ("row", .non)]) → E (.ref (ga K "InvalidText")) (some d) H') := by
  refine okd (q := (75, "read")) (N := ["text"]) (k := 3) T (by decide) ⟨rfl, rfl, rfl, by decide +kernel, rfl, by decide +kernel, by decide +kernel⟩ (fun _ _ _ _ _ _ us hl => match us, hl with | [_], _ => rfl) (fun vs H Q E h => ?_) (fun cdv A outer s0 H vs Q E hr h => ?_)
  · obtain ⟨rfl, _⟩ := h
    rfl
  · have tk : L2N.Takes (cxOf (L2N.CX P w) P w K mg base ["text"] "read" (defScope (top 75)) (ga K "read") cdv A outer s0 H E) (fun cls d _ H => E cls d H) := L2N.takes_of rfl rfl rfl rfl
    refine ⟨_, pss_one (ps_ret (pe_cS (ok_check_text T) hr rfl (fun σ => L2N.passAt tk σ) (pa_cons (pv 0) pa_nil))), ?_⟩
    obtain ⟨rfl, k⟩ := h
    exact ⟨_, rfl, rfl, fun d H' h1 h2 => k d H' h1 h2⟩
theorem ok_check_space (T : Tx K mg) : Okd P w K mg base (L2N.CX P w) 4 "check_space" ["value"] (fun vs H _ E => ∃ p, vs = [.ref p] ∧ H p = some (.tup [.int 1, .int 2]) ∧ ∀ d H', Ext H H' → H' d = some (.xd [("given", .ref p)]) → E (.ref (ga K "InvalidSpace")) (some d) H') := by
  refine okd (q := (57, "check_space")) (N := ["value"]) (k := 3) T (by decide) ⟨rfl, rfl, rfl, by decide +kernel, rfl, by decide +kernel, by decide +kernel⟩ (fun _ _ _ _ _ _ us hl => match us, hl with | [_], _ => rfl) (fun vs H Q E h => ?_) (fun cdv A outer s0 H vs Q E hr h => ?_)
  · obtain ⟨_, rfl, _⟩ := h
    rfl
  · have tk : L2N.Takes (cxOf (L2N.CX P w) P w K mg base ["value"] "check_space" (defScope (top 57)) (ga K "check_space") cdv A outer s0 H E) (fun cls d _ H => E cls d H) := L2N.takes_of rfl rfl rfl rfl
    refine ⟨_, pss_one (ps_if (pt_not (pt_val (pe_c (ok_space T) hr rfl (pa_cons (pv 0) pa_nil)))) (pss_one (L2N.ps_raise rfl tk (pmk_C T (by decide) (i := 7) (by decide) (in_4 T) (hr.mono (by decide)) rfl (pa_cons (pv 0) pa_nil)))) pss_nil), ?_⟩
    obtain ⟨p, rfl, hp, k⟩ := h
    refine ⟨_, rfl, p, rfl, hp, false, rfl, if_t rfl ?_⟩
    exact ⟨_, rfl, rs_given (T.ox (7, "InvalidSpace") (by decide)).1 (T.gv "InvalidSpace" (by decide)) fun d H2 h1 h2 => k d H2 h1 h2⟩
theorem ok_rank (T : Tx K mg) : Okd P w K mg base (L2N.CX P w) 5 "rank" ["space"] (fun vs H _ E => ∃ p, vs = [.ref p] ∧ H p = some (.tup [.int 1, .int 2]) ∧ ∀ d H', Ext H H' → H' d = some (.xd [("given", .ref p)]) → E (.ref (ga K "InvalidSpace")) (some d) H') := by
  refine okd (q := (77, "rank")) (N := ["space"]) (k := 4) T (by decide) ⟨rfl, rfl, rfl, by decide +kernel, rfl, by decide +kernel, by decide +kernel⟩ (fun _ _ _ _ _ _ us hl => match us, hl with | [_], _ => rfl) (fun vs H Q E h => ?_) (fun cdv A outer s0 H vs Q E hr h => ?_)
  · obtain ⟨_, rfl, _⟩ := h
    rfl
  · have tk : L2N.Takes (cxOf (L2N.CX P w) P w K mg base ["space"] "rank" (defScope (top 77)) (ga K "rank") cdv A outer s0 H E) (fun cls d _ H => E cls d H) := L2N.takes_of rfl rfl rfl rfl
    refine ⟨_, pss_cons (ps_expr (pe_cS (ok_check_space T) hr rfl (fun σ => L2N.passAt tk σ) (pa_cons (pv 0) pa_nil))) pss_no, ?_⟩
    obtain ⟨p, rfl, hp, k⟩ := h
    exact ⟨_, rfl, p, rfl, hp, fun d H' h1 h2 => k d H' h1 h2⟩
end
end K1

/-! Kj: a bell. -/
namespace K1
open PySem PySem.Spec PyProof.Rows L2 L2H Er
theorem for_en {K : PySem.W.Frag} {a : Addr} {xs : List V} {g : TG} {tb : TS} {D : Ends} {σ : L2.St} {H : Hp} (Pv : Nat → L2.St → Hp → Prop) (h0 : Pv 0 σ H) (hl : ∀ i σ H, Pv i σ H → SqL K H a xs)
    (hs : ∀ i x σ H T, xs[i]? = some x → Pv i σ H → H T = none → g (.ref T) σ (upd H T (.tup [.int (i : Nat), x])) fun σ2 H2 => tb { D with nx := Pv (i + 1), ct := Pv (i + 1), bk := D.nx } σ2 H2) (hd : ∀ σ H, Pv xs.length σ H → D.nx σ H) :
    ∃ W : Nat → Nat → L2.St → Hp → Prop, (∃ m, W 0 m σ H) ∧ ∀ i m σ H, W i m σ H → ((Ite K a).stop i H ∧ D.nx σ H) ∨ ((Ite K a).go i H ∧ ∃ N : L2.St → Hp → Prop, (∀ σ' H', N σ' H' → ∃ m', m' < m ∧ W (i + 1) m' σ' H') ∧ ∀ x H', (Ite K a).yld i H x H' → g x σ H' fun σ2 H2 => tb { D with nx := N, ct := N, bk := D.nx } σ2 H2) := by
  refine ⟨fun i m σ H => m = xs.length - i ∧ i ≤ xs.length ∧ Pv i σ H, ⟨xs.length, rfl, Nat.zero_le _, h0⟩, ?_⟩
  rintro i m σ H ⟨rfl, hi, p⟩
  have q := hl i σ H p
  by_cases c : i < xs.length
  · have hx : xs[i]? = some xs[i] := List.getElem?_eq_getElem c
    refine .inr ⟨⟨xs, _, q, hx⟩, Pv (i + 1), fun σ' H' p' => ⟨xs.length - (i + 1), by omega, rfl, c, p'⟩, ?_⟩
    rintro v H' ⟨T, x, rfl, hT, rfl, he⟩
    exact hs i x σ H T (he xs q) p hT
  · have e : i = xs.length := by omega
    subst e
    exact .inl ⟨⟨xs, q, Nat.le_refl _⟩, hd σ H p⟩
section
variable {P : Program} {w : World} {K : PySem.W.Frag} {mg : Str → Option Value} {base : Heap}
def spBell (K : PySem.W.Frag) : Sp := fun vs H Q _ => ∃ (a : Addr) (ns : List Int) (lap : Int), vs = [.ref a, .int lap] ∧ SqL K H a (ns.map V.int) ∧ 0 ≤ lap ∧ lap ≤ 10 ∧
  ∀ p H' s t, Ext H H' → H p = none → H' p = some (.lst [.int s, .int t]) → BellOk s t → Q (.ref p) H'
theorem sqL_ext {H H' : Hp} {a : Addr} {xs : List V} (k : Ext H H') (h : SqL K H a xs) : SqL K H' a xs := by
  rcases h with (h | ⟨o, h⟩) | h
  · exact .inl (.inl (k _ _ h))
  · exact .inl (.inr ⟨o, k _ _ h⟩)
  · exact .inr h
theorem mM : (0 : Int) < 170141183460469231731687303715884105727 := by decide
theorem ok_bell (T : Tx K mg) : Okd P w K mg base L2.CX0 1 "_law_bell" ["script", "lap"] (spBell K) := by
  refine okd (q := (79, "_law_bell")) (N := ["script", "lap", "own", "struck", "place", "cell"]) (k := 0) T (by decide) ⟨rfl, rfl, rfl, by decide +kernel, rfl, by decide +kernel, by decide +kernel⟩ (fun _ _ _ _ _ _ us hl => match us, hl with | [_, _], _ => rfl) (fun vs H Q E h => ?_) (fun cdv A outer s0 H vs Q E hr h => ?_)
  · obtain ⟨a, ns, lap, rfl, _⟩ := h
    rfl
  · have nd : (["script", "lap", "own", "struck", "place", "cell"] : List Str).Nodup := by decide +kernel
    have hI : mg "int" = none := T.f "int" (by decide)
    have hL : mg "len" = none := T.f "len" (by decide)
    have hA : mg "abs" = none := T.f "abs" (by decide)
    have hE : mg "enumerate" = none := T.f "enumerate" (by decide)
    refine ⟨_, PSs.nox (pss_cons (ps_set (i := 2) nd rfl (.inl rfl) (pe_ifExp (pt_cmpR op_lt (pv 1) (pe_callB call_len_seq rfl hL (by kernel_rfl) (pa_cons (pv 0) pa_nil)) (nomark _))
        (pe_callTy call_int1 rfl hI (by kernel_rfl) (pa_cons (pe_ix ix_list (pv 0) (pv 1) (fun _ _ => rfl)) pa_nil)) (pe_op op_add pe_int (pe_op op_mul pe_int (pv 1)))))
      (pss_cons (ps_set (i := 3) nd rfl (.inl rfl) (pe_op op_add pe_int (pe_op op_mul pe_int (pv 1))))
      (pss_cons (ps_for PassesOwn.never rfl (pi_enum rfl hE (pa_cons (pe_slice sl_list (pv 0) po_none (po_some pe_int)) pa_nil)) (pg_tup rfl (pgs_cons (pg_name (i := 4) nd rfl (.inl rfl)) (pgs_cons (pg_name (i := 5) nd rfl (.inl rfl)) pgs_nil)))
        (pss_one (ps_set (i := 3) nd rfl (.inl rfl) (pe_op op_mod (pe_callTy call_int1 rfl hI (by kernel_rfl) (pa_cons (pe_op op_add (pe_op op_add (pe_op op_mul (pe_op op_add (pv 3) (pe_op op_mod (pe_callTy call_int1 rfl hI (by kernel_rfl) (pa_cons (pv 5) pa_nil)) pe_int)) pe_int)
          (pe_op op_mul (pv 4) pe_int)) pe_int) pa_nil)) pe_int))))
      (pss_cons (ps_set (i := 3) nd rfl (.inl rfl) (pe_op op_mod (pe_callTy call_int1 rfl hI (by kernel_rfl) (pa_cons (pe_op op_add (pe_op op_mul (pv 3) pe_int) (pe_op op_mod (pv 2) pe_int)) pa_nil)) pe_int))
      (pss_one (ps_ret (pe_lst (pa_cons (pv 3) (pa_cons (pe_ifExp (PW.pt (pw_or (pt_cmpR op_lt (pv 2) pe_int (nomark _)) (pw_or1 (pt_cmpR op_ge (pv 2) (pe_op op_pow pe_int pe_int) (nomark _)))))
        (pe_op op_mod (pe_callTy call_int1 rfl hI (by kernel_rfl) (pa_cons (pe_callB call_abs rfl hA (by kernel_rfl) (pa_cons (pv 2) pa_nil)) pa_nil)) (pe_op op_pow pe_int pe_int)) pe_int) pa_nil))))))))), ?_⟩
    obtain ⟨a, ns, lap, rfl, hS, l0, l1, k⟩ := h
    refine ⟨_, rfl, _, rfl, a, _, rfl, .inl hS, lap, _, rfl, rfl, _, rfl, ?_⟩
    by_cases c : lap < ((ns.map V.int).length : Int)
    case pos =>
      obtain ⟨x, hx⟩ : ∃ x, ns[lap.toNat]? = some x := ⟨_, List.getElem?_eq_getElem (by rw [List.length_map] at c; omega)⟩
      have hat : atI (ns.map V.int) lap = some (.int x) := by
        unfold atI ixN
        rw [if_pos l0, if_pos c]
        show (ns.map V.int)[lap.toNat]? = _
        rw [List.getElem?_map, hx]
        rfl
      refine if_t (decide_eq_true c) ⟨_, rfl, _, rfl, a, _, _, _, rfl, rfl, hS, hat, .inl ⟨_, rfl, ?_⟩⟩
      clear hat hx
      refine ⟨_, rfl, _, _, rfl, rfl, .inl ⟨by decide, by decide⟩, _, _, rfl, rfl, ?_⟩
      refine ⟨_, rfl, 20, rfl, a, _, rfl, hS, fun p1 n1 => ⟨p1, _, rfl, SqL.of upd_same, ?_⟩⟩
      have k1 := ext_new (o := .lst (cutV (ns.map V.int) none (some 20))) n1
      have hc : ∃ ms : List Int, cutV (ns.map V.int) none (some 20) = ms.map V.int := ⟨_, (by unfold cutV; rw [← List.map_drop, ← List.map_take])⟩
      obtain ⟨ms, hms⟩ := hc
      have a1 : upd H p1 (.lst (cutV (ns.map V.int) none (some 20))) p1 = some (.lst (ms.map V.int)) := by rw [upd_same, hms]
      generalize upd H p1 (.lst (cutV (ns.map V.int) none (some 20))) = H1 at k1 a1 ⊢
      clear hms
      refine for_en (K := K) (a := p1) (xs := ms.map V.int) (fun i σ H' => ∃ (st : Int) (v4 v5 : Option V), σ = [some (.ref a), some (.int lap), some (.int x), some (.int st), v4, v5] ∧ 0 ≤ st ∧ st < 170141183460469231731687303715884105727 ∧ Ext H1 H')
        ⟨_, _, _, rfl, by omega, by omega, fun _ _ e => e⟩ (fun i σ H' h => ?_) (fun i y σ H' Tp hi h hT => ?_) (fun σ H' h => ?_)
      · obtain ⟨st, v4, v5, rfl, s0, s1, kk⟩ := h
        exact SqL.of (kk _ _ a1)
      · obtain ⟨st, v4, v5, rfl, s0, s1, kk⟩ := h
        obtain ⟨z, hz, rfl⟩ : ∃ z, ms[i]? = some z ∧ y = V.int z := by
          rw [List.getElem?_map] at hi
          obtain ⟨z, h1, h2⟩ := Option.map_eq_some_iff.mp hi
          exact ⟨z, h1, h2.symm⟩
        have k2 := Ext.trans kk (ext_new (o := .tup [.int (i : Nat), .int z]) hT)
        have s2 : st.natAbs < 2 ^ 127 := ring_small s0 s1
        have pz : (0 : Int) < 1000003 := by decide
        have i0 : -(2 ^ 64) < ((i : Nat) : Int) := by omega
        refine ⟨Tp, _, rfl, SqT.of upd_same, rfl, _, _, rfl, _, _, rfl, rfl, ?_⟩
        refine ⟨_, rfl, _, rfl, .inl ⟨_, rfl, _, _, rfl, rfl, pz, _, _, rfl, rfl, _, _, rfl, rfl, .inr ⟨by decide, by decide⟩, ?_⟩⟩
        refine ⟨_, rfl, _, _, rfl, rfl, .inr ⟨by decide, by decide⟩, _, _, rfl, rfl, _, _, rfl, rfl, .inl ⟨_, rfl, _, _, rfl, rfl, mM, ?_⟩⟩
        exact ⟨_, _, _, rfl, Int.emod_nonneg _ (by decide), Int.emod_lt_of_pos _ mM, k2⟩
      · obtain ⟨st, v4, v5, rfl, s0, s1, kk⟩ := h
        have pz : (0 : Int) < 1000003 := by decide
        refine ⟨_, rfl, _, _, rfl, rfl, .inr ⟨by decide, by decide⟩, _, rfl, _, _, rfl, rfl, pz, _, _, rfl, rfl, .inl ⟨_, rfl, _, _, rfl, rfl, mM, ?_⟩⟩
        have t0 : ∀ z : Int, 0 ≤ z % 170141183460469231731687303715884105727 := fun z => Int.emod_nonneg _ (by decide)
        have t1 : ∀ z : Int, z % 170141183460469231731687303715884105727 < 170141183460469231731687303715884105727 := fun z => Int.emod_lt_of_pos _ mM
        have d52 : (0 : Int) < 10 ^ 52 := by decide
        have fin : ∀ v : Int, 0 ≤ v → v < 10 ^ 52 → ∀ p, H' p = none → Q (.ref p) (upd H' p (.lst [.int ((st * 6700417 + x % 1000003) % 170141183460469231731687303715884105727), .int v])) := fun v v0 v1 p n => by
          refine k p _ _ _ (Ext.trans (Ext.trans k1 kk) (ext_new n)) ?_ upd_same ⟨t0 _, t1 _, v0, v1⟩
          rcases hp : H p with _ | o
          · rfl
          · rw [Ext.trans k1 kk _ _ hp] at n
            cases n
        have last : 0 ≤ (if x < 0 then -x else x) % (10:Int) ^ 52 ∧ (if x < 0 then -x else x) % (10:Int) ^ 52 < 10 ^ 52 := ⟨Int.emod_nonneg _ (by decide), Int.emod_lt_of_pos _ d52⟩
        refine ⟨_, rfl, _, rfl, x, 0, rfl, rfl, _, rfl, ?_⟩
        by_cases cc : x < 0
        · refine if_t (decide_eq_true cc) ?_
          exact ⟨_, rfl, _, rfl, .inl ⟨_, rfl, _, _, rfl, rfl, ⟨by decide, by decide, by decide⟩, _, _, rfl, rfl, d52, by show 2 ≤ sizeLine; decide, fun p n => fin _ last.1 last.2 p n⟩⟩
        · refine if_f (decide_eq_false cc) ⟨_, rfl, _, _, rfl, rfl, ⟨by decide, by decide, by decide⟩, _, _, rfl, rfl, _, rfl, ?_⟩
          by_cases c2 : (10 : Int) ^ 18 ≤ x
          · refine if_t (decide_eq_true c2) ?_
            exact ⟨_, rfl, _, rfl, .inl ⟨_, rfl, _, _, rfl, rfl, ⟨by decide, by decide, by decide⟩, _, _, rfl, rfl, d52, by show 2 ≤ sizeLine; decide, fun p n => fin _ last.1 last.2 p n⟩⟩
          · refine if_f (decide_eq_false c2) ?_
            exact ⟨by show 2 ≤ sizeLine; decide, fun p n => fin 0 (by decide) d52 p n⟩
    case neg =>
      refine if_f (decide_eq_false c) ⟨_, rfl, _, _, rfl, rfl, .inl ⟨by decide, by decide⟩, _, _, rfl, rfl, ?_⟩
      refine ⟨_, rfl, _, _, rfl, rfl, .inl ⟨by decide, by decide⟩, _, _, rfl, rfl, ?_⟩
      refine ⟨_, rfl, 20, rfl, a, _, rfl, hS, fun p1 n1 => ⟨p1, _, rfl, SqL.of upd_same, ?_⟩⟩
      have k1 := ext_new (o := .lst (cutV (ns.map V.int) none (some 20))) n1
      have hc : ∃ ms : List Int, cutV (ns.map V.int) none (some 20) = ms.map V.int := ⟨_, (by unfold cutV; rw [← List.map_drop, ← List.map_take])⟩
      obtain ⟨ms, hms⟩ := hc
      have a1 : upd H p1 (.lst (cutV (ns.map V.int) none (some 20))) p1 = some (.lst (ms.map V.int)) := by rw [upd_same, hms]
      generalize upd H p1 (.lst (cutV (ns.map V.int) none (some 20))) = H1 at k1 a1 ⊢
      clear hms
      refine for_en (K := K) (a := p1) (xs := ms.map V.int) (fun i σ H' => ∃ (st : Int) (v4 v5 : Option V), σ = [some (.ref a), some (.int lap), some (.int (848 + 17 * lap)), some (.int st), v4, v5] ∧ 0 ≤ st ∧ st < 170141183460469231731687303715884105727 ∧ Ext H1 H')
        ⟨_, _, _, rfl, by omega, by omega, fun _ _ e => e⟩ (fun i σ H' h => ?_) (fun i y σ H' Tp hi h hT => ?_) (fun σ H' h => ?_)
      · obtain ⟨st, v4, v5, rfl, s0, s1, kk⟩ := h
        exact SqL.of (kk _ _ a1)
      · obtain ⟨st, v4, v5, rfl, s0, s1, kk⟩ := h
        obtain ⟨z, hz, rfl⟩ : ∃ z, ms[i]? = some z ∧ y = V.int z := by
          rw [List.getElem?_map] at hi
          obtain ⟨z, h1, h2⟩ := Option.map_eq_some_iff.mp hi
          exact ⟨z, h1, h2.symm⟩
        have k2 := Ext.trans kk (ext_new (o := .tup [.int (i : Nat), .int z]) hT)
        have s2 : st.natAbs < 2 ^ 127 := ring_small s0 s1
        have pz : (0 : Int) < 1000003 := by decide
        have i0 : -(2 ^ 64) < ((i : Nat) : Int) := by omega
        refine ⟨Tp, _, rfl, SqT.of upd_same, rfl, _, _, rfl, _, _, rfl, rfl, ?_⟩
        refine ⟨_, rfl, _, rfl, .inl ⟨_, rfl, _, _, rfl, rfl, pz, _, _, rfl, rfl, _, _, rfl, rfl, .inr ⟨by decide, by decide⟩, ?_⟩⟩
        refine ⟨_, rfl, _, _, rfl, rfl, .inr ⟨by decide, by decide⟩, _, _, rfl, rfl, _, _, rfl, rfl, .inl ⟨_, rfl, _, _, rfl, rfl, mM, ?_⟩⟩
        exact ⟨_, _, _, rfl, Int.emod_nonneg _ (by decide), Int.emod_lt_of_pos _ mM, k2⟩
      · obtain ⟨st, v4, v5, rfl, s0, s1, kk⟩ := h
        have pz : (0 : Int) < 1000003 := by decide
        refine ⟨_, rfl, _, _, rfl, rfl, .inr ⟨by decide, by decide⟩, _, rfl, _, _, rfl, rfl, pz, _, _, rfl, rfl, .inl ⟨_, rfl, _, _, rfl, rfl, mM, ?_⟩⟩
        have t0 : ∀ z : Int, 0 ≤ z % 170141183460469231731687303715884105727 := fun z => Int.emod_nonneg _ (by decide)
        have t1 : ∀ z : Int, z % 170141183460469231731687303715884105727 < 170141183460469231731687303715884105727 := fun z => Int.emod_lt_of_pos _ mM
        have d52 : (0 : Int) < 10 ^ 52 := by decide
        have fin : ∀ v : Int, 0 ≤ v → v < 10 ^ 52 → ∀ p, H' p = none → Q (.ref p) (upd H' p (.lst [.int ((st * 6700417 + (848 + 17 * lap) % 1000003) % 170141183460469231731687303715884105727), .int v])) := fun v v0 v1 p n => by
          refine k p _ _ _ (Ext.trans (Ext.trans k1 kk) (ext_new n)) ?_ upd_same ⟨t0 _, t1 _, v0, v1⟩
          rcases hp : H p with _ | o
          · rfl
          · rw [Ext.trans k1 kk _ _ hp] at n
            cases n
        have last : 0 ≤ (if (848 + 17 * lap) < 0 then -(848 + 17 * lap) else (848 + 17 * lap)) % (10:Int) ^ 52 ∧ (if (848 + 17 * lap) < 0 then -(848 + 17 * lap) else (848 + 17 * lap)) % (10:Int) ^ 52 < 10 ^ 52 := ⟨Int.emod_nonneg _ (by decide), Int.emod_lt_of_pos _ d52⟩
        refine ⟨_, rfl, _, rfl, (848 + 17 * lap), 0, rfl, rfl, _, rfl, ?_⟩
        by_cases cc : (848 + 17 * lap) < 0
        · refine if_t (decide_eq_true cc) ?_
          exact ⟨_, rfl, _, rfl, .inl ⟨_, rfl, _, _, rfl, rfl, ⟨by decide, by decide, by decide⟩, _, _, rfl, rfl, d52, by show 2 ≤ sizeLine; decide, fun p n => fin _ last.1 last.2 p n⟩⟩
        · refine if_f (decide_eq_false cc) ⟨_, rfl, _, _, rfl, rfl, ⟨by decide, by decide, by decide⟩, _, _, rfl, rfl, _, rfl, ?_⟩
          by_cases c2 : (10 : Int) ^ 18 ≤ (848 + 17 * lap)
          · refine if_t (decide_eq_true c2) ?_
            exact ⟨_, rfl, _, rfl, .inl ⟨_, rfl, _, _, rfl, rfl, ⟨by decide, by decide, by decide⟩, _, _, rfl, rfl, d52, by show 2 ≤ sizeLine; decide, fun p n => fin _ last.1 last.2 p n⟩⟩
          · refine if_f (decide_eq_false c2) ?_
            exact ⟨by show 2 ≤ sizeLine; decide, fun p n => fin 0 (by decide) d52 p n⟩
end
end K1

/-! Kk: a bell's errors are right. -/
namespace K1
open PySem PySem.Spec PyProof.Rows L2 L2H Er
theorem no_out {X : Cx} : L2N.Takes X (fun _ _ _ _ => False) := fun _ _ x => by
  obtain ⟨_, _, _, _, _, _, _, _, _, _, _, _, _, _, _, _, z⟩ := x
  exact z.elim
theorem pss_oe {X : Cx} {ss : List Stmt} {cls : Value} {d : Option Addr} {oe : Obj} {t : Obj → TS} (hz : L2N.Zn cls d oe) (hd : ∃ vs, oe.data = .fields vs) (h : PSs X ss (t oe)) :
    PSs X ss (fun D σ H => ∀ oe : Obj, L2N.Zn cls d oe → (∃ vs, oe.data = .fields vs) → t oe D σ H) := ⟨fun pins s σ H D I q => h.run pins s σ H D I (q oe hz hd)⟩
theorem wm_in {X : Cx} {a : Addr} {oe : Obj} {pn : List (Addr × Obj)} {cls : Value} {d : Option Addr} (hz : L2N.Zn cls d oe) (hd : ∃ vs, oe.data = .fields vs) {pins : List (Addr × Obj)} {σ : L2.St} {H : Hp} {s : Shared} (I : Inv (X.suite a ((a, oe) :: pn)) pins σ H s) :
    Wm (X.suite a ((a, oe) :: pn)).A (X.suite a ((a, oe) :: pn)).stack H s [(a, oe)] := by
  obtain ⟨vs, e⟩ := hd
  exact wm_suite e (hz.2.2 vs e) I
theorem dc_none {H : Hp} : DcOk H none := fun _ e => nomatch e
theorem in0 : PyData.none ∈ things := List.mem_append_left _ (.head _)
theorem in5 : PyData.int 5 ∈ things := List.mem_append_left _ (.tail _ (.tail _ (.tail _ (.tail _ (.tail _ (.tail _ (.tail _ (.tail _ (.tail _ (.head _))))))))))
theorem in12 : PyData.tuple [.int 1, .int 2] ∈ things := List.mem_append_left _ (.tail _ (.tail _ (.tail _ (.tail _ (.tail _ (.tail _ (.tail _ (.tail _ (.tail _ (.tail _ (.head _)))))))))))
theorem dat12 {H : Hp} {p : Addr} (h : H p = some (.tup [.int 1, .int 2])) : datV H 6 (.ref p) = some (.tuple [.int 1, .int 2]) := by
  unfold datV
  rw [h]
  rfl
/-- but the bell's, all stands -/
def Kp (b : Addr) (H H' : Hp) : Prop := ∀ c o, c ≠ b → H c = some o → H' c = some o
theorem Kp.ext {b : Addr} {H H1 H2 : Hp} (a : Kp b H H1) (k : Ext H1 H2) : Kp b H H2 := fun c o e h => k c o (a c o e h)
theorem Kp.trans {b : Addr} {H H1 H2 : Hp} (a : Kp b H H1) (k : Kp b H1 H2) : Kp b H H2 := fun c o e h => k c o e (a c o e h)
theorem Kp.del {b : Addr} {H H' : Hp} (k : Kp b H H') : ∀ c o, del H b c = some o → del H' b c = some o := fun c o e => by
  by_cases hc : c = b
  · rw [hc] at e
    unfold L2.del at e
    rw [if_pos rfl] at e
    cases e
  · rw [del_ne hc] at e ⊢
    exact k c o hc e
theorem del_ext {b : Addr} {H : Hp} : ∀ c o, del H b c = some o → H c = some o := fun c o e => by
  by_cases hc : c = b
  · rw [hc] at e
    unfold L2.del at e
    rw [if_pos rfl] at e
    cases e
  · rwa [del_ne hc] at e
section
variable {P : Program} {w : World} {K : PySem.W.Frag} {mg : Str → Option Value} {base : Heap}
theorem rh_mark {k : Nat} {A : Around} (r : Room k A) (h : Option Value) : RoomH k (A.mark h) := ⟨r.dp, r.un⟩
def spAll : SpW := fun l vs H Q => l = [] ∧ ∃ (b : Addr) (s t : Int), vs = [.ref b] ∧ H b = some (.lst [.int s, .int t]) ∧ BellOk s t ∧ ∀ H', Kp b H H' → Q (.bl true) H'
set_option maxHeartbeats 4000000 in
theorem ok_all (T : Tx K mg) : OkW P w K mg base 6 "_law_right" ["bell"] spAll := by
  refine okw (q := (89, "_law_right")) (N := ["bell", "turn", "way", "thing", "more", "e"]) (k := 5) T (by decide) ⟨rfl, rfl, rfl, by decide +kernel, rfl, by decide +kernel, by decide +kernel⟩ (fun _ _ _ _ _ _ us hl => match us, hl with | [_], _ => rfl) (fun l vs H Q h => ?_) (fun cdv A outer s0 H vs Q l hr kn h => ?_)
  · obtain ⟨_, b, s, t, rfl, _⟩ := h
    rfl
  · obtain ⟨rfl, b, s, t, rfl, hb, ok, k⟩ := h
    have nd : (["bell", "turn", "way", "thing", "more", "e"] : List Str).Nodup := by decide +kernel
    have hR : mg "range" = none := T.f "range" (by decide)
    have hIs : mg "isinstance" = none := T.f "isinstance" (by decide)
    have hVE : mg "ValueError" = none := T.f "ValueError" (by decide)
    have hh : (A.deeper (envOfC (89, Str.ofString "_law_right").2 (defScope (top (89, Str.ofString "_law_right").1)) s0.heap.objs.size (ga K (89, Str.ofString "_law_right").2) cdv)).handled = none := by
      rcases kn.warm with ⟨h, _⟩ | ⟨p, h, _⟩
      · exact h
      · cases h
    have rr : Room 5 (A.deeper (envOfC (89, Str.ofString "_law_right").2 (defScope (top (89, Str.ofString "_law_right").1)) s0.heap.objs.size (ga K (89, Str.ofString "_law_right").2) cdv)) := ⟨hh, hr.dp, hr.un⟩
    have hu := rl rr
    have hp : ∀ q ∈ ([] : List (Addr × Obj)), q ∈ (cxW P w K mg base ["bell", "turn", "way", "thing", "more", "e"] "_law_right" (defScope (top 89)) (ga K "_law_right") cdv A outer s0 H (calmOf []) []).pn := fun q hq => hq
    refine ⟨_, pss_cons (ps_for PassesOwn.never rfl (pi_range1 rfl hR (pa_cons pe_int pa_nil)) (pg_name (i := 1) nd rfl (.inl rfl))
      (pss_one (ps_for PassesOwn.never rfl (pi_range1 rfl hR (pa_cons pe_int pa_nil)) (pg_name (i := 2) nd rfl (.inl rfl))
        (pss_cons (ps_par (i := 3) (j := 4) rfl nd rfl rfl (by decide) rfl rfl (pa_cons (pe_c (ok_thing T) (rr.mono (by decide)) rfl (pa_cons (pv 0) pa_nil)) (pa_cons (pe_c (ok_thing T) (rr.mono (by decide)) rfl (pa_cons (pv 0) pa_nil)) pa_nil)) (by rfl))
        (pss_cons (ps_if (PW.pt (pw_or (pt_not (pt_val (pe_cW (ok_right T) (hr.mono (by decide)) kn.guards kn.wm rfl (pa_cons (pe_c (ok_by_place T) (rr.mono (by decide)) rfl (pa_cons (pv 2) (pa_cons (pv 3) (pa_cons (pv 4) pa_nil)))) (pa_cons (pv 2) (pa_cons (pv 3) (pa_cons (pv 4) pa_nil)))))))
            (pw_or1 (pt_not (pt_val (pe_cW (ok_right T) (hr.mono (by decide)) kn.guards kn.wm rfl (pa_cons (pe_c (ok_by_name T) (rr.mono (by decide)) rfl (pa_cons (pv 2) (pa_cons (pv 3) (pa_cons (pv 4) pa_nil)))) (pa_cons (pv 2) (pa_cons (pv 3) (pa_cons (pv 4) pa_nil)))))))))) (pss_one (ps_ret pe_bl)) pss_nil)
        (pss_cons (L2N.ps_try_as (i := 5) rfl rfl nd rfl rfl ⟨rfl, by decide, .inl (T.g "PowerError" (by decide))⟩ no_out (fun W pn xe tk po => pss_cons (ps_expr (pe_cS (ok_raised T) (rr.mono (by decide)) rfl (fun σ => L2N.passAt tk σ) (pa_cons (pv 2) (pa_cons (pv 3) (pa_cons (pv 4) pa_nil))))) (pss_one (ps_ret pe_bl)))
            (fun a oe cls d pn hz hdd => pss_oe hz hdd (pss_one (ps_if (pt_not (pt_val (pe_cW (l := [(a, oe)]) (ok_right T) (rh_mark (rr.mono (show 3 ≤ 5 by decide)) _) kn.guards (wm_in hz hdd) rfl (pa_cons (pv 5) (pa_cons (pv 2) (pa_cons (pv 3) (pa_cons (pv 4) pa_nil))))))) (pss_one (ps_ret pe_bl)) pss_nil))))
        (pss_one (ps_if (pt_not (pt_val (pe_c (ok_later T) (rr.mono (by decide)) rfl (pa_cons (pv 2) pa_nil)))) (pss_one (ps_ret pe_bl)) pss_nil))))))))
      (pss_cons (ps_for PassesOwn.never rfl (pi_tup (pe_tup (pa_cons (pe_tup (pa_cons pe_int (pa_cons pe_int (pa_cons pe_non pa_nil)))) (pa_cons (pe_tup (pa_cons pe_int (pa_cons pe_non (pa_cons pe_non pa_nil)))) (pa_cons (pe_tup (pa_cons pe_int (pa_cons (pe_tup (pa_cons pe_int (pa_cons pe_int pa_nil))) (pa_cons pe_non pa_nil)))) pa_nil)))))
        (pg_tup rfl (pgs_cons (pg_name (i := 2) nd rfl (.inl rfl)) (pgs_cons (pg_name (i := 3) nd rfl (.inl rfl)) (pgs_cons (pg_name (i := 4) nd rfl (.inl rfl)) pgs_nil))))
        (pss_cons (L2N.ps_try_as (i := 5) rfl rfl nd rfl rfl ⟨rfl, by decide, .inl (T.g "PowerError" (by decide))⟩ no_out (fun W pn xe tk po => pss_cons (ps_if (pt_cmpR op_eq (pv 2) pe_int (nomark _)) (pss_one (ps_expr (pe_cS (ok_text_of T) (rr.mono (by decide)) rfl (fun σ => L2N.passAt tk σ) (pa_cons pe_int pa_nil))))
              (pss_one (ps_if (pt_cmpR op_eq (pv 2) pe_int (nomark _)) (pss_one (ps_expr (pe_cS (ok_read T) (rr.mono (by decide)) rfl (fun σ => L2N.passAt tk σ) (pa_cons pe_int pa_nil))))
                (pss_one (ps_expr (pe_cS (ok_rank T) (rr.mono (by decide)) rfl (fun σ => L2N.passAt tk σ) (pa_cons (pe_tup (pa_cons pe_int (pa_cons pe_int pa_nil))) pa_nil))))))) (pss_one (ps_ret pe_bl)))
            (fun a oe cls d pn hz hdd => pss_oe hz hdd (pss_one (ps_if (pt_not (pt_val (pe_cW (l := [(a, oe)]) (ok_right T) (rh_mark (rr.mono (show 3 ≤ 5 by decide)) _) kn.guards (wm_in hz hdd) rfl (pa_cons (pv 5) (pa_cons (pv 2) (pa_cons (pv 3) (pa_cons (pv 4) pa_nil))))))) (pss_one (ps_ret pe_bl)) pss_nil)))) pss_nil))
      (pss_one (ps_ret (pe_and (pe_cmpR (op_same hu) (pe_cW (ok_kinds T) (hr.mono (by decide)) kn.guards kn.wm rfl (pa_cons (pe_C0 T (by decide) (by decide) rfl) pa_nil)) (pe_lst pa_nil) (nomark _))
        (pe_one (pe_callB (call_isX hp) rfl hIs (by kernel_rfl) (pa_cons (pe_C0 T (by decide) (by decide) rfl) (pa_cons (pe_bltn (v := .ty "ValueError") rfl hVE (by kernel_rfl) rfl) pa_nil)))))))), ?_⟩
    refine ⟨4, rfl, by decide, by decide, ?_⟩
    refine for_range (lo := 0) (n := 4) (fun i σ H' => ∃ (v1 v2 v3 v4 v5 : Option V) (s t : Int), σ = [some (.ref b), v1, v2, v3, v4, v5] ∧ H' b = some (.lst [.int s, .int t]) ∧ BellOk s t ∧ Kp b H H') ⟨_, _, _, _, _, s, t, rfl, hb, ok, fun _ _ _ e => e⟩ (fun i σ H1 _ h1 => ?_) (fun σ H1 h1 => ?_)
    · obtain ⟨v1, v2, v3, v4, v5, s1, t1, rfl, hb1, ok1, kp1⟩ := h1
      refine ⟨15, rfl, by decide, by decide, ?_⟩
      refine for_range (lo := 0) (n := 15) (fun i σ H' => ∃ (v1 v2 v3 v4 v5 : Option V) (s t : Int), σ = [some (.ref b), v1, v2, v3, v4, v5] ∧ H' b = some (.lst [.int s, .int t]) ∧ BellOk s t ∧ Kp b H H') ⟨_, _, _, _, _, s1, t1, rfl, hb1, ok1, kp1⟩ (fun n σ H2 hn h2 => ?_) (fun σ H2 h2 => h2)
      obtain ⟨v1, v2, v3, v4, v5, s2, t2, rfl, hb2, ok2, kp2⟩ := h2
      rw [Int.zero_add]
      refine ⟨_, rfl, b, s2, t2, rfl, hb2, ok2, fun H3 s3 t3 x dx ok3 hb3 kp3 hx ex => ?_⟩
      refine ⟨_, rfl, b, s3, t3, rfl, hb3, ok3, fun H4 s4 t4 y dy ok4 hb4 kp4 hy ey => ?_⟩
      have sx : Sim K H4 x x := sim_self hx (datV_mono 6 del_ext (datV_mono 6 (Kp.del kp4) ex))
      have sy : Sim K H4 y y := sim_self hy (datV_mono 6 del_ext ey)
      have kp : Kp b H H4 := (kp2.trans kp3).trans kp4
      refine ⟨x, y, rfl, ?_⟩
      refine ⟨_, rfl, _, rfl, _, rfl, n, x, y, rfl, hn, fun a H5 k5 m5 => ⟨_, rfl, _, rfl, _, rfl, a, n, x, y, x, y, rfl, hn, m5, Sim.ext k5 sx, Sim.ext k5 sy, fun H6 k6 => ⟨_, rfl, ?_⟩⟩⟩
      refine if_f rfl ?_
      have k56 := Ext.trans k5 k6
      refine ⟨_, rfl, _, rfl, _, rfl, n, x, y, rfl, hn, fun a2 H7 k7 m7 => ⟨_, rfl, _, rfl, _, rfl, a2, n, x, y, x, y, rfl, hn, m7, Sim.ext (Ext.trans k56 k7) sx, Sim.ext (Ext.trans k56 k7) sy, fun H8 k8 => ⟨_, rfl, ?_⟩⟩⟩
      refine if_f rfl ?_
      have k58 := Ext.trans k56 (Ext.trans k7 k8)
      refine ⟨_, rfl, _, rfl, _, rfl, n, x, y, rfl, hn, fun d H9 k9 hd => ⟨true, T.em _ (wn_mem hn), fun _ a3 na3 oe hz hdd => ?_, fun e => nomatch e⟩⟩
      have k59 := Ext.trans k58 k9
      have made : Made K [(a3, oe)] H9 a3 n x y := ⟨d, .inl ⟨oe, List.mem_singleton.mpr rfl, hz.1, hz.2.1, hdd⟩, hd.imp (fun ⟨h, dd, e, f⟩ => ⟨h, dd, e, .inl f⟩) (fun h => h.imp (fun ⟨h, dd, e, f⟩ => ⟨h, dd, e, .inl f⟩) id)⟩
      refine ⟨_, rfl, _, rfl, _, rfl, _, rfl, a3, n, x, y, x, y, rfl, hn, made, Sim.ext k59 sx, Sim.ext k59 sy, fun HA kA => ⟨_, rfl, ?_⟩⟩
      refine if_f rfl ?_
      have k5A := Ext.trans k59 kA
      refine ⟨_, rfl, n, rfl, hn, fun HB kB => ⟨_, rfl, ?_⟩⟩
      refine if_f rfl ?_
      have k5B := Ext.trans k5A kB
      exact ⟨_, _, _, _, _, s4, t4, rfl, k5B _ _ hb4, ok4, kp.ext k5B⟩
    · obtain ⟨v1, v2, v3, v4, v5, s1, t1, rfl, hb1, ok1, kp1⟩ := h1
      clear hb1
      refine ⟨by show 3 ≤ sizeLine; decide, fun p1 n1 => ⟨by show 3 ≤ sizeLine; decide, fun p2 n2 => ⟨by show 2 ≤ sizeLine; decide, fun p3 n3 => ⟨by show 3 ≤ sizeLine; decide, fun p4 n4 => ⟨by show 3 ≤ sizeLine; decide, fun p5 n5 => ?_⟩⟩⟩⟩⟩
      have kp2 := (kp1.ext (ext_new (o := .tup [.int 0, .int 5, .non]) n1))
      have a1 : upd H1 p1 (.tup [.int 0, .int 5, .non]) p1 = some (.tup [.int 0, .int 5, .non]) := upd_same
      generalize upd H1 p1 (.tup [.int 0, .int 5, .non]) = H2 at n2 n3 n4 n5 a1 kp2 ⊢
      have kp3 := (kp2.ext (ext_new (o := .tup [.int 12, .non, .non]) n2))
      replace a1 := ext_new (o := .tup [.int 12, .non, .non]) n2 _ _ a1
      have a2 : upd H2 p2 (.tup [.int 12, .non, .non]) p2 = some (.tup [.int 12, .non, .non]) := upd_same
      generalize upd H2 p2 (.tup [.int 12, .non, .non]) = H3 at n3 n4 n5 a1 a2 kp3 ⊢
      have kp4 := (kp3.ext (ext_new (o := .tup [.int 1, .int 2]) n3))
      replace a1 := ext_new (o := .tup [.int 1, .int 2]) n3 _ _ a1
      replace a2 := ext_new (o := .tup [.int 1, .int 2]) n3 _ _ a2
      have a3 : upd H3 p3 (.tup [.int 1, .int 2]) p3 = some (.tup [.int 1, .int 2]) := upd_same
      generalize upd H3 p3 (.tup [.int 1, .int 2]) = H4 at n4 n5 a1 a2 a3 kp4 ⊢
      have kp5 := (kp4.ext (ext_new (o := .tup [.int 4, .ref p3, .non]) n4))
      replace a1 := ext_new (o := .tup [.int 4, .ref p3, .non]) n4 _ _ a1
      replace a2 := ext_new (o := .tup [.int 4, .ref p3, .non]) n4 _ _ a2
      replace a3 := ext_new (o := .tup [.int 4, .ref p3, .non]) n4 _ _ a3
      have a4 : upd H4 p4 (.tup [.int 4, .ref p3, .non]) p4 = some (.tup [.int 4, .ref p3, .non]) := upd_same
      generalize upd H4 p4 (.tup [.int 4, .ref p3, .non]) = H5 at n5 a1 a2 a3 a4 kp5 ⊢
      have kp6 := (kp5.ext (ext_new (o := .tup [.ref p1, .ref p2, .ref p4]) n5))
      replace a1 := ext_new (o := .tup [.ref p1, .ref p2, .ref p4]) n5 _ _ a1
      replace a2 := ext_new (o := .tup [.ref p1, .ref p2, .ref p4]) n5 _ _ a2
      replace a3 := ext_new (o := .tup [.ref p1, .ref p2, .ref p4]) n5 _ _ a3
      replace a4 := ext_new (o := .tup [.ref p1, .ref p2, .ref p4]) n5 _ _ a4
      have a5 : upd H5 p5 (.tup [.ref p1, .ref p2, .ref p4]) p5 = some (.tup [.ref p1, .ref p2, .ref p4]) := upd_same
      refine ⟨p5, rfl, ⟨_, SqT.of a5⟩, ?_⟩
      generalize upd H5 p5 (.tup [.ref p1, .ref p2, .ref p4]) = H6 at a1 a2 a3 a4 a5 kp6 ⊢
      clear kp1 kp2 kp3 kp4 kp5 n1 n2 n3 n4 n5
      refine for_tup (K := K) (a := p5) (xs := [.ref p1, .ref p2, .ref p4]) (fun i σ H' => ∃ (v1 v2 v3 v4 v5 : Option V), σ = [some (.ref b), v1, v2, v3, v4, v5] ∧ Ext H6 H') ⟨_, _, _, _, _, rfl, fun _ _ e => e⟩ (fun i σ H' _ h => ?_) (fun i v σ H' hi h => ?_) (fun σ H' h => ?_)
      · obtain ⟨_, _, _, _, _, _, kk⟩ := h
        exact SqT.of (kk _ _ a5)
      · obtain ⟨v1, v2, v3, v4, v5, rfl, kk⟩ := h
        have hc : (i = 0 ∧ v = .ref p1) ∨ (i = 1 ∧ v = .ref p2) ∨ (i = 2 ∧ v = .ref p4) := by
          rcases i with _ | _ | _ | i
          · cases hi; exact .inl ⟨rfl, rfl⟩
          · cases hi; exact .inr (.inl ⟨rfl, rfl⟩)
          · cases hi; exact .inr (.inr ⟨rfl, rfl⟩)
          · cases hi
        clear hi
        rcases hc with ⟨rfl, rfl⟩ | ⟨rfl, rfl⟩ | ⟨rfl, rfl⟩
        · refine ⟨p1, _, rfl, SqT.of (kk _ _ a1), rfl, _, _, rfl, _, _, rfl, _, _, rfl, rfl, ?_⟩
          refine ⟨_, rfl, rfl, _, rfl, ?_⟩
          refine if_t (by decide) ?_
          refine ⟨rfl, fun d H7 k7 hd => ⟨true, T.em (wn 0) (wn_mem (by decide)), fun _ a na oe hz hdd => ?_, fun e => nomatch e⟩⟩
          have made : Made K [(a, oe)] H7 a 0 (.int 5) .non := ⟨some d, .inl ⟨oe, List.mem_singleton.mpr rfl, hz.1, hz.2.1, hdd⟩, .inl ⟨by decide, d, rfl, .inl hd⟩⟩
          exact ⟨_, rfl, _, rfl, _, rfl, _, rfl, a, 0, .int 5, .non, .int 5, .non, rfl, by decide, made, sim_self in5 rfl, sim_self in0 rfl, fun H8 k8 => ⟨_, rfl, if_f rfl ⟨_, _, _, _, _, rfl, Ext.trans kk (Ext.trans k7 k8)⟩⟩⟩
        · refine ⟨p2, _, rfl, SqT.of (kk _ _ a2), rfl, _, _, rfl, _, _, rfl, _, _, rfl, rfl, ?_⟩
          refine ⟨_, rfl, rfl, _, rfl, ?_⟩
          refine if_f (by decide) ?_
          refine ⟨_, rfl, rfl, _, rfl, ?_⟩
          refine if_t (by decide) ?_
          refine ⟨rfl, fun d H7 k7 hd => ⟨true, T.em (wn 12) (wn_mem (by decide)), fun _ a na oe hz hdd => ?_, fun e => nomatch e⟩⟩
          have made : Made K [(a, oe)] H7 a 12 .non .non := ⟨some d, .inl ⟨oe, List.mem_singleton.mpr rfl, hz.1, hz.2.1, hdd⟩, .inr (.inl ⟨rfl, d, rfl, .inl hd⟩)⟩
          exact ⟨_, rfl, _, rfl, _, rfl, _, rfl, a, 12, .non, .non, .non, .non, rfl, by decide, made, sim_self in0 rfl, sim_self in0 rfl, fun H8 k8 => ⟨_, rfl, if_f rfl ⟨_, _, _, _, _, rfl, Ext.trans kk (Ext.trans k7 k8)⟩⟩⟩
        · refine ⟨p4, _, rfl, SqT.of (kk _ _ a4), rfl, _, _, rfl, _, _, rfl, _, _, rfl, rfl, ?_⟩
          refine ⟨_, rfl, rfl, _, rfl, ?_⟩
          refine if_f (by decide) ?_
          refine ⟨_, rfl, rfl, _, rfl, ?_⟩
          refine if_f (by decide) ?_
          refine ⟨by show 2 ≤ sizeLine; decide, fun p n => ⟨p, rfl, upd_same, fun d H7 k7 hd => ⟨true, T.em (wn 4) (wn_mem (by decide)), fun _ a na oe hz hdd => ?_, fun e => nomatch e⟩⟩⟩
          have kn2 := Ext.trans (ext_new (o := .tup [.int 1, .int 2]) n) k7
          have b1 := k7 _ _ (show upd H' p (.tup [.int 1, .int 2]) p = some (.tup [.int 1, .int 2]) from upd_same)
          have b2 := kn2 _ _ (kk _ _ a3)
          have made : Made K [(a, oe)] H7 a 4 (.ref p) .non := ⟨some d, .inl ⟨oe, List.mem_singleton.mpr rfl, hz.1, hz.2.1, hdd⟩, .inl ⟨by decide, d, rfl, .inl hd⟩⟩
          have sm : Sim K H7 (.ref p) (.ref p3) := ⟨.inr (.inr ⟨p, p3, _, _, rfl, rfl, b1, b2, .cons (.inl ⟨rfl, rfl⟩) (.cons (.inl ⟨rfl, rfl⟩) .nil)⟩), .tuple [.int 1, .int 2], in12, dat12 b1, dat12 b2⟩
          exact ⟨_, rfl, _, rfl, _, rfl, _, rfl, a, 4, .ref p, .non, .ref p3, .non, rfl, by decide, made, sm, sim_self in0 rfl, fun H8 k8 => ⟨_, rfl, if_f rfl ⟨_, _, _, _, _, rfl, Ext.trans kk (Ext.trans kn2 k8)⟩⟩⟩
      · obtain ⟨v1, v2, v3, v4, v5, rfl, kk⟩ := h
        have kpF : Kp b H H' := kp6.ext kk
        clear a1 a2 a3 a4 a5
        refine fun a na => ⟨a, "PowerError", none, rfl, by decide, err_ExO upd_same, dc_none, fun D H7 k7 hD => ?_⟩
        rw [kinds_pw] at hD
        refine ⟨by show 0 ≤ sizeLine; decide, fun p n => ⟨0, D, p, _, _, by decide, rfl, rfl, SqL.of (ext_new n _ _ hD), SqL.of upd_same, .nil, true, rfl, if_t rfl ?_⟩⟩
        have kq := kpF.ext (Ext.trans (Ext.trans (ext_new na) k7) (ext_new (o := .lst []) n))
        exact fun a8 n8 => ⟨a8, ga K "PowerError", none, .ty "ValueError", .type "ValueError", true, rfl, T.ex _ (by decide), err_ExO upd_same, dc_none, fun u r => r, T.kv _ (by decide), k _ (kq.ext (ext_new n8))⟩
end
end K1

/-! Kl: the law. -/
namespace K1
open PySem PySem.Spec PyProof.Rows L2 L2H Er
theorem rep_in : ∀ n : Nat, inV (.bl false) (List.replicate n (V.bl true)) = false
  | 0 => rfl
  | n + 1 => by
    have := rep_in n
    unfold inV at this ⊢
    rw [List.replicate_succ, List.any_cons, this]
    rfl
theorem rep_flat (n : Nat) : (List.replicate n (V.bl true)).all flatV = true := by
  rw [List.all_eq_true]
  intro x hx
  rw [List.eq_of_mem_replicate hx]
  rfl
section
variable {P : Program} {w : World} {K : PySem.W.Frag} {mg : Str → Option Value} {base : Heap}
def spLaw (K : PySem.W.Frag) : SpW := fun l vs H Q => l = [] ∧ ∃ (a : Addr) (ns : List Int), vs = [.ref a] ∧ SqL K H a (ns.map V.int) ∧ ns.length ≤ 1000000 ∧ ∀ H', Q (.bl true) H'
theorem ok_law (T : Tx K mg) : OkW P w K mg base 7 "law" ["script"] (spLaw K) := by
  refine okw (q := (90, "law")) (N := ["script", "lap"]) (k := 6) T (by decide) ⟨rfl, rfl, rfl, by decide +kernel, rfl, by decide +kernel, by decide +kernel⟩ (fun _ _ _ _ _ _ us hl => match us, hl with | [_], _ => rfl) (fun l vs H Q h => ?_) (fun cdv A outer s0 H vs Q l hr kn h => ?_)
  · obtain ⟨_, a, ns, rfl, _⟩ := h
    rfl
  · obtain ⟨rfl, a, ns, rfl, hS, hL, k⟩ := h
    have nd : (["script", "lap"] : List Str).Nodup := by decide +kernel
    have hR : mg "range" = none := T.f "range" (by decide)
    have hLn : mg "len" = none := T.f "len" (by decide)
    have hMx : mg "max" = none := T.f "max" (by decide)
    have hMn : mg "min" = none := T.f "min" (by decide)
    have hh : (A.deeper (envOfC (90, Str.ofString "law").2 (defScope (top (90, Str.ofString "law").1)) s0.heap.objs.size (ga K (90, Str.ofString "law").2) cdv)).handled = none := by
      rcases kn.warm with ⟨h, _⟩ | ⟨p, h, _⟩
      · exact h
      · cases h
    have rr : Room 6 (A.deeper (envOfC (90, Str.ofString "law").2 (defScope (top (90, Str.ofString "law").1)) s0.heap.objs.size (ga K (90, Str.ofString "law").2) cdv)) := ⟨hh, hr.dp, hr.un⟩
    refine ⟨_, pss_one (ps_ret (pe_cmpR op_notIn_seq pe_bl (pe_lc (own := [("lap", 1)]) (g := gName 1) (tt := tYes) rfl nd (pi_range1 rfl hR (pa_cons (pe_callB (call_max2 rfl) rfl hMx (by kernel_rfl) (pa_cons pe_int (pa_cons (pe_callB (call_min2 rfl) rfl hMn (by kernel_rfl) (pa_cons (pe_callB call_len_seq rfl hLn (by kernel_rfl) (pa_cons (pv 0) pa_nil)) (pa_cons pe_int pa_nil))) pa_nil))) pa_nil))
      (blkOk_by (N := ["script", "lap"]) (sc := defScope (top 90)) (by decide +kernel)) (fun _ _ _ _ _ => pg_name (i := 1) nd rfl (Or.inl rfl)) (fun _ _ _ _ _ => pts_nil) (fun _ _ _ _ _ => pe_cW (l := []) (ok_all T) hr kn.guards (fun _ => .cold hh) rfl (pa_cons (pe_c (ok_bell T) (rr.mono (by decide)) rfl (pa_cons (pv 0) (pa_cons (pv 1) pa_nil))) pa_nil))) (by with_unfolding_all rfl))), ?_⟩
    have hlen : (ns.map V.int).length = ns.length := List.length_map ..
    refine ⟨_, rfl, a, _, rfl, .inl hS, _, _, rfl, 2, _, rfl, _, rfl, ?_, ?_, fun D hD => ?_⟩
    · rw [hlen]
      repeat' split
      all_goals omega
    · rw [hlen]
      repeat' split
      all_goals omega
    have hn : ∀ i : Nat, i < (if (if 3 < ((ns.map V.int).length : Int) then 3 else ((ns.map V.int).length : Int)) > 2 then (if 3 < ((ns.map V.int).length : Int) then 3 else ((ns.map V.int).length : Int)) else 2).toNat → i < 3 := fun i h => by
      rw [hlen] at h
      repeat' split at h
      all_goals omega
    generalize (if (if 3 < ((ns.map V.int).length : Int) then 3 else ((ns.map V.int).length : Int)) > 2 then (if 3 < ((ns.map V.int).length : Int) then 3 else ((ns.map V.int).length : Int)) else 2).toNat = n at hn ⊢
    refine lc_range (lo := 0) (n := n) (fun i H' => Ext H H' ∧ H' D = some (.lst (List.replicate i (.bl true)))) ⟨ext_new hD, upd_same⟩ (fun i H' hi h => ?_) (fun H' h => ?_)
    · obtain ⟨e, hD'⟩ := h
      have hi3 := hn i hi
      rw [Int.zero_add]
      refine ⟨rfl, ?_⟩
      unfold tYes
      dsimp only
      rw [if_pos rfl]
      refine ⟨_, rfl, _, rfl, a, ns, i, rfl, sqL_ext e hS, by omega, by omega, fun p H2 s t e2 np hp ok => ?_⟩
      refine ⟨rfl, p, s, t, rfl, hp, ok, fun H3 kp => ?_⟩
      have off : ∀ {c o}, H' c = some o → H3 c = some o := fun {c o} h => kp c o (fun z => by rw [z, np] at h; cases h) (e2 _ _ h)
      have hD3 := off hD'
      refine ⟨_, hD3, ?_, fun c o h => ?_, ?_⟩
      · rw [List.length_replicate]
        show i < sizeLine
        have : (3 : Nat) < sizeLine := by decide
        omega
      · rw [upd_ne (fun z => by rw [z, hD] at h; cases h)]
        exact off (e _ _ h)
      · rw [upd_same, List.replicate_succ']
    · obtain ⟨e, hD'⟩ := h
      refine ⟨D, _, rfl, .inl (SqL.of hD'), rfl, rep_flat n, ?_⟩
      rw [rep_in]
      exact k H'
end
end K1

set_option maxHeartbeats 0
/-! Km: the end. -/
namespace K1
open PySem PySem.Spec PyProof.Rows L2 L2H Er
/-- what the law leaves -/
abbrev Left (z : Shared) (r : Result) (y : Shared) : Prop := r = .ok (.ret (.bool true)) ∧ OldK z.heap y.heap ∧ y.os = z.os ∧ AllBare y.gens
section
variable {P : Program} {w : World} {K : PySem.W.Frag} {mg mb : Str → Option Value} {z : Shared} {sc : Addr} {us : List Value} {zs : List Int}
/-- the script's object -/
abbrev scO (us : List Value) : Obj := { cls := .type "list", data := .seq us.toArray }
/-- from a heap of ours that holds at most the script -/
theorem law_at (T : ∀ g, K.In g → g.Ns mainGlobals mg → Tx K mg) (kz : K.In z.heap) (gz : z.heap.Ns mainGlobals mg) (bz : z.heap.Ns builtinsNs mb) (hm : ∀ y : Str, y ≠ "__name__" → mb y = bootBuiltins y) (lz : z.heap.NoLimit) (ez : z.gens = #[])
    (hsc : z.heap.get? sc = some (scO us)) (short : zs.length ≤ 63) (H : Hp) (own : ∀ b u, H b = some u → b = sc ∧ K.lookup sc = none ∧ u = .frz (scO us) (.lst (zs.map V.int))) (seq : SqL K H sc (zs.map V.int)) (okz : HOk P w H z.heap) :
    codeAny (model P w) callerA (.call (.ref (ga K "law")) ⟨[.ref sc], []⟩) (Left z) z := by
  have stay : ∀ {b : Addr} {o : Obj}, z.heap.get? b = some o → o ≠ scO us → (hidT z.heap H).get? b = some o := fun {b o} h ne => by
    refine hidT_get h ?_
    cases c : H b with
    | none => rfl
    | some u =>
      rw [(own b u c).1, hsc] at h
      cases h
      exact absurd rfl ne
  have names : ∀ {b : Addr} {m : Str → Option Value}, z.heap.Ns b m → (hidT z.heap H).Ns b m := fun h => by
    obtain ⟨o, es, n, h1, h2, h3⟩ := h
    refine ⟨o, es, n, stay h1 fun e => ?_, h2, h3⟩
    rw [e] at h2
    cases (show Data.seq us.toArray _ = Data.dict es n from h2)
  have kin : K.In (hidT z.heap H) := fun b o h => by
    refine hidT_get (kz b o h) ?_
    cases c : H b with
    | none => rfl
    | some u =>
      obtain ⟨rfl, n, _⟩ := own b u c
      rw [n] at h
      cases h
  have md : Mod K mg (hidT z.heap H) := by
    obtain ⟨mc, l1, l2⟩ := lz
    exact ⟨kin, names gz, ⟨mb, names bz, hm⟩, mc, names l1, l2⟩
  have en : Env0 P w K mg (hidT z.heap H) callerA [] z H := ⟨rfl, md, fun b o h => of_hidT h, Nat.le_of_eq (hidT_size _ _), trivial, fun b hb => (nomatch hb), okz, .of_eq ez⟩
  obtain ⟨fd, pr, bd, _, _⟩ := (ok_law (P := P) (w := w) (base := hidT z.heap H) (T _ kin (names gz))).ex
  have b0 := bd z [.ref sc] kz rfl
  refine codeAny_mono (pr.run callerA [] z H _ _ [.ref sc] (fun v _ => v = .bl true) [] ⟨by decide, by decide⟩ rfl (.cold rfl) en b0 (.cons rfl .nil) ⟨rfl, sc, zs, rfl, seq, by omega, fun _ => rfl⟩) fun r y hy => ?_
  cases r with
  | error _ => exact hy.elim
  | ok fl =>
    cases fl with
    | next => exact hy.elim
    | brk => exact hy.elim
    | cont => exact hy.elim
    | ret u =>
      obtain ⟨v, H', o1, o2, un, ok', rv, hv⟩ := hy
      cases (show v = V.bl true from hv)
      cases (show u = Value.bool true from rv)
      refine ⟨rfl, OldK.of_keep fun b o h => ?_, o1, o2⟩
      cases c : H b with
      | none => exact un.keep b o h c (fun m => nomatch m) (fun m => nomatch m)
      | some f =>
        obtain ⟨_, _, rfl⟩ := own b f c
        have h1 := (okz b _ c).1
        rw [h] at h1
        cases h1
        exact (ok' b _ (un.frzs b _ _ c)).1
theorem law_end (T : ∀ g, K.In g → g.Ns mainGlobals mg → Tx K mg) (kz : K.In z.heap) (gz : z.heap.Ns mainGlobals mg) (bz : z.heap.Ns builtinsNs mb) (hm : ∀ y : Str, y ≠ "__name__" → mb y = bootBuiltins y) (lz : z.heap.NoLimit) (ez : z.gens = #[])
    (hsc : z.heap.get? sc = some (scO us)) (iv : IntsAre us zs) (short : zs.length ≤ 63) : codeAny (model P w) callerA (.call (.ref (ga K "law")) ⟨[.ref sc], []⟩) (Left z) z := by
  have big : zs.length ≤ sizeLine := Nat.le_trans short (by decide)
  have vals : Vals (zs.map V.int) us := vals_ints iv
  cases c : K.lookup sc with
  | some o =>
    have h := kz sc o c
    rw [hsc] at h
    cases h
    exact law_at T kz gz bz hm lz ez hsc short (fun _ => none) (fun b u h => nomatch h) (.inr ⟨_, us.toArray, _, c, rfl, rfl, rfl, by rw [List.size_toArray, iv.length]; exact big, by simpa using vals⟩) (fun b u h => nomatch h)
  | none =>
    refine law_at T kz gz bz hm lz ez hsc short (fun b => if b = sc then some (.frz (scO us) (.lst (zs.map V.int))) else none) (fun b u h => ?_) (.inl (.inr ⟨scO us, if_pos rfl⟩)) (fun b u h => ?_)
    · by_cases e : b = sc
      · rw [if_pos e] at h
        cases h
        exact ⟨e, c, rfl⟩
      · rw [if_neg e] at h
        cases h
    · dsimp only at h
      by_cases e : b = sc
      · rw [if_pos e] at h
        cases h
        subst e
        exact ⟨hsc, by rw [List.length_map]; exact big, us, _, vals, hsc⟩
      · rw [if_neg e] at h
        cases h
end
end K1
open PySem PySem.W PySem.Calls PyProof.Rows
theorem K1.walk {q : Program} {loose : List PySem.Str} {XP : (PySem.Str → Option Value) → Heap → Prop} : WalkO q loose XP (K1.hk).says (OpenLaw.row PySem.Challenge.rw_powermaps_k01_errors).toRowW (HandSHeadRun.topDef (OpenLaw.row PySem.Challenge.rw_powermaps_k01_errors).prog 90) [] fun f vs => PySem.call f vs := by
  refine Att.attach_call (l := PySem.Challenge.rw_powermaps_k01_errors) (n := 63) rfl (by kernel_rfl) fun w s₀ s₁ mg mb fa o pm cd doc a vs ns G Y ho hd hcd hmg hobj hints hlen hg => ?_
  obtain ⟨K, KX, c, cb⟩ := Y
  have T := K1.tx_of KX G.T.g c cb
  have hmg' : mg ("law" : PySem.Str) = some (.ref fa) := by
    have e : (HandSHeadRun.topDef (OpenLaw.row PySem.Challenge.rw_powermaps_k01_errors).prog 90).name = ("law" : PySem.Str) := by kernel_rfl
    rw [← e]
    exact hmg
  have hfa : fa = K1.ga K "law" := by
    have e := (T.g "law" (by decide)).symm.trans hmg'
    injection e with e
    injection e with e
    exact e.symm
  subst hfa
  exact K1.law_end (fun _ k g => K1.tx_of k g c cb) KX G.T.g G.T.b G.T.builtins G.T.nolimit hg hobj hints hlen
theorem PySem.Challenge.cw_powermaps_k01_errors_holds : PySem.Challenge.rw_powermaps_k01_errors.Holds := by
  w_on; o_law
  refine HandSHeadRun.head_imp (r := OpenLaw.row PySem.Challenge.rw_powermaps_k01_errors) (q := view (OpenLaw.row PySem.Challenge.rw_powermaps_k01_errors).prog [90]) (H := K1.hk) (ob := K1.ob) (M := 20000) (loose := K1.loose) (d := HandSHeadRun.topDef (OpenLaw.row PySem.Challenge.rw_powermaps_k01_errors).prog 90) (kwd := []) K1.ob_eq
    K1.run (by kernel_rfl) (by kernel_rfl) (by kernel_rfl) (by rfl) (by first | assumption | decide +kernel) (by decide +kernel) ⟨rfl, rfl, rfl, rfl, rfl, by decide +kernel⟩ ?hw ?hc
  case hw => w_witness2
  case hc => exact K1.walk

