import PyProof.Rows.All
import Wide.All
import OpenK.AllK
import Wide.FinOn
import HandS.ForMost
import HandS.Rev
import HandS.IsInst
import HandS.NoneIn
import PySem.Challenge.RW_rerunyard_k14_whole_sound_programs
import HandS.RaiseMore
import HandS.Codes
set_option Elab.async false
set_option linter.all false
set_option maxRecDepth 100000
set_option maxHeartbeats 4000000
/-! ## K14R -/
/-! Rules that the layer lacks: list(reversed(x)); xs == [], xs != []. -/
namespace KR
open PySem PySem.Spec PyProof.Rows L2 RT
section
variable {prog : Program} {w : World} {A : Around} {E : Value → Shared → Prop} {s : Shared} {R : Result → Shared → Prop}
variable {I : Addr} {fp wr : List Addr} {G : Array GenState → Array GenState → Prop} {n : Nat} {P : Nat → Value → Prop} {St : Nat → Shared → Prop}
/-- what listLengthHint says of the iterator: some truth value, the heap as it was -/
def HintOk (prog : Program) (w : World) (A : Around) (I : Addr) (St : Nat → Shared → Prop) : Prop :=
  ∀ (s : Shared) (Q : Bool → Shared → Prop) (E : Value → Shared → Prop), St 0 s → (∀ b tk, s.toks ≤ tk → Q b { s with toks := tk }) → wpAny (model prog w) A (Builtin.List.listLengthHint (.ref I)) Q E s
theorem extend_rv {T : String} (W : WalksS prog w A.in1 I fp wr G n P St) (hT : ∀ i s, St i s → s.TypeIs (.ref I) T) (hT1 : (Value.type T == Value.type "list") = false) (hT2 : (Value.type T == Value.type "tuple") = false)
    (hint : HintOk prog w A.in1 I St) (S : Addr) (res : Value) (c₀ : Nat) (hst : St 0 s) (hSf : S ∉ fp) (hI : I ∈ fp)
    (hS : s.heap.get? S = some { cls := .type "list", data := .seq #[] c₀ })
    (hR : ∀ s' acc' c', Moved (S :: wr) G s s' → s'.heap.get? S = some { cls := .type "list", dict := none, data := .seq acc' c', slots := #[] } → ItemsOf P acc' n → R (.ok (.ret res)) s') (hn : n ≤ sizeLine) :
    wpAny (model prog w) A.in1 (Builtin.List.listExtendWith (.ref S) (.ref I) res)
      (fun fin s' => match fin with | .done f => R (.ok f) s' | .again c' => c'.quiet = true ∧ codeAny (model prog w) A c' R s') (fun e s' => R (.error e) s') s := by
  have hSI : S ≠ I := fun e => hSf (e ▸ hI)
  unfold Builtin.List.listExtendWith
  refine wpAny_bind (wpAny_typeOf (hT 0 _ hst) ?_)
  have h1 : Builtin.List.listSameRef (.ref S) (.ref I) = false := by simp [Builtin.List.listSameRef, hSI]
  simp only [h1, hT1, hT2, Bool.or_false, Bool.false_eq_true, if_false]
  refine wpAny_bind (W.self 0 _ _ _ hst ?_)
  refine wpAny_bind (wpAny_holding ?_)
  refine hint _ _ _ hst fun b tk htk => ?_
  have fin1 : ∀ (h' : Heap) (tk : Nat) (c1 : Nat), s.toks ≤ tk → (∀ b o, b ≠ S → s.heap.get? b = some o → h'.get? b = some o) → h'.get? S = some { cls := .type "list", data := .seq #[] c1 } →
      wpAny (model prog w) A.in1 (again (.builtin "list.extend.loop" ⟨[.ref S, .ref I, res], []⟩))
      (fun fin s' => match fin with | .done f => R (.ok f) s' | .again c' => c'.quiet = true ∧ codeAny (model prog w) A c' R s') (fun e s' => R (.error e) s') { s with heap := h', toks := tk } := fun h' tk c1 ht oth hS' => by
    refine wpAny_pure ⟨plainId_quiet F.plain_extend_loop _, codeAny_extend_loopS W hn _ hSf _ n 0 _ _ _ rfl (Nat.zero_le _)
      (W.frame 0 s h' tk hst ht fun b hb o e => oth b o (fun h => hSf (h ▸ hb)) e) hS' (ItemsOf.nil P) fun s' acc' c' hm hS' hacc => ?_⟩
    exact hR s' acc' c' (Moved.trans W.gtrans ((Moved.refl W.grefl).then_heap ht fun b o hb e => oth b o (fun h => hb (h ▸ List.mem_cons_self)) e) hm) hS' hacc
  refine wpAny_ite_split (fun _ => ?_) (fun _ => ?_)
  · show wpAny _ A.in1 (rule "list.extend.makes-room" >>= fun _ => Builtin.List.listTouch (.ref S) >>= fun _ =>
      again (.builtin "list.extend.loop" ⟨[.ref S, .ref I, res], []⟩)) _ _ _
    refine wpAny_bind (wpAny_rule ?_)
    refine wpAny_bind ?_
    show wpAny _ A.in1 (updateSeq S (·.push .none) >>= fun _ => updateSeq S (·.pop)) _ _ _
    refine wpAny_bind (wpAny_updateSeq hS rfl ?_)
    have hS₂ := Heap.get?_update_self (Obj.mapSeq (·.push Value.none)) hS rfl
    refine wpAny_updateSeq (hz := by seq_fits) hS₂ rfl ?_
    have hS₃ := Heap.get?_update_self (Obj.mapSeq (·.pop)) hS₂ rfl
    have oth : ∀ b o, b ≠ S → s.heap.get? b = some o → ((s.heap.update S (Obj.mapSeq (·.push Value.none))).update S (Obj.mapSeq (·.pop))).get? b = some o :=
      fun b o hb e => (Heap.get?_update_other _ _ (Ne.symm hb)).trans ((Heap.get?_update_other _ _ (Ne.symm hb)).trans e)
    exact fin1 _ _ _ htk oth hS₃
  · exact fin1 _ _ _ htk (fun b o _ e => e) hS
theorem list_init_rv {T : String} (W : WalksS prog w A.in1 I fp wr G n P St) (hT : ∀ i s, St i s → s.TypeIs (.ref I) T) (hT1 : (Value.type T == Value.type "list") = false) (hT2 : (Value.type T == Value.type "tuple") = false)
    (hint : HintOk prog w A.in1 I St) (S : Addr) (hst : St 0 s) (hSf : S ∉ fp) (hI : I ∈ fp)
    (hS : s.heap.get? S = some { cls := .type "list", data := .seq #[] })
    (hR : ∀ s' acc' c', Moved (S :: wr) G s s' → s'.heap.get? S = some { cls := .type "list", dict := none, data := .seq acc' c', slots := #[] } → ItemsOf P acc' n → R (.ok (.ret .none)) s') (hn : n ≤ sizeLine) :
    wpAny (model prog w) A.in1 (Builtin.«list.__init__» ⟨[.ref S, .ref I], []⟩)
      (fun fin s' => match fin with | .done f => R (.ok f) s' | .again c' => c'.quiet = true ∧ codeAny (model prog w) A c' R s') (fun e s' => R (.error e) s') s := by
  show wpAny _ A.in1 (do let old ← Builtin.List.listItems (.ref S); Builtin.List.listUpdate (.ref S) (fun _ => #[]); letGo old.toList.reverse; Builtin.List.listExtendWith (.ref S) (.ref I) .none) _ _ s
  refine wpAny_bind ?_
  unfold Builtin.List.listItems
  refine wpAny_bind (wpAny_seqItems hS rfl (wpAny_pure ?_))
  show wpAny _ A.in1 (updateSeq S (fun _ => #[]) >>= fun _ => letGo (#[] : Array Value).toList.reverse >>= fun _ => Builtin.List.listExtendWith (.ref S) (.ref I) .none) _ _ s
  refine wpAny_bind (wpAny_updateSeq hS rfl ?_)
  have hS₂ := Heap.get?_update_self (Obj.mapSeq (fun _ => (#[] : Array Value))) hS rfl
  have oth : ∀ b o, b ≠ S → s.heap.get? b = some o → (s.heap.update S (Obj.mapSeq (fun _ => (#[] : Array Value)))).get? b = some o :=
    fun b o hb e => (Heap.get?_update_other _ _ (Ne.symm hb)).trans e
  refine wpAny_bind (wpAny_letGo ?_)
  refine extend_rv W hT hT1 hT2 hint S .none _ (W.frame 0 s _ s.toks hst (Nat.le_refl _) fun b hb o e => oth b o (fun h => hSf (h ▸ hb)) e) hSf hI hS₂ (fun s' acc' c' hm hS' hacc => ?_) hn
  exact hR s' acc' c' (Moved.trans W.gtrans ((Moved.refl W.grefl).then_heap (Nat.le_refl _) fun b o hb e => oth b o (fun h => hb (h ▸ List.mem_cons_self)) e) hm) hS' hacc
end
section
variable {prog : Program} {w : World} {A : Around} {E : Value → Shared → Prop} {s : Shared}
variable {I : Addr} {fp wr : List Addr} {G : Array GenState → Array GenState → Prop} {n : Nat} {P : Nat → Value → Prop} {St : Nat → Shared → Prop}
theorem call_list_rv {T : String} {Q : Value → Shared → Prop} (W : WalksS prog w A.in1.in1 I fp wr G n P St) (hT : ∀ i s, St i s → s.TypeIs (.ref I) T) (hT1 : (Value.type T == Value.type "list") = false) (hT2 : (Value.type T == Value.type "tuple") = false)
    (hint : HintOk prog w A.in1.in1 I St) (hst : St 0 s) (hfp : ∀ b ∈ fp, b < s.heap.objs.size) (hI : I ∈ fp)
    (hQ : ∀ s' acc' c', Moved (s.heap.objs.size :: wr) G { s with heap := s.heap.push { cls := .type "list", data := .seq #[] } } s' →
      s'.heap.get? s.heap.objs.size = some { cls := .type "list", dict := none, data := .seq acc' c', slots := #[] } → ItemsOf P acc' n → Q (.ref s.heap.objs.size) s') (hn : n ≤ sizeLine) :
    wpAny (model prog w) A (call (.type "list") [.ref I]) Q E s := by
  have hSf : s.heap.objs.size ∉ fp := fun hm => Nat.lt_irrefl _ (hfp _ hm)
  refine callType_codes (Q₁ := fun obj s₁ => obj = .ref s.heap.objs.size ∧ s₁ = { s with heap := s.heap.push { cls := .type "list", data := .seq #[] } }) F.called_list (F.typeCall_list_1 _) F.entry_list_init
    (code_list_new _ ⟨rfl, rfl⟩) fun obj s₁ h₁ => ?_
  obtain ⟨rfl, rfl⟩ := h₁
  have hS : (s.heap.push { cls := .type "list", data := .seq #[] }).get? s.heap.objs.size = some { cls := .type "list", data := .seq #[] } := Heap.get?_push_size _ rfl
  refine ⟨⟨_, hS, rfl⟩, F.args_list_init_2 _ _, list_init_rv W hT hT1 hT2 hint _ (W.frame 0 s _ s.toks hst (Nat.le_refl _) fun b _ o e => Heap.get?_push_of_some _ e) hSf hI hS (fun s' acc' c' hm hS' hacc => ?_) hn⟩
  exact ⟨rfl, hQ s' acc' c' hm hS' hacc⟩
/-- the hint of list's reverse iterator -/
theorem hint_list {l : Addr} {items : Array Value} (hh : A.handled = none) : HintOk prog w A I (fun i s => i ≤ items.size ∧ s.heap.IsRevIter I l ((items.size : Int) - 1 - (i : Int)) ∧ s.heap.IsList l items) := by
  intro s Q E st h
  have hT : s.TypeIs (.ref I) "list_reverseiterator" := Heap.IsRevIter.typeIs st.2.1
  unfold Builtin.List.listLengthHint
  refine wpAny_bind (wpAny_specialOf hT nolen_lri ?_)
  show wpAny _ A (specialOf (Value.ref I) (Str.ofString "__length_hint__") >>= _) _ _ _
  refine wpAny_bind (wpAny_specialOf hT hint_lri ?_)
  generalize hid : ("list_reverseiterator.__length_hint__" : String) = id0
  wp_delta
  rw [show splitId id0 = some ("list_reverseiterator", "__length_hint__") from by subst hid; decide +kernel]
  subst hid
  refine wpAny_bind (wpAny_isInstance (b := true) hT (by rw [isSubtype_type]; kernel_rfl) ?_)
  refine wpAny_pure ?_
  exact h _ _ (Nat.le_refl _)
end

/-! reversed(tuple) -/
theorem nolen_rt : typeLookup (.type "reversed") "__len__" = pure none := by rw [typeLookup_type, builtinLookup_eq_fast]; kernel_rfl
theorem slot_rt_hint : Slot "reversed" "__length_hint__" "reversed.__length_hint__" :=
  .of (owner := "reversed") (n := "__length_hint__") (by rw [typeLookup_type, builtinLookup_eq_fast]; kernel_rfl) (by decide +kernel) (by decide +kernel) (by decide +kernel)
    (by first | exact .inl (by decide +kernel) | exact .inr (by decide +kernel)) (by rw [isSubtype_type]; kernel_rfl)
theorem entry_rt_hint : entryFor table "reversed.__length_hint__" = some Builtin.«reversed.__length_hint__» := entryFor_of_tree (by kernel_rfl)
theorem args_rt_hint (a : Value) : argsOk "reversed.__length_hint__" ⟨[a], []⟩ := by
  unfold argsOk; rw [signature?_of (id := "reversed.__length_hint__") (n := ['_', '_', 't', 'n', 'i', 'h', '_', 'h', 't', 'g', 'n', 'e', 'l', '_', '_']) (o := ['d', 'e', 's', 'r', 'e', 'v', 'e', 'r']) (by kernel_rfl) owner_rt]; kernel_rfl
section
variable {prog : Program} {w : World} {A : Around} {E : Value → Shared → Prop} {s : Shared}
theorem hint_tup {I t : Addr} {items : Array Value} (hn : items.size ≤ sizeLine) : HintOk prog w A I (fun i s => i ≤ items.size ∧ IsRt s.heap I t ((items.size : Int) - 1 - (i : Int)) ∧ IsTup s.heap t items) := by
  intro s Q E st h
  obtain ⟨_, hit, htup⟩ := st
  have hT : s.TypeIs (.ref I) "reversed" := hit.typeIs
  obtain ⟨o, ho, hc, hd⟩ := id hit
  have hsz : items.size < 2 ^ 63 := Nat.lt_of_le_of_lt hn (by rw [sizeLine_eq]; decide)
  unfold Builtin.List.listLengthHint
  refine wpAny_bind (wpAny_specialOf hT nolen_rt ?_)
  show wpAny _ A (specialOf (Value.ref I) (Str.ofString "__length_hint__") >>= _) _ _ _
  refine wpAny_bind (wpAny_specialOf hT slot_rt_hint.lookup ?_)
  generalize hid : ("reversed.__length_hint__" : String) = id0
  wp_delta
  rw [show splitId id0 = some ("reversed", "__length_hint__") from by subst hid; decide +kernel]
  subst hid
  refine wpAny_bind (wpAny_isInstance (b := true) hT (by rw [isSubtype_type]; kernel_rfl) ?_)
  try dsimp only
  rw [if_neg (by decide)]
  rw [if_neg (by decide +kernel)]
  refine wpAny_bind (wpAny_rule ?_)
  refine wpAny_bind (wpAny_of_eq (slot_rt_hint.bind _) ?_)
  try dsimp only
  refine wpAny_bind (wpAny_attempt (wpAny_call_entry slot_rt_hint hT entry_rt_hint ?_ (args_rt_hint _)))
  unfold Builtin.«reversed.__length_hint__»
  refine wpAny_bind (wpAny_of_eq (a := Value.ref I) rfl ?_)
  try dsimp only
  refine wpAny_bind (wpAny_field ho hd (x := .ref t) rfl ?_)
  try dsimp only
  rw [if_neg (by simp)]
  try dsimp only
  refine wpAny_bind (len_tuple htup (by omega) ?_)
  refine wpAny_bind (wpAny_of_eq (a := some ((items.size : Nat) : Int)) rfl ?_)
  try dsimp only
  refine wpAny_bind (wpAny_field (s := { s with toks := s.toks + 1 + 1 }) ho hd (x := rawInt ((items.size : Int) - 1 - ((0 : Nat) : Int))) rfl ?_)
  try dsimp only
  show wpAny _ _ (if (items.size : Int) < (items.size : Int) - 1 - ((0 : Nat) : Int) + 1 then _ else _) _ _ _
  rw [if_neg (by omega)]
  unfold retInt
  refine wpAny_bind (wpAny_mkInt ?_)
  refine wpAny_pure ⟨_, rfl, ?_⟩
  try dsimp only
  refine wpAny_bind (wpAny_of_eq (a := some ((items.size : Int) - 1 - ((0 : Nat) : Int) + 1)) rfl ?_)
  try dsimp only
  have hfit : Builtin.List.listFitsIndex ((items.size : Int) - 1 - ((0 : Nat) : Int) + 1) = true := by
    unfold Builtin.List.listFitsIndex
    simp only [Bool.and_eq_true, decide_eq_true_eq]
    omega
  have hlong : ¬ Builtin.List.listTooLong ((items.size : Int) - 1 - ((0 : Nat) : Int) + 1).toNat = true := by
    unfold Builtin.List.listTooLong
    simp only [decide_eq_true_eq]
    omega
  rw [if_neg (by rw [hfit]; decide), if_neg (by omega), if_neg hlong]
  refine wpAny_pure (h _ _ ?_)
  show s.toks ≤ s.toks + 1 + 1 + 1
  omega
end

theorem walks_rt {prog : Program} {w : World} {A : Around} (hh : A.handled = none) (I t : Addr) (hne : t ≠ I) (items : Array Value) (hsz : items.size ≤ sizeLine) :
    Walks prog w A I [I, t] [I] items.size (fun i v => items[items.size - 1 - i]? = some v) (fun i h => i ≤ items.size ∧ IsRt h I t ((items.size : Int) - 1 - (i : Int)) ∧ IsTup h t items) where
  sub := fun b hb => by simp at hb; simp [hb]
  frame := fun _ _ _ x hk => ⟨x.1, x.2.1.at fun o e => hk I (by simp) o e, by
    obtain ⟨o, e, c⟩ := x.2.2
    exact ⟨o, hk t (by simp) o e, c⟩⟩
  item := fun i s Q E hi x hQ => by
    have e : (items.size : Int) - 1 - (i : Int) = ((items.size - 1 - i : Nat) : Int) := by omega
    have hit := x.2.1
    rw [e] at hit
    have hx : items[items.size - 1 - i]? = some (items[items.size - 1 - i]'(by omega)) := Array.getElem?_eq_getElem (by omega)
    refine next_rt_item hit x.2.2 hx hsz fun h' hit' hs' => ?_
    have e2 : ((items.size - 1 - i : Nat) : Int) - 1 = (items.size : Int) - 1 - ((i + 1 : Nat) : Int) := by omega
    rw [e2] at hit'
    refine hQ _ h' (s.toks + 1) hx ⟨hi, hit', ?_⟩ fun b o hb eo => (hs'.2 b (fun h => hb (by simp [h]))).trans eo
    obtain ⟨o, e, c⟩ := x.2.2
    exact ⟨o, (hs'.2 t hne).trans e, c⟩
  done := fun s Q E x hQ => by
    have e : (items.size : Int) - 1 - (items.size : Int) = -1 := by omega
    have hit := x.2.1
    rw [e] at hit
    exact next_rt_end hh hit fun h' he' => hQ h' s.toks fun b o hb eo => he' b o (fun h => hb (by simp [h])) eo
  self := fun _ _ _ _ x hQ => iter_rt x.2.1 hQ

/-- list(reversed(x)), x a list or a tuple: a new list -/
def tListRev (K : PySem.W.Frag) (te : TE) : TE := fun σ H Q => te σ H fun v H1 => ∃ (a : Addr) (xs : List V), v = .ref a ∧ (SqL K H1 a xs ∨ SqT K H1 a xs) ∧ ∀ q, H1 q = none → Q (.ref q) (upd H1 q (.lst xs.reverse))
section
variable {X : Cx}
/-- the end of both ways -/
theorem rev_fin {pins : List (Addr × Obj)} {σ : L2.St} {H : Hp} {s1 s2 : Shared} {Q : VK} {its : List Value} {xs : List V} {it : Addr} {T : String} {fp : List Addr} {St : Nat → Shared → Prop}
    (I2 : Inv X pins σ H s2) (hf : FpOk X pins H it) (rv : Vals xs its) (hz : xs.length ≤ sizeLine)
    (W : WalksS X.prog X.w X.A.in1.in1 it fp [it] (fun a b => b = a) its.toArray.size (fun i v => its.toArray[its.toArray.size - 1 - i]? = some v) St)
    (hT : ∀ i s, St i s → s.TypeIs (.ref it) T) (hT1 : (Value.type T == Value.type "list") = false) (hT2 : (Value.type T == Value.type "tuple") = false)
    (hint : HintOk X.prog X.w X.A.in1.in1 it St) (hst : St 0 s2) (hfp : ∀ b ∈ fp, b < s2.heap.objs.size) (hI : it ∈ fp)
    (q : ∀ q, H q = none → Q (.ref q) (upd H q (.lst xs.reverse))) : wpAny (model X.prog X.w) X.A (call (.type "list") [.ref it]) (EP X pins σ Q) X.xe s2 := by
  have hn : its.toArray.size ≤ sizeLine := by rw [List.size_toArray, ← rv.length]; exact hz
  refine call_list_rv W hT hT1 hT2 hint hst hfp hI (fun s' acc c hm hS hacc => ?_) hn
  have e := Moved.eq_with hm
  have fr : H s2.heap.objs.size = none := I2.hok.fresh (Nat.le_refl _)
  have ne : ∀ b o, s2.heap.get? b = some o → b ≠ s2.heap.objs.size := fun b o h => Nat.ne_of_lt (Heap.lt_size h)
  have I3 : Inv X pins σ (upd H s2.heap.objs.size (.lst xs.reverse)) { s2 with heap := s'.heap, toks := s'.toks } := by
    refine I2.turnedNew (t' := s'.toks) (ch := [it]) (fun b o hb h => ?_) (fun b hb => ?_) (Nat.le_refl _) ?_
    · refine hm.heap b o ?_ (Heap.get?_push_of_some _ h)
      intro z
      rcases List.mem_cons.mp z with z | z
      · exact ne b o h z
      · exact hb z
    · have z : b = it := by simpa using hb
      subst z
      exact hf
    · refine ⟨by rw [List.length_reverse]; exact hz, acc.toList, c, vals_rev rv hacc, ?_⟩
      rw [hS]
  rw [e]
  exact ⟨.ref s2.heap.objs.size, _, I3, rfl, q _ fr⟩
theorem pe_listRev {e : Expr} {te : TE} {p p2 pos pos2 : Pos} (hc : X.calm = true) (hg : Gl X "list") (hm : X.mg "list" = none) (hg2 : Gl X "reversed") (hm2 : X.mg "reversed" = none) (he : PE X e te)
    (hs : starEach [e] X.env = (false, eval e X.env) :: starEach [] X.env := by rfl)
    (hs2 : starEach [.Call (.Name "reversed" p2) [e] [] pos2] X.env = (false, eval (.Call (.Name "reversed" p2) [e] [] pos2) X.env) :: starEach [] X.env := by rfl) :
    PE X (.Call (.Name "list" p) [.Call (.Name "reversed" p2) [e] [] pos2] [] pos) (tListRev X.K te) := by
  refine ⟨fun pins s σ H Q I h => ?_⟩
  refine Call_ (ld_blt I hg hm boot_list (PyProof.Rows.callWith_type1 (args_cons (Call_ (ld_blt I hg2 hm2 PyProof.Rows.boot_reversed (PyProof.Rows.callWith_type1 (args_cons (thn (he.run pins s σ H _ I h) fun u s1 ⟨v, H1, I1, r1, q1⟩ => args_nil ?_) hs) hs rfl))) hs2) hs2 rfl))
  obtain ⟨a, xs, ev, hq, q⟩ := q1
  subst ev
  obtain rfl : u = Value.ref a := r1
  have e00 : ∀ n : Nat, (n : Int) - 1 - ((0 : Nat) : Int) = (n : Int) - 1 := fun n => by omega
  rcases hq with hq | hq
  · obtain ⟨its, rv, p', hz⟩ := I1.list hq
    refine call_reversed_list p'.isList (args_nil ?_)
    have k0 : ∀ b o, s1.heap.get? b = some o → (s1.heap.push (revObj a ((its.toArray.size : Int) - 1))).get? b = some o := fun b o e => Heap.get?_push_of_some _ e
    have I2 : Inv X pins σ H1 { s1 with heap := s1.heap.push (revObj a ((its.toArray.size : Int) - 1)) } := I1.kept (t' := s1.toks) k0
    have hf : FpOk X pins H1 s1.heap.objs.size := I1.fpOk (H' := H1) (Nat.le_refl _) (I1.hok.fresh (Nat.le_refl _))
    have hl := p'.isList
    obtain ⟨ol, hol, _⟩ := id hl
    have hne : a ≠ s1.heap.objs.size := Nat.ne_of_lt (Heap.lt_size hol)
    have W := (Walks.listRev (prog := X.prog) (w := X.w) (A := X.A.in1.in1) (I1.ok.hd hc) s1.heap.objs.size a hne its.toArray).toS
    refine rev_fin (s1 := s1) (T := "list_reverseiterator") I2 hf rv hz W (fun i s st => Heap.IsRevIter.typeIs st.2.1) (by decide) (by decide) (hint_list (I1.ok.hd hc)) ⟨Nat.zero_le _, ?_, hl.push _⟩ (fun b hb => ?_) (by simp) q
    · rw [e00]
      exact ⟨_, Heap.get?_push_size _ rfl, rfl, rfl⟩
    · show b < (s1.heap.push _).objs.size
      rw [Heap.size_push]
      rcases List.mem_cons.mp hb with z | z
      · rw [z]; exact Nat.lt_succ_self _
      · rw [List.mem_singleton.mp z]; exact Nat.lt_succ_of_lt (Heap.lt_size hol)
  · obtain ⟨its, rv, p', hz⟩ := I1.tuple hq
    have hn : its.toArray.size ≤ sizeLine := by rw [List.size_toArray, ← rv.length]; exact hz
    have hn63 : its.toArray.size < 2 ^ 63 := Nat.lt_of_le_of_lt hn (by rw [sizeLine_eq]; decide)
    refine call_reversed_tup p' (fun A E Q k => len_tuple p' (by omega) k) (args_nil ?_)
    have k0 : ∀ b o, s1.heap.get? b = some o → (s1.heap.push (rtObj a ((its.toArray.size : Int) - 1))).get? b = some o := fun b o e => Heap.get?_push_of_some _ e
    have I2 : Inv X pins σ H1 { s1 with heap := s1.heap.push (rtObj a ((its.toArray.size : Int) - 1)), toks := s1.toks + 1 + 1 } := I1.kept (t' := s1.toks + 1 + 1) k0
    have hf : FpOk X pins H1 s1.heap.objs.size := I1.fpOk (H' := H1) (Nat.le_refl _) (I1.hok.fresh (Nat.le_refl _))
    obtain ⟨ot, hot, hoc⟩ := id p'
    have hne : a ≠ s1.heap.objs.size := Nat.ne_of_lt (Heap.lt_size hot)
    have W := (walks_rt (prog := X.prog) (w := X.w) (A := X.A.in1.in1) (I1.ok.hd hc) s1.heap.objs.size a hne its.toArray hn).toS
    refine rev_fin (s1 := s1) (T := "reversed") I2 hf rv hz W (fun i s st => st.2.1.typeIs) (by decide) (by decide) (hint_tup hn) ⟨Nat.zero_le _, ?_, ⟨ot, Heap.get?_push_of_some _ hot, hoc⟩⟩ (fun b hb => ?_) (by simp) q
    · rw [e00]
      exact ⟨_, Heap.get?_push_size _ rfl, rfl, rfl⟩
    · show b < (s1.heap.push _).objs.size
      rw [Heap.size_push]
      rcases List.mem_cons.mp hb with z | z
      · rw [z]; exact Nat.lt_succ_self _
      · rw [List.mem_singleton.mp z]; exact Nat.lt_succ_of_lt (Heap.lt_size hot)
end

/-! ### xs == [], xs != [] -/
section
variable {X : Cx}
def rEqNil (K : PySem.W.Frag) : R2 := fun x y H Q => ∃ a b xs, x = .ref a ∧ y = .ref b ∧ SqL K H a xs ∧ SqL K H b [] ∧ Q (.bl xs.isEmpty) H
def rNeNil (K : PySem.W.Frag) : R2 := fun x y H Q => ∃ a b xs, x = .ref a ∧ y = .ref b ∧ SqL K H a xs ∧ SqL K H b [] ∧ Q (.bl (!xs.isEmpty)) H
theorem vals_nil {its : List Value} (r : Vals [] its) : its = [] := by cases r; rfl
theorem op_eqNil (hu : X.A.units + 64 < cLine) : OpR X (compareOp .Eq) (rEqNil X.K) := by
  intro pins s σ H x y v u Q I rx ry h
  obtain ⟨a, b, xs, rfl, rfl, ha, hb, q⟩ := h
  cases rx
  cases ry
  have hu' : X.A.units < cLine := by omega
  obtain ⟨its, rv, p, _⟩ := I.list ha
  obtain ⟨its', rv', p', _⟩ := I.list hb
  have e' := vals_nil rv'
  subst e'
  cases xs with
  | nil =>
    have e := vals_nil rv
    subst e
    refine SeqAt.eq_listAt (e := fun _ => true) p.isList p'.isList rfl hu' (fun j h1 => absurd h1 (by simp)) ?_
    exact ⟨.bl true, H, I, rfl, q⟩
  | cons z r =>
    cases rv with
    | cons r1 r2 =>
      refine SeqAt.eq_list_lengthsAt p.isList p'.isList (by simp) hu' ?_
      exact ⟨.bl false, H, I, rfl, q⟩
theorem op_neNil (hu : X.A.units + 64 < cLine) : OpR X (compareOp .NotEq) (rNeNil X.K) := by
  intro pins s σ H x y v u Q I rx ry h
  obtain ⟨a, b, xs, rfl, rfl, ha, hb, q⟩ := h
  cases rx
  cases ry
  have hu' : X.A.units < cLine := by omega
  obtain ⟨its, rv, p, _⟩ := I.list ha
  obtain ⟨its', rv', p', _⟩ := I.list hb
  have e' := vals_nil rv'
  subst e'
  cases xs with
  | nil =>
    have e := vals_nil rv
    subst e
    refine SeqAt.RcNeAt.lists (e := fun _ => true) p.isList p'.isList rfl hu' (fun j h1 => absurd h1 (by simp)) _ _ _ _ ?_
    exact ⟨.bl false, H, I, rfl, q⟩
  | cons z r =>
    cases rv with
    | cons r1 r2 =>
      refine SeqAt.RcNeAt.lists_lengths p.isList p'.isList (by simp) hu' _ _ _ _ ?_
      exact ⟨.bl true, H, I, rfl, q⟩
end
end KR
/-! ## K14B -/
/-! The text by places; short words for calls; data in the heap. -/
namespace K14
open PySem PySem.Spec PyProof.Rows L2
abbrev prog0 : Program := PySem.Challenge.pw_rerunyard_k14_whole_sound_programs
def top (i : Nat) : Stmt := prog0.main.body.getD i (.Pass ⟨0, 0, 0, 0⟩)
abbrev s_inner : Stmt := top 1
abbrev N_inner : List Str := ["statement"]
abbrev pp_inner : List Str := ["statement"]
theorem sc_inner : FnScope N_inner pp_inner (defScope s_inner) := ⟨rfl, rfl, rfl, by decide +kernel, rfl, by decide +kernel, by decide +kernel⟩
abbrev s_allst : Stmt := top 2
abbrev N_allst : List Str := ["body", "found", "statement", "inner"]
abbrev pp_allst : List Str := ["body"]
theorem sc_allst : FnScope N_allst pp_allst (defScope s_allst) := ⟨rfl, rfl, rfl, by decide +kernel, rfl, by decide +kernel, by decide +kernel⟩
abbrev s_init : Stmt := inClass (top 3) 0
abbrev N_init : List Str := ["self", "program", "tools", "stores", "rows", "hands", "name", "names", "body", "one"]
abbrev pp_init : List Str := ["self", "program"]
theorem sc_init : FnScope N_init pp_init (defScope s_init) := ⟨rfl, rfl, rfl, by decide +kernel, rfl, by decide +kernel, by decide +kernel⟩
abbrev s_lack : Stmt := inClass (top 3) 1
abbrev N_lack : List Str := ["self", "kind", "k", "name"]
abbrev pp_lack : List Str := ["self", "kind", "k", "name"]
theorem sc_lack : FnScope N_lack pp_lack (defScope s_lack) := ⟨rfl, rfl, rfl, by decide +kernel, rfl, by decide +kernel, by decide +kernel⟩
abbrev s_look : Stmt := inClass (top 3) 2
abbrev N_look : List Str := ["self", "statement", "word", "found"]
abbrev pp_look : List Str := ["self", "statement"]
theorem sc_look : FnScope N_look pp_look (defScope s_look) := ⟨rfl, rfl, rfl, by decide +kernel, rfl, by decide +kernel, by decide +kernel⟩
abbrev s_faults : Stmt := top 4
abbrev N_faults : List Str := ["program", "looker", "found", "name", "names", "body", "statement"]
abbrev pp_faults : List Str := ["program"]
theorem sc_faults : FnScope N_faults pp_faults (defScope s_faults) := ⟨rfl, rfl, rfl, by decide +kernel, rfl, by decide +kernel, by decide +kernel⟩
abbrev s_sound : Stmt := top 5
abbrev N_sound : List Str := ["program"]
abbrev pp_sound : List Str := ["program"]
theorem sc_sound : FnScope N_sound pp_sound (defScope s_sound) := ⟨rfl, rfl, rfl, by decide +kernel, rfl, by decide +kernel, by decide +kernel⟩
abbrev s_cell : Stmt := top 7
abbrev N_cell : List Str := ["script", "k"]
abbrev pp_cell : List Str := ["script", "k"]
theorem sc_cell : FnScope N_cell pp_cell (defScope s_cell) := ⟨rfl, rfl, rfl, by decide +kernel, rfl, by decide +kernel, by decide +kernel⟩
abbrev s_stir : Stmt := top 8
abbrev N_stir : List Str := ["cell", "k", "number"]
abbrev pp_stir : List Str := ["cell", "k"]
theorem sc_stir : FnScope N_stir pp_stir (defScope s_stir) := ⟨rfl, rfl, rfl, by decide +kernel, rfl, by decide +kernel, by decide +kernel⟩
abbrev s_barred : Stmt := top 9
abbrev N_barred : List Str := ["some"]
abbrev pp_barred : List Str := []
theorem sc_barred : FnScope N_barred pp_barred (defScope s_barred) := ⟨rfl, rfl, rfl, by decide +kernel, rfl, by decide +kernel, by decide +kernel⟩
abbrev s_names : Stmt := top 10
abbrev N_names : List Str := ["head", "k", "many", "letters", "size", "stem", "found", "j", "number", "at", "word", "one", "n"]
abbrev pp_names : List Str := ["head", "k", "many"]
theorem sc_names : FnScope N_names pp_names (defScope s_names) := ⟨rfl, rfl, rfl, by decide +kernel, rfl, by decide +kernel, by decide +kernel⟩
abbrev s_name : Stmt := top 11
abbrev N_name : List Str := ["number", "names"]
abbrev pp_name : List Str := ["number"]
theorem sc_name : FnScope N_name pp_name (defScope s_name) := ⟨rfl, rfl, rfl, by decide +kernel, rfl, by decide +kernel, by decide +kernel⟩
abbrev s_leaf : Stmt := top 12
abbrev N_leaf : List Str := ["number", "kind"]
abbrev pp_leaf : List Str := ["number"]
theorem sc_leaf : FnScope N_leaf pp_leaf (defScope s_leaf) := ⟨rfl, rfl, rfl, by decide +kernel, rfl, by decide +kernel, by decide +kernel⟩
abbrev s_tree : Stmt := top 13
abbrev N_tree : List Str := ["cell", "k", "deep", "number", "sign"]
abbrev pp_tree : List Str := ["cell", "k", "deep"]
theorem sc_tree : FnScope N_tree pp_tree (defScope s_tree) := ⟨rfl, rfl, rfl, by decide +kernel, rfl, by decide +kernel, by decide +kernel⟩
abbrev s_worded : Stmt := top 14
abbrev N_worded : List Str := ["tree", "more", "left", "right"]
abbrev pp_worded : List Str := ["tree", "more"]
theorem sc_worded : FnScope N_worded pp_worded (defScope s_worded) := ⟨rfl, rfl, rfl, by decide +kernel, rfl, by decide +kernel, by decide +kernel⟩
abbrev s_deepest : Stmt := top 15
abbrev N_deepest : List Str := ["word", "deep", "most", "sign"]
abbrev pp_deepest : List Str := ["word"]
theorem sc_deepest : FnScope N_deepest pp_deepest (defScope s_deepest) := ⟨rfl, rfl, rfl, by decide +kernel, rfl, by decide +kernel, by decide +kernel⟩
abbrev s_expr : Stmt := top 16
abbrev N_expr : List Str := ["cell", "k", "tree", "more", "word"]
abbrev pp_expr : List Str := ["cell", "k"]
theorem sc_expr : FnScope N_expr pp_expr (defScope s_expr) := ⟨rfl, rfl, rfl, by decide +kernel, rfl, by decide +kernel, by decide +kernel⟩
abbrev s_good : Stmt := top 17
abbrev N_good : List Str := ["head", "k", "name", "number", "far", "numbers", "count", "most", "first", "j", "one"]
abbrev pp_good : List Str := ["head", "k", "name"]
theorem sc_good : FnScope N_good pp_good (defScope s_good) := ⟨rfl, rfl, rfl, by decide +kernel, rfl, by decide +kernel, by decide +kernel⟩
abbrev s_goods : Stmt := top 18
abbrev N_goods : List Str := ["head", "rows", "parts", "names", "k", "name", "row", "place", "told"]
abbrev pp_goods : List Str := ["head"]
theorem sc_goods : FnScope N_goods pp_goods (defScope s_goods) := ⟨rfl, rfl, rfl, by decide +kernel, rfl, by decide +kernel, by decide +kernel⟩
abbrev s_plain : Stmt := top 19
abbrev N_plain : List Str := ["cell", "k", "number", "name", "kind", "some", "word", "tree", "deed", "other", "j", "one"]
abbrev pp_plain : List Str := ["cell", "k"]
theorem sc_plain : FnScope N_plain pp_plain (defScope s_plain) := ⟨rfl, rfl, rfl, by decide +kernel, rfl, by decide +kernel, by decide +kernel⟩
abbrev s_opener : Stmt := top 20
abbrev N_opener : List Str := ["cell", "k", "one", "other", "sign"]
abbrev pp_opener : List Str := ["cell", "k"]
theorem sc_opener : FnScope N_opener pp_opener (defScope s_opener) := ⟨rfl, rfl, rfl, by decide +kernel, rfl, by decide +kernel, by decide +kernel⟩
abbrev s_hand : Stmt := top 21
abbrev N_hand : List Str := ["hands", "head", "opened", "name", "number", "names"]
abbrev pp_hand : List Str := ["hands", "head", "opened"]
theorem sc_hand : FnScope N_hand pp_hand (defScope s_hand) := ⟨rfl, rfl, rfl, by decide +kernel, rfl, by decide +kernel, by decide +kernel⟩
abbrev s_row : Stmt := top 22
abbrev N_row : List Str := ["cell", "k", "opened", "most", "number", "row", "told"]
abbrev pp_row : List Str := ["cell", "k", "opened", "most"]
theorem sc_row : FnScope N_row pp_row (defScope s_row) := ⟨rfl, rfl, rfl, by decide +kernel, rfl, by decide +kernel, by decide +kernel⟩
abbrev s_built : Stmt := top 23
abbrev N_built : List Str := ["script", "head", "hands", "opened", "cell", "rows", "parts"]
abbrev pp_built : List Str := ["script", "head"]
theorem sc_built : FnScope N_built pp_built (defScope s_built) := ⟨rfl, rfl, rfl, by decide +kernel, rfl, by decide +kernel, by decide +kernel⟩
abbrev s_menu : Stmt := top 24
abbrev N_menu : List Str := ["program", "kind", "other", "found", "part", "one"]
abbrev pp_menu : List Str := ["program", "kind", "other"]
theorem sc_menu : FnScope N_menu pp_menu (defScope s_menu) := ⟨rfl, rfl, rfl, by decide +kernel, rfl, by decide +kernel, by decide +kernel⟩
abbrev s_stmt : Stmt := top 25
abbrev N_stmt : List Str := ["told", "program", "head", "other", "number", "places", "wild", "some", "name", "many", "es", "hand", "names", "body"]
abbrev pp_stmt : List Str := ["told", "program", "head", "other"]
theorem sc_stmt : FnScope N_stmt pp_stmt (defScope s_stmt) := ⟨rfl, rfl, rfl, by decide +kernel, rfl, by decide +kernel, by decide +kernel⟩
abbrev s_body : Stmt := top 26
abbrev N_body : List Str := ["body", "program", "head", "other", "found", "told", "inner", "part"]
abbrev pp_body : List Str := ["body", "program", "head", "other"]
theorem sc_body : FnScope N_body pp_body (defScope s_body) := ⟨rfl, rfl, rfl, by decide +kernel, rfl, by decide +kernel, by decide +kernel⟩
abbrev s_named : Stmt := top 27
abbrev N_named : List Str := ["program", "head", "other", "hands", "name", "names", "body"]
abbrev pp_named : List Str := ["program", "head", "other"]
theorem sc_named : FnScope N_named pp_named (defScope s_named) := ⟨rfl, rfl, rfl, by decide +kernel, rfl, by decide +kernel, by decide +kernel⟩
abbrev s_order : Stmt := top 28
abbrev N_order : List Str := ["program", "found", "pile", "name", "names", "body", "told", "part"]
abbrev pp_order : List Str := ["program"]
theorem sc_order : FnScope N_order pp_order (defScope s_order) := ⟨rfl, rfl, rfl, by decide +kernel, rfl, by decide +kernel, by decide +kernel⟩
abbrev s_due : Stmt := top 29
abbrev N_due : List Str := ["program", "found", "many", "told", "tools", "stores", "rows", "hands", "name", "names", "body", "part", "one"]
abbrev pp_due : List Str := ["program"]
theorem sc_due : FnScope N_due pp_due (defScope s_due) := ⟨rfl, rfl, rfl, by decide +kernel, rfl, by decide +kernel, by decide +kernel⟩
abbrev s_copied : Stmt := top 30
abbrev N_copied : List Str := ["thing", "part"]
abbrev pp_copied : List Str := ["thing"]
theorem sc_copied : FnScope N_copied pp_copied (defScope s_copied) := ⟨rfl, rfl, rfl, by decide +kernel, rfl, by decide +kernel, by decide +kernel⟩
abbrev s_spoilt : Stmt := top 31
abbrev N_spoilt : List Str := ["told", "program", "number", "kinds", "place", "own", "some", "part", "name", "es", "one"]
abbrev pp_spoilt : List Str := ["told", "program", "number"]
theorem sc_spoilt : FnScope N_spoilt pp_spoilt (defScope s_spoilt) := ⟨rfl, rfl, rfl, by decide +kernel, rfl, by decide +kernel, by decide +kernel⟩
abbrev s_exch : Stmt := top 32
abbrev N_exch : List Str := ["body", "old", "new", "found", "told", "part"]
abbrev pp_exch : List Str := ["body", "old", "new"]
theorem sc_exch : FnScope N_exch pp_exch (defScope s_exch) := ⟨rfl, rfl, rfl, by decide +kernel, rfl, by decide +kernel, by decide +kernel⟩
abbrev s_told : Stmt := top 33
abbrev N_told : List Str := ["program", "handed", "found", "other", "good"]
abbrev pp_told : List Str := ["program"]
theorem sc_told : FnScope N_told pp_told (defScope s_told) := ⟨rfl, rfl, rfl, by decide +kernel, rfl, by decide +kernel, by decide +kernel⟩
abbrev s_law : Stmt := top 34
abbrev N_law : List Str := ["script", "head", "program", "due", "some", "number", "old", "hands", "new", "fault", "told", "name", "names", "body"]
abbrev pp_law : List Str := ["script"]
theorem sc_law : FnScope N_law pp_law (defScope s_law) := ⟨rfl, rfl, rfl, by decide +kernel, rfl, by decide +kernel, by decide +kernel⟩

/-! ### a def that stands and keeps its promise -/
def Df (K : PySem.W.Frag) (mg : Str → Option Value) (x : Str) (st : Stmt) (ps : List Str) : Prop := ∃ f fd, Fun K x x st f fd ∧ Binds K fd ps [] ∧ mg x = some (.ref f)
def Ok (P : Program) (w : World) (K : PySem.W.Frag) (mg : Str → Option Value) (base : Heap) (k : Nat) (x : Str) (ps : List Str) (sp : Sp) : Prop :=
  ∃ f fd, PySem.W.keepIn K (.ref f) = true ∧ Binds K fd ps [] ∧ mg x = some (.ref f) ∧ FnOk P w K mg base CX0 k f fd ps sp
section
variable {P : Program} {w : World} {K : PySem.W.Frag} {mg : Str → Option Value} {base : Heap}
theorem Df.ok {x : Str} {st : Stmt} {ps : List Str} {k : Nat} {sp : Sp} (d : Df K mg x st ps) (h : ∀ f fd, Fun K x x st f fd → FnOk P w K mg base CX0 k f fd ps sp) : Ok P w K mg base k x ps sp := by
  obtain ⟨f, fd, F, b, m⟩ := d
  exact ⟨f, fd, F.kp, b, m, h f fd F⟩
/-- a def by its body -/
theorem Df.mk {x : Str} {st : Stmt} {N ps : List Str} {k : Nat} {sp : Sp} (d : Df K mg x st ps) (S : FnScope N ps (defScope st)) (len : ∀ vs H Q E, sp vs H Q E → vs.length = ps.length)
    (hbody : ∀ (f : Addr) (cdv : Value) (A : Around) (outer : List Env) (s : Shared) (H : Hp) (vs : List V) (Q : VK) (E : XK), Room k (A.deeper (envOfC x (defScope st) s.heap.objs.size f cdv)) → sp vs H Q E →
      ∃ t, PSs (cxOf CX0 P w K mg base N x (defScope st) f cdv A outer s H E).nox (defBody st) t ∧ t { nx := fun _ H' => Q .non H', rt := Q } (start N vs) H) : Ok P w K mg base (k + 1) x ps sp :=
  d.ok fun f fd F => F.ok S len fun cdv A outer s H vs Q E hr h => hbody f cdv A outer s H vs Q E hr h
end
section
variable {X : Cx} {k j : Nat} {ps : List Str} {sp : Sp} {x : Str} {p pos : Pos} {e : Expr} {es : List Expr} {t : TA}
theorem pcall (G : Ok X.prog X.w X.K X.mg X.base j x ps sp) (hr : Room k X.A) (hk : j ≤ k) (hg : Gl X x) (ha : PA X (e :: es) t) (hdb : (x == ("__debug__" : Str)) = false := by decide)
    (he : starEach (e :: es) X.env = (false, eval e X.env) :: starEach es X.env := by rfl) (hpl : (backTo pos (starEach es X.env)).any (·.1) = false := by rfl) :
    PE X (.Call (.Name x p) (e :: es) [] pos) (tCall sp [] E0 t) := by
  obtain ⟨f, fd, kp, b, m, F⟩ := G
  exact pe_call F (hr.mono hk) hg m kp b .nil pass0 ha hdb he hpl
theorem pcall0 (G : Ok X.prog X.w X.K X.mg X.base j x ps sp) (hr : Room k X.A) (hk : j ≤ k) (hg : Gl X x) (hdb : (x == ("__debug__" : Str)) = false := by decide) :
    PE X (.Call (.Name x p) [] [] pos) (tCall sp [] E0 tNil) := by
  obtain ⟨f, fd, kp, b, m, F⟩ := G
  exact pe_call0 F (hr.mono hk) hg m kp b .nil pass0 hdb
end
/-! ### rules with the written part named (in a comprehension's block its own name cannot stand) -/
section
variable {X : Cx} (K : PySem.W.Frag) (hK : X.K = K)
include hK
theorem ix_listK : IxR X (rIxL K) := by subst hK; exact ix_list
theorem ix_tupK : IxR X (rIxT K) := by subst hK; exact ix_tup
theorem sl_listK : SlR X (rSlL K) := by subst hK; exact sl_list
theorem sl_tupK : SlR X (rSlT K) := by subst hK; exact sl_tup
theorem op_catTK : OpR X (binaryOp .Add) (rCatT K) := by subst hK; exact op_catT
theorem op_inK : OpR X (compareOp .In) (rIn K false) := by subst hK; exact op_in_seq
theorem op_notInK : OpR X (compareOp .NotIn) (rIn K true) := by subst hK; exact op_notIn_seq
def rLenK (K : PySem.W.Frag) : List V → Hp → VK → Prop := fun xs H Q => ∃ p ys, xs = [.ref p] ∧ (SqL K H p ys ∨ SqT K H p ys) ∧ Q (.int ys.length) H
def rListK (K : PySem.W.Frag) : List V → Hp → VK → Prop := fun xs H Q => ∃ p ys, xs = [.ref p] ∧ (SqL K H p ys ∨ SqT K H p ys) ∧ ∀ l, H l = none → Q (.ref l) (upd H l (.lst ys))
def rTupleK (K : PySem.W.Frag) : List V → Hp → VK → Prop := fun xs H Q => ∃ p ys, xs = [.ref p] ∧ ((SqL K H p ys ∧ ∀ l, H l = none → Q (.ref l) (upd H l (.tup ys))) ∨ (SqT K H p ys ∧ Q (.ref p) H))
theorem call_lenK : CallR X (.builtin "len") (rLenK K) := by subst hK; exact call_len_seq
theorem call_listK : CallR X (.type "list") (rListK K) := by subst hK; exact call_list_of
theorem call_tupleK : CallR X (.type "tuple") (rTupleK K) := by subst hK; exact call_tuple_of
theorem op_eqNilK (hu : X.A.units + 64 < cLine) : OpR X (compareOp .Eq) (KR.rEqNil K) := by subst hK; exact KR.op_eqNil hu
theorem op_neNilK (hu : X.A.units + 64 < cLine) : OpR X (compareOp .NotEq) (KR.rNeNil K) := by subst hK; exact KR.op_neNil hu
theorem op_eqDK (hu : X.A.units + 64 < cLine) : OpR X (compareOp .Eq) (rEqD K) := by subst hK; exact op_eqD hu
theorem op_neDK (hu : X.A.units + 64 < cLine) : OpR X (compareOp .NotEq) (rNeD K) := by subst hK; exact op_neD hu
theorem call_isiK2 : CallR X (.builtin "isinstance") (rIsi K) := by subst hK; exact call_isi
theorem pi_listK {tg l : Expr} {tl : TE} (hl : PE X l tl) : PI X tg l (iList K tl) := by subst hK; exact pi_list hl
theorem pi_tupK {tg l : Expr} {tl : TE} (hl : PE X l tl) : PI X tg l (iTup K tl) := by subst hK; exact pi_tup hl
theorem pg_tupK {es : List Expr} {k : Nat} {t : TGs} {n : Nat} {pos : Pos} (hc : X.calm = true) (h : PGs X es t)
    (hn : (assignEach es X.env).length = n := by rfl) (hst : (assignEach es X.env).findIdx? (·.1) = none := by rfl) : PG X (.Tuple es k pos) (gTup K n t) := by subst hK; exact pg_tup hc h hn hst
theorem pg_unlK {es : List Expr} {k : Nat} {t : TGs} {n : Nat} {pos : Pos} (hc : X.calm = true) (h : PGs X es t)
    (hn : (assignEach es X.env).length = n := by rfl) (hst : (assignEach es X.env).findIdx? (·.1) = none := by rfl) : PG X (.Tuple es k pos) (gUnl K n t) := by subst hK; exact pg_unl hc h hn hst
end
/-- the built-ins are still the built-ins -/
structure Tx (mg : Str → Option Value) : Prop where
  len : mg "len" = none
  range : mg "range" = none
  int : mg "int" = none
  str : mg "str" = none
  max : mg "max" = none
  isinstance : mg "isinstance" = none
  tuple : mg "tuple" = none
  list : mg "list" = none
  reversed : mg "reversed" = none
  bool : mg "bool" = none

/-! ### heaps -/
theorem nw {H : Hp} {p : Addr} (h : H p = none) (o : HO) : Same H (upd H p o) := fun b x e => by
  rw [upd_ne (ne_of_none e h)]
  exact e
/-- what stands outside of S -/
def hid (H : Hp) (S : List Addr) : Hp := fun a => if a ∈ S then none else H a
theorem hid_in {H : Hp} {S : List Addr} {a : Addr} (h : a ∈ S) : hid H S a = none := by unfold hid; rw [if_pos h]
theorem hid_out {H : Hp} {S : List Addr} {a : Addr} (h : a ∉ S) : hid H S a = H a := by unfold hid; rw [if_neg h]
theorem of_hid {H : Hp} {S : List Addr} {a : Addr} {o : HO} (h : hid H S a = some o) : H a = some o ∧ a ∉ S := by
  by_cases c : a ∈ S
  · rw [hid_in c] at h; cases h
  · rw [hid_out c] at h; exact ⟨h, c⟩
theorem hid_nil (H : Hp) : hid H [] = H := by funext a; exact hid_out (by simp)
theorem hid_same {H H' : Hp} (S : List Addr) (s : Same H H') : Same (hid H S) (hid H' S) := fun a o e => by
  obtain ⟨e1, n⟩ := of_hid e
  rw [hid_out n]
  exact s a o e1
theorem hid_sub {H : Hp} {S S' : List Addr} (h : ∀ a ∈ S', a ∈ S) : Same (hid H S) (hid H S') := fun a o e => by
  obtain ⟨e1, n⟩ := of_hid e
  rw [hid_out fun z => n (h a z)]
  exact e1
theorem hid_upd {H : Hp} {S : List Addr} {a : Addr} (o : HO) (h : a ∈ S) : hid (upd H a o) S = hid H S := by
  funext b
  by_cases c : b ∈ S
  · rw [hid_in c, hid_in c]
  · rw [hid_out c, hid_out c, upd_ne fun z => c (by rw [z]; exact h)]
/-- all of S is tracked -/
def Sb (S : List Addr) (H : Hp) : Prop := ∀ a ∈ S, H a ≠ none
theorem Sb.nil (H : Hp) : Sb [] H := fun _ h => nomatch h
theorem Sb.same {S : List Addr} {H H' : Hp} (h : Sb S H) (s : Same H H') : Sb S H' := fun a m e => h a m (s.free e)
theorem Sb.cons {S : List Addr} {H : Hp} {a : Addr} {o : HO} (h : Sb S H) (e : H a = some o) : Sb (a :: S) H := fun b m => by
  rcases List.mem_cons.mp m with z | z
  · rw [z, e]; exact fun q => nomatch q
  · exact h b z
theorem Sb.out {S : List Addr} {H : Hp} {a : Addr} (h : Sb S H) (e : H a = none) : a ∉ S := fun m => h a m e
theorem Sb.upd {S : List Addr} {H : Hp} (h : Sb S H) (a : Addr) (o : HO) : Sb S (upd H a o) := fun b m => by
  by_cases c : b = a
  · rw [c, upd_same]; exact fun q => nomatch q
  · rw [upd_ne c]; exact h b m

/-! ### data in the heap -/
mutual
inductive Rp (H : Hp) : V → PyData → Prop
  | non : Rp H .non .none
  | bl (b : Bool) : Rp H (.bl b) (.bool b)
  | int (i : Int) : Rp H (.int i) (.int i)
  | str (x : Str) : Rp H (.str x) (.str x)
  | lst {a : Addr} {xs : List V} {ds : List PyData} : H a = some (.lst xs) → RpA H xs ds → Rp H (.ref a) (.list ds)
  | tup {a : Addr} {xs : List V} {ds : List PyData} : H a = some (.tup xs) → RpA H xs ds → Rp H (.ref a) (.tuple ds)
inductive RpA (H : Hp) : List V → List PyData → Prop
  | nil : RpA H [] []
  | cons {v : V} {vs : List V} {d : PyData} {ds : List PyData} : Rp H v d → RpA H vs ds → RpA H (v :: vs) (d :: ds)
end
mutual
theorem Rp.mono {H H' : Hp} (s : Same H H') : ∀ (d : PyData) (v : V), Rp H v d → Rp H' v d
  | .none, _, h => by cases h; exact .non
  | .bool b, _, h => by cases h; exact .bl b
  | .int i, _, h => by cases h; exact .int i
  | .str x, _, h => by cases h; exact .str x
  | .list ds, _, h => by
    cases h with
    | lst e r => exact .lst (s _ _ e) (RpA.mono s ds _ r)
  | .tuple ds, _, h => by
    cases h with
    | tup e r => exact .tup (s _ _ e) (RpA.mono s ds _ r)
  | .dict _, _, h => by cases h
theorem RpA.mono {H H' : Hp} (s : Same H H') : ∀ (ds : List PyData) (vs : List V), RpA H vs ds → RpA H' vs ds
  | [], _, h => by cases h; exact .nil
  | d :: ds, _, h => by
    cases h with
    | cons h1 h2 => exact .cons (Rp.mono s d _ h1) (RpA.mono s ds _ h2)
end
mutual
theorem Rp.dp {K : PySem.W.Frag} {H : Hp} : ∀ (d : PyData) (v : V), Rp H v d → Dp K H v d
  | .none, _, h => by cases h; exact .non
  | .bool b, _, h => by cases h; exact .bl b
  | .int i, _, h => by cases h; exact .int i
  | .str x, _, h => by cases h; exact .str x
  | .list ds, _, h => by
    cases h with
    | lst e r => exact .lst (SqL.of e) (RpA.dp ds _ r)
  | .tuple ds, _, h => by
    cases h with
    | tup e r => exact .tup (SqT.of e) (RpA.dp ds _ r)
  | .dict _, _, h => by cases h
theorem RpA.dp {K : PySem.W.Frag} {H : Hp} : ∀ (ds : List PyData) (vs : List V), RpA H vs ds → DpAll K H vs ds
  | [], _, h => by cases h; exact .nil
  | d :: ds, _, h => by
    cases h with
    | cons h1 h2 => exact .cons (Rp.dp d _ h1) (RpA.dp ds _ h2)
end
theorem RpA.length {H : Hp} : ∀ {vs : List V} {ds : List PyData}, RpA H vs ds → vs.length = ds.length
  | _, _, .nil => rfl
  | _, _, .cons _ r => congrArg (· + 1) (RpA.length r)
theorem RpA.get {H : Hp} : ∀ {vs : List V} {ds : List PyData} {i : Nat} {d : PyData}, RpA H vs ds → ds[i]? = some d → ∃ v, vs[i]? = some v ∧ Rp H v d
  | _, _, _, _, .nil, e => by simp at e
  | _, _, 0, _, .cons r _, e => by
    have z := Option.some.inj e
    subst z
    exact ⟨_, rfl, r⟩
  | _, _, i + 1, _, .cons _ t, e => RpA.get (i := i) t e
theorem RpA.getV {H : Hp} : ∀ {vs : List V} {ds : List PyData} {i : Nat} {v : V}, RpA H vs ds → vs[i]? = some v → ∃ d, ds[i]? = some d ∧ Rp H v d
  | _, _, _, _, .nil, e => by simp at e
  | _, _, 0, _, .cons r _, e => by
    have z := Option.some.inj e
    subst z
    exact ⟨_, rfl, r⟩
  | _, _, i + 1, _, .cons _ t, e => RpA.getV (i := i) t e
theorem RpA.append {H : Hp} : ∀ {vs ws : List V} {ds es : List PyData}, RpA H vs ds → RpA H ws es → RpA H (vs ++ ws) (ds ++ es)
  | _, _, _, _, .nil, s => s
  | _, _, _, _, .cons r t, s => .cons r (RpA.append t s)
theorem RpA.one {H : Hp} {v : V} {d : PyData} (r : Rp H v d) : RpA H [v] [d] := .cons r .nil
theorem RpA.take {H : Hp} : ∀ {vs : List V} {ds : List PyData} (n : Nat), RpA H vs ds → RpA H (vs.take n) (ds.take n)
  | _, _, 0, _ => .nil
  | _, _, _ + 1, .nil => .nil
  | _, _, n + 1, .cons r t => .cons r (RpA.take n t)
theorem RpA.drop {H : Hp} : ∀ {vs : List V} {ds : List PyData} (n : Nat), RpA H vs ds → RpA H (vs.drop n) (ds.drop n)
  | _, _, 0, r => r
  | _, _, _ + 1, .nil => .nil
  | _, _, n + 1, .cons _ t => RpA.drop n t
theorem RpA.reverse {H : Hp} : ∀ {vs : List V} {ds : List PyData}, RpA H vs ds → RpA H vs.reverse ds.reverse
  | _, _, .nil => .nil
  | _, _, .cons r t => by
    rw [List.reverse_cons, List.reverse_cons]
    exact (RpA.reverse t).append (.one r)
theorem RpA.strs {H : Hp} : ∀ (xs : List Str), RpA H (xs.map V.str) (xs.map PyData.str)
  | [] => .nil
  | x :: r => .cons (.str x) (RpA.strs r)
theorem RpA.of_strs {H : Hp} : ∀ {vs : List V} {xs : List Str}, RpA H vs (xs.map PyData.str) → vs = xs.map V.str
  | _, [], h => by cases h; rfl
  | _, x :: r, h => by
    cases h with
    | cons h1 h2 =>
      cases h1
      rw [RpA.of_strs h2]
      rfl

/-- data that stands outside of S -/
def R (H : Hp) (S : List Addr) (v : V) (d : PyData) : Prop := Rp (hid H S) v d
def RA (H : Hp) (S : List Addr) (vs : List V) (ds : List PyData) : Prop := RpA (hid H S) vs ds
section
variable {H H' : Hp} {S S' : List Addr} {v : V} {vs ws : List V} {d : PyData} {ds es : List PyData} {a p : Addr} {K : PySem.W.Frag}
theorem R.mono (s : Same H H') (h : R H S v d) : R H' S v d := Rp.mono (hid_same S s) d v h
theorem RA.mono (s : Same H H') (h : RA H S vs ds) : RA H' S vs ds := RpA.mono (hid_same S s) ds vs h
theorem R.sub (s : ∀ a ∈ S', a ∈ S) (h : R H S v d) : R H S' v d := Rp.mono (hid_sub s) d v h
theorem RA.sub (s : ∀ a ∈ S', a ∈ S) (h : RA H S vs ds) : RA H S' vs ds := RpA.mono (hid_sub s) ds vs h
theorem R.tl (h : R H (a :: S) v d) : R H S v d := h.sub fun _ m => List.mem_cons_of_mem _ m
theorem RA.tl (h : RA H (a :: S) vs ds) : RA H S vs ds := h.sub fun _ m => List.mem_cons_of_mem _ m
theorem R.updS (o : HO) (m : a ∈ S) (h : R H S v d) : R (upd H a o) S v d := by
  show Rp _ _ _
  rw [hid_upd o m]
  exact h
theorem RA.updS (o : HO) (m : a ∈ S) (h : RA H S vs ds) : RA (upd H a o) S vs ds := by
  show RpA _ _ _
  rw [hid_upd o m]
  exact h
theorem R.of_upd {o : HO} (m : a ∈ S) (h : R (upd H a o) S v d) : R H S v d := by
  have h' : Rp _ _ _ := h
  rw [hid_upd o m] at h'
  exact h'
/-- what is hidden anew was not there before -/
theorem R.hide (n : H a = none) (s : Same H H') (h : R H S v d) : R H' (a :: S) v d := by
  refine Rp.mono (fun b o e => ?_) d v h
  obtain ⟨e1, m⟩ := of_hid e
  rw [hid_out fun z => ?_]
  · exact s b o e1
  · rcases List.mem_cons.mp z with z | z
    · rw [z, n] at e1; cases e1
    · exact m z
theorem RA.hide (n : H a = none) (s : Same H H') (h : RA H S vs ds) : RA H' (a :: S) vs ds := by
  refine RpA.mono (fun b o e => ?_) ds vs h
  obtain ⟨e1, m⟩ := of_hid e
  rw [hid_out fun z => ?_]
  · exact s b o e1
  · rcases List.mem_cons.mp z with z | z
    · rw [z, n] at e1; cases e1
    · exact m z
theorem R.dp (h : R H S v d) : Dp K H v d := Rp.dp d v (Rp.mono (fun a o e => (of_hid e).1) d v h)
theorem RA.length (h : RA H S vs ds) : vs.length = ds.length := RpA.length h
theorem R.list (h : R H S v (.list ds)) : ∃ a xs, v = .ref a ∧ H a = some (.lst xs) ∧ a ∉ S ∧ RA H S xs ds := by
  cases h with
  | lst e r => exact ⟨_, _, rfl, (of_hid e).1, (of_hid e).2, r⟩
theorem R.tuple (h : R H S v (.tuple ds)) : ∃ a xs, v = .ref a ∧ H a = some (.tup xs) ∧ a ∉ S ∧ RA H S xs ds := by
  cases h with
  | tup e r => exact ⟨_, _, rfl, (of_hid e).1, (of_hid e).2, r⟩
theorem R.str_inv {x : Str} (h : R H S v (.str x)) : v = .str x := by cases h; rfl
theorem R.int_inv {x : Int} (h : R H S v (.int x)) : v = .int x := by cases h; rfl
theorem R.bl_inv {x : Bool} (h : R H S v (.bool x)) : v = .bl x := by cases h; rfl
theorem R.mkL (e : H a = some (.lst vs)) (m : a ∉ S) (r : RA H S vs ds) : R H S (.ref a) (.list ds) := Rp.lst (by rw [hid_out m]; exact e) r
theorem R.mkT (e : H a = some (.tup vs)) (m : a ∉ S) (r : RA H S vs ds) : R H S (.ref a) (.tuple ds) := Rp.tup (by rw [hid_out m]; exact e) r
/-- a new list, a new tuple -/
theorem R.newL (b : Sb S H) (n : H p = none) (r : RA H S vs ds) : R (L2.upd H p (.lst vs)) S (.ref p) (.list ds) := .mkL upd_same (b.out n) (r.mono (nw n _))
theorem R.newT (b : Sb S H) (n : H p = none) (r : RA H S vs ds) : R (L2.upd H p (.tup vs)) S (.ref p) (.tuple ds) := .mkT upd_same (b.out n) (r.mono (nw n _))
theorem RA.get {i : Nat} (h : RA H S vs ds) (e : ds[i]? = some d) : ∃ v, vs[i]? = some v ∧ R H S v d := RpA.get h e
theorem RA.getV {i : Nat} (h : RA H S vs ds) (e : vs[i]? = some v) : ∃ d, ds[i]? = some d ∧ R H S v d := RpA.getV h e
theorem RA.append (h : RA H S vs ds) (h' : RA H S ws es) : RA H S (vs ++ ws) (ds ++ es) := RpA.append h h'
theorem RA.nil : RA H S [] [] := RpA.nil
theorem RA.cons (h : R H S v d) (h' : RA H S vs ds) : RA H S (v :: vs) (d :: ds) := RpA.cons h h'
theorem RA.one (h : R H S v d) : RA H S [v] [d] := RpA.one h
theorem RA.take (n : Nat) (h : RA H S vs ds) : RA H S (vs.take n) (ds.take n) := RpA.take n h
theorem RA.drop (n : Nat) (h : RA H S vs ds) : RA H S (vs.drop n) (ds.drop n) := RpA.drop n h
theorem RA.reverse (h : RA H S vs ds) : RA H S vs.reverse ds.reverse := RpA.reverse h
theorem RA.uncons (h : RA H S vs (d :: ds)) : ∃ v r, vs = v :: r ∧ R H S v d ∧ RA H S r ds := by
  cases h with
  | cons h1 h2 => exact ⟨_, _, rfl, h1, h2⟩
theorem RA.nil_inv (h : RA H S vs []) : vs = [] := by cases h; rfl
theorem RA.strs (xs : List Str) : RA H S (xs.map V.str) (xs.map PyData.str) := RpA.strs xs
theorem RA.of_strs {xs : List Str} (h : RA H S vs (xs.map PyData.str)) : vs = xs.map V.str := RpA.of_strs h
theorem R.rstr (x : Str) : R H S (.str x) (.str x) := Rp.str x
theorem R.rint (x : Int) : R H S (.int x) (.int x) := Rp.int x
theorem R.rbl (x : Bool) : R H S (.bl x) (.bool x) := Rp.bl x
end

/-! ### what is walked: n items, the heap may grow meanwhile -/
structure Src (J : L2.It) (n : Nat) (item : Nat → V → Prop) (H1 : Hp) : Prop where
  go : ∀ i H, Same H1 H → i < n → J.go i H
  yld : ∀ i H x H', Same H1 H → i < n → J.yld i H x H' → H' = H ∧ item i x
  stop : ∀ H, Same H1 H → J.stop n H
theorem same_tup {K : PySem.W.Frag} {H H' : Hp} {a : Addr} {xs : List V} (e : Same H H') (h : SqT K H a xs) : SqT K H' a xs := by
  rcases h with (h | ⟨o, h⟩) | h
  · exact .inl (.inl (e _ _ h))
  · exact .inl (.inr ⟨o, e _ _ h⟩)
  · exact .inr h
theorem Src.list {K : PySem.W.Frag} {a : Addr} {xs : List V} {H1 : Hp} (h : SqL K H1 a xs) : Src (Itl K a) xs.length (fun i x => xs[i]? = some x) H1 where
  go := fun i H s hi => ⟨xs, xs[i], s.seq h, List.getElem?_eq_getElem hi⟩
  yld := fun i H x H' s hi y => ⟨y.1, y.2 xs (s.seq h)⟩
  stop := fun H s => ⟨xs, s.seq h, Nat.le_refl _⟩
theorem Src.tup {K : PySem.W.Frag} {a : Addr} {xs : List V} {H1 : Hp} (h : SqT K H1 a xs) : Src (Itt K a) xs.length (fun i x => xs[i]? = some x) H1 where
  go := fun i H s hi => ⟨xs, xs[i], same_tup s h, List.getElem?_eq_getElem hi⟩
  yld := fun i H x H' s hi y => ⟨y.1, y.2 xs (same_tup s h)⟩
  stop := fun H s => ⟨xs, same_tup s h, Nat.le_refl _⟩
theorem Src.rng (lo : Int) (n : Nat) (H1 : Hp) : Src (Itr lo n) n (fun i x => x = .int (lo + i)) H1 where
  go := fun i H s hi => hi
  yld := fun i H x H' s hi y => y
  stop := fun H s => Nat.le_refl _
theorem Src.str (x : Str) (H1 : Hp) : Src (Its x) x.cps.size (fun i v => ∃ c, x.cps[i]? = some c ∧ v = .str ⟨#[c]⟩) H1 where
  go := fun i H s hi => hi
  yld := fun i H v H' s hi y => y
  stop := fun H s => Nat.le_refl _
/-- a loop -/
theorem for_src {J : L2.It} {n : Nat} {item : Nat → V → Prop} {Hb H1 : Hp} {g : TG} {tb : TS} {D : Ends} {σ : L2.St} (src : Src J n item Hb) (Pv : Nat → L2.St → Hp → Prop) (h0 : Pv 0 σ H1) (hsm : ∀ i σ H, Pv i σ H → Same Hb H)
    (hs : ∀ i x σ H, i < n → item i x → Pv i σ H → g x σ H fun σ2 H2 => tb { D with nx := Pv (i + 1), ct := Pv (i + 1), bk := D.nx } σ2 H2) (hd : ∀ σ H, Pv n σ H → D.nx σ H) :
    ∃ W : Nat → Nat → L2.St → Hp → Prop, (∃ m, W 0 m σ H1) ∧ ∀ i m σ H, W i m σ H →
      (J.stop i H ∧ D.nx σ H) ∨ (J.go i H ∧ ∃ N : L2.St → Hp → Prop, (∀ σ' H', N σ' H' → ∃ m', m' < m ∧ W (i + 1) m' σ' H') ∧ ∀ x H', J.yld i H x H' → g x σ H' fun σ2 H2 => tb { D with nx := N, ct := N, bk := D.nx } σ2 H2) := by
  refine ⟨fun i m σ H => m = n - i ∧ i ≤ n ∧ Pv i σ H, ⟨n, by simp, Nat.zero_le _, h0⟩, ?_⟩
  rintro i m σ H ⟨rfl, hi, p⟩
  by_cases hlt : i < n
  · refine .inr ⟨src.go i H (hsm i σ H p) hlt, Pv (i + 1), fun σ' H' p' => ⟨n - (i + 1), by omega, rfl, hlt, p'⟩, fun x H' y => ?_⟩
    obtain ⟨e, yi⟩ := src.yld i H x H' (hsm i σ H p) hlt y
    subst e
    exact hs i x σ _ hlt yi p
  · have e : i = n := by omega
    subst e
    exact .inl ⟨src.stop H (hsm _ σ H p), hd σ H p⟩

/-! ### comprehensions -/
/-- what an expression gives, wherever it is asked with more in the heap -/
def EvR (te : TE) (σ : L2.St) (H : Hp) (S : List Addr) (d : PyData) : Prop := ∀ Q : VK, (∀ v H', Same H H' → R H' S v d → Q v H') → te σ H Q
/-- [e for x in .. if ..]: os tells of each item what it gives -/
theorem lc_gen {J : L2.It} {n : Nat} {item : Nat → V → Prop} {os : List (Option PyData)} {g : TG} {tt : TT} {te : TE} {vs : List Nat} {σ : L2.St} {H1 : Hp} {D : Addr} {S : List Addr} {Qd : Hp → Prop}
    (src : Src J n item H1) (nD : H1 D = none) (b : Sb S H1) (len : os.length = n) (small : n ≤ 100000)
    (hs : ∀ i x o H, item i x → os[i]? = some o → Same H1 H → Sb (D :: S) H → ∀ (Q : VK) (N : Hp → Prop), (∀ y H' d, o = some d → Same H H' → R H' (D :: S) y d → Q y H') → (∀ H', o = none → Same H H' → N H') →
      g x (wipe σ vs) H fun σ2 H2 => wipe σ2 vs = wipe σ vs ∧ tt σ2 H2 fun b H3 => if b = true then te σ2 H3 Q else N H3)
    (hd : ∀ H, Same H1 H → R H S (.ref D) (.list (os.filterMap id)) → Qd H) :
    ∃ W : Nat → Nat → Hp → Prop, (∃ m, W 0 m (upd H1 D (.lst []))) ∧ ∀ i m H, W i m H →
      (J.stop i H ∧ Qd H) ∨ (J.go i H ∧ ∃ Nx : Hp → Prop, (∀ H', Nx H' → ∃ m', m' < m ∧ W (i + 1) m' H') ∧ ∀ x H', J.yld i H x H' → g x (wipe σ vs) H' fun σ2 H2 => wipe σ2 vs = wipe σ vs ∧ tt σ2 H2 fun b H3 =>
        if b = true then te σ2 H3 fun y H4 => ∃ acc, H4 D = some (.lst acc) ∧ acc.length < sizeLine ∧ Nx (upd H4 D (.lst (acc ++ [y]))) else Nx H3) := by
  let Pv : Nat → Hp → Prop := fun i H => ∃ acc, H D = some (.lst acc) ∧ acc.length ≤ i ∧ Same H1 H ∧ RA H (D :: S) acc ((os.take i).filterMap id)
  refine ⟨fun i m H => m = n - i ∧ i ≤ n ∧ Pv i H, ⟨n, by simp, Nat.zero_le _, [], upd_same, Nat.le_refl _, nw nD _, .nil⟩, ?_⟩
  rintro i m H ⟨rfl, hi, acc, e, hlen, sm, ra⟩
  by_cases hlt : i < n
  · refine .inr ⟨src.go i H sm hlt, Pv (i + 1), fun H' p' => ⟨n - (i + 1), by omega, rfl, hlt, p'⟩, fun x H' y => ?_⟩
    obtain ⟨e0, yi⟩ := src.yld i H x H' sm hlt y
    subst e0
    have ho : os[i]? = some os[i] := List.getElem?_eq_getElem (by omega)
    have e1 : os.take (i + 1) = os.take i ++ [os[i]] := by rw [List.take_add_one, ho]; rfl
    refine hs i x os[i] _ yi ho sm ((b.same sm).cons e) _ _ (fun y H'' d eo s r => ⟨acc, s _ _ e, Nat.lt_of_le_of_lt (m := 100000) (by omega) (by decide), acc ++ [y], upd_same, by simp only [List.length_append, List.length_cons, List.length_nil]; omega, fun c o z => ?_, ?_⟩) (fun H'' eo s => ⟨acc, s _ _ e, Nat.le_succ_of_le hlen, sm.trans s, ?_⟩)
    · rw [upd_ne (ne_of_none z nD)]
      exact s _ _ (sm _ _ z)
    · rw [e1, List.filterMap_append, eo]
      exact ((ra.mono s).updS _ (List.mem_cons_self ..)).append (.one (r.updS _ (List.mem_cons_self ..)))
    · rw [e1, List.filterMap_append, eo]
      have e2 : ([none] : List (Option PyData)).filterMap id = [] := rfl
      rw [e2, List.append_nil]
      exact ra.mono s
  · have e0 : i = n := by omega
    subst e0
    refine .inl ⟨src.stop H sm, hd H sm ?_⟩
    rw [← len, List.take_length] at ra
    exact .mkL e (b.out nD) ra.tl
theorem fm_some (ds : List PyData) : (ds.map some).filterMap id = ds := by
  induction ds with
  | nil => rfl
  | cons d r ih => rw [List.map_cons, List.filterMap_cons]; exact congrArg (d :: ·) ih
/-- [e for x in ..] -/
theorem lc_data {J : L2.It} {n : Nat} {item : Nat → V → Prop} {ds : List PyData} {g : TG} {te : TE} {vs : List Nat} {σ : L2.St} {H1 : Hp} {D : Addr} {S : List Addr} {Qd : Hp → Prop}
    (src : Src J n item H1) (nD : H1 D = none) (b : Sb S H1) (len : ds.length = n) (small : n ≤ 100000)
    (hs : ∀ i x d H, item i x → ds[i]? = some d → Same H1 H → Sb (D :: S) H → ∀ (Q : VK), (∀ y H', Same H H' → R H' (D :: S) y d → Q y H') →
      g x (wipe σ vs) H fun σ2 H2 => wipe σ2 vs = wipe σ vs ∧ te σ2 H2 Q)
    (hd : ∀ H, Same H1 H → R H S (.ref D) (.list ds) → Qd H)
    (mono : ∀ x H (P Q : L2.St → Hp → Prop), (∀ σ2 H2, P σ2 H2 → Q σ2 H2) → g x (wipe σ vs) H P → g x (wipe σ vs) H Q) :
    ∃ W : Nat → Nat → Hp → Prop, (∃ m, W 0 m (upd H1 D (.lst []))) ∧ ∀ i m H, W i m H →
      (J.stop i H ∧ Qd H) ∨ (J.go i H ∧ ∃ Nx : Hp → Prop, (∀ H', Nx H' → ∃ m', m' < m ∧ W (i + 1) m' H') ∧ ∀ x H', J.yld i H x H' → g x (wipe σ vs) H' fun σ2 H2 => wipe σ2 vs = wipe σ vs ∧ tYes σ2 H2 fun b H3 =>
        if b = true then te σ2 H3 fun y H4 => ∃ acc, H4 D = some (.lst acc) ∧ acc.length < sizeLine ∧ Nx (upd H4 D (.lst (acc ++ [y]))) else Nx H3) := by
  refine lc_gen (os := ds.map some) (S := S) src nD b (by rw [List.length_map]; exact len) small (fun i x o H y ho sm sb Q N hq hn => ?_) fun H sm r => hd H sm (by rw [fm_some] at r; exact r)
  rw [List.getElem?_map] at ho
  cases e : ds[i]? with
  | none => rw [e] at ho; cases ho
  | some d =>
    rw [e] at ho
    have eo : some d = o := Option.some.inj ho
    refine mono _ _ _ _ (fun σ2 H2 p => ?_) (hs i x d H y e sm sb Q fun y H' s r => hq y H' d eo.symm s r)
    exact ⟨p.1, show if true = true then te σ2 H2 Q else N H2 from iteT p.2⟩
end K14
/-! ## K14C -/
namespace K14
open PySem PySem.Spec PyProof.Rows L2 KR
/-! ### lists at a place -/
theorem atI_in {α : Type} {xs : List α} {i : Int} (h0 : 0 ≤ i) (h1 : i < (xs.length : Int)) : ∃ v, xs[i.toNat]? = some v ∧ atI xs i = some v := by
  have hj : i.toNat < xs.length := by omega
  refine ⟨xs[i.toNat], List.getElem?_eq_getElem hj, ?_⟩
  have e : ((i.toNat : Nat) : Int) = i := by omega
  have q := atI_nat (xs := xs) (j := i.toNat) (List.getElem?_eq_getElem hj)
  rw [e] at q
  exact q
theorem atI_mem {α : Type} {xs : List α} {i : Int} (h0 : 0 ≤ i) (h1 : i < (xs.length : Int)) : ∃ v, v ∈ xs ∧ atI xs i = some v := by
  obtain ⟨v, e, h⟩ := atI_in h0 h1
  exact ⟨v, List.mem_of_getElem? e, h⟩
theorem small5 {n : Nat} (h : n ≤ 100000) : n ≤ sizeLine := Nat.le_trans h (by decide)
theorem lt5 {n : Nat} (h : n < 100000) : n < sizeLine := Nat.lt_of_lt_of_le h (by decide)
section
variable {P : Program} {w : World} {K : PySem.W.Frag} {mg : Str → Option Value} {base : Heap}
/-! ### stir -/
def stirN (c k : Int) : Int := (c + 1013 * k + 1) * 16807 % 2147483647
def stirF (c k : Int) : Int :=
  if 10 ^ (18 : Int).toNat ≤ c then ((c - 10 ^ (18 : Int).toNat) / 2 ^ (28 * k).toNat) % 2 ^ (28 : Int).toNat
  else (stirN c k * stirN c k % 2147483629) * 39373 % 2147483587 / 8
theorem stirF_lo (c k : Int) : 0 ≤ stirF c k := by
  unfold stirF
  split
  · exact Int.emod_nonneg _ (by decide)
  · exact Int.ediv_nonneg (Int.emod_nonneg _ (by decide)) (by decide)
theorem stirF_hi (c k : Int) : stirF c k < 268435456 := by
  unfold stirF
  split
  · exact Int.emod_lt_of_pos _ (by decide)
  · have h := Int.emod_lt_of_pos ((stirN c k * stirN c k % 2147483629) * 39373) (show (0 : Int) < 2147483587 by decide)
    omega
def sp_stir : Sp := fun vs H Q _ => ∃ c k : Int, vs = [.int c, .int k] ∧ 0 ≤ k ∧ Q (.int (stirF c k)) H
theorem ok_stir (d : Df K mg "_law_stir" s_stir pp_stir) : Ok P w K mg base 1 "_law_stir" pp_stir sp_stir := by
  refine d.mk sc_stir (fun vs H Q E h => ?_) (fun f cdv A outer s H vs Q E hr h => ?_)
  · obtain ⟨c, k, rfl, _⟩ := h; rfl
  obtain ⟨c, k, rfl, h0, q⟩ := h
  refine ⟨_, (pss_cons (ps_if (pt_cmpR op_ge (pv 0) (pe_op op_pow pe_int pe_int) (nomark _)) (pss_one (ps_ret (pe_op op_mod (pe_op op_shr (pe_op op_sub (pv 0) (pe_op op_pow pe_int pe_int)) (pe_op op_mul pe_int (pv 1))) (pe_op op_pow pe_int pe_int)))) pss_nil)
      (pss_cons (ps_set (i := 2) sc_stir.nd rfl (by first | exact .inl rfl | exact .inr rfl) (pe_op op_mod (pe_op op_mul (pe_op op_add (pe_op op_add (pv 0) (pe_op op_mul pe_int (pv 1))) pe_int) pe_int) pe_int))
      (pss_cons (ps_set (i := 2) sc_stir.nd rfl (by first | exact .inl rfl | exact .inr rfl) (pe_op op_mod (pe_op op_mul (pv 2) (pv 2)) pe_int))
      (pss_one (ps_ret (pe_op op_fdiv (pe_op op_mod (pe_op op_mul (pv 2) pe_int) pe_int) pe_int)))))), ?_⟩
  have hp : CPow 10 18 := ⟨by decide, by decide, by decide⟩
  refine ⟨.int c, rfl, _, _, rfl, rfl, hp, _, _, rfl, rfl, _, rfl, ite2 (fun e => ?_) (fun e => ?_)⟩
  · have e' : (10 : Int) ^ (18 : Int).toNat ≤ c := of_decide_eq_true e
    refine ⟨.int c, rfl, _, _, rfl, rfl, hp, _, _, rfl, rfl, .int k, rfl, _, _, rfl, rfl, .inl ⟨by decide, by decide⟩, _, _, rfl, rfl, ?_, _, _, rfl, rfl, ⟨by decide, by decide, by decide⟩, _, _, rfl, rfl, ?_, ?_⟩
    · show 0 ≤ 28 * k
      omega
    · show (0 : Int) < 2 ^ (28 : Int).toNat
      decide
    · have z : stirF c k = ((c - 10 ^ (18 : Int).toNat) / 2 ^ (28 * k).toNat) % 2 ^ (28 : Int).toNat := if_pos e'
      rw [z] at q
      exact q
  · have e' : ¬ (10 : Int) ^ (18 : Int).toNat ≤ c := fun z => e (decide_eq_true z)
    have n1 : 0 ≤ stirN c k := Int.emod_nonneg _ (by decide)
    have n2 : stirN c k < 2147483647 := Int.emod_lt_of_pos _ (by decide)
    have m1 : 0 ≤ stirN c k * stirN c k % 2147483629 := Int.emod_nonneg _ (by decide)
    have m2 : stirN c k * stirN c k % 2147483629 < 2147483629 := Int.emod_lt_of_pos _ (by decide)
    refine ⟨.int c, rfl, .int k, rfl, _, _, rfl, rfl, .inl ⟨by decide, by decide⟩, _, _, rfl, rfl, _, _, rfl, rfl, _, _, rfl, rfl, .inr ⟨by decide, by decide⟩, _, _, rfl, rfl, (by show (0 : Int) < 2147483647; decide), ?_⟩
    refine ⟨.int (stirN c k), rfl, .int (stirN c k), rfl, _, _, rfl, rfl, .inl ⟨by omega, by omega⟩, _, _, rfl, rfl, (by show (0 : Int) < 2147483629; decide), ?_⟩
    refine ⟨.int (stirN c k * stirN c k % 2147483629), rfl, _, _, rfl, rfl, .inl ⟨by omega, by omega⟩, _, _, rfl, rfl, (by show (0 : Int) < 2147483587; decide), _, _, rfl, rfl, ⟨by decide, by decide⟩, ?_⟩
    have z : stirF c k = (stirN c k * stirN c k % 2147483629) * 39373 % 2147483587 / 8 := if_neg e'
    rw [z] at q
    exact q
/-! ### cell_at: some int -/
def sp_cell (K : PySem.W.Frag) : Sp := fun vs H Q _ => ∃ (a : Addr) (ns : List Int) (k : Int), vs = [.ref a, .int k] ∧ SqL K H a (ns.map V.int) ∧ 0 ≤ k ∧ ∀ i : Int, Q (.int i) H
theorem ok_cell (d : Df K mg "_law_cell_at" s_cell pp_cell) (T : Tx mg) : Ok P w K mg base 1 "_law_cell_at" pp_cell (sp_cell K) := by
  refine d.mk sc_cell (fun vs H Q E h => ?_) (fun f cdv A outer s H vs Q E hr h => ?_)
  · obtain ⟨a, ns, k, rfl, _⟩ := h; rfl
  obtain ⟨a, ns, k, rfl, hl, h0, q⟩ := h
  refine ⟨_, (pss_cons (ps_if (pt_cmpR op_lt (pv 1) (pe_callB (call_lenK K rfl) (by rfl) T.len PySem.boot_len (pa_cons (pv 0) pa_nil)) (nomark _)) (pss_one (ps_ret (pe_ix (ix_listK K rfl) (pv 0) (pv 1) (fun _ _ => rfl)))) pss_nil)
      (pss_one (ps_ret pe_int))), ?_⟩
  refine ⟨.int k, rfl, .ref a, rfl, a, _, rfl, .inl hl, _, _, rfl, rfl, _, rfl, ite2 (fun e => ?_) (fun e => ?_)⟩
  · have e' : k < (((ns.map V.int).length : Nat) : Int) := of_decide_eq_true e
    obtain ⟨v, hv, hat⟩ := atI_in h0 e'
    have hm := List.mem_of_getElem? hv
    obtain ⟨i, _, rfl⟩ := List.mem_map.mp hm
    exact ⟨.ref a, rfl, .int k, rfl, a, _, k, _, rfl, rfl, hl, hat, q i⟩
  · exact q 0
/-! ### barred -/
def barredL : List Str := ["tool", "store", "row", "hand", "end", "wait", "take", "give", "put", "get", "let", "draw", "say", "start", "if", "else", "while", "stop", "now", "own"]
def sp_barred : Sp := fun vs H Q _ => vs = [] ∧ ∀ p H', Same H H' → H' p = some (.lst (barredL.map V.str)) → Q (.ref p) H'
theorem ok_barred (d : Df K mg "_law_barred" s_barred pp_barred) : Ok P w K mg base 1 "_law_barred" pp_barred sp_barred := by
  refine d.mk sc_barred (fun vs H Q E h => ?_) (fun f cdv A outer s H vs Q E hr h => ?_)
  · obtain ⟨rfl, _⟩ := h; rfl
  obtain ⟨rfl, q⟩ := h
  refine ⟨_, (pss_cons (ps_set (i := 0) sc_barred.nd rfl (by first | exact .inl rfl | exact .inr rfl) (pe_lst (pa_cons pe_str (pa_cons pe_str (pa_cons pe_str (pa_cons pe_str (pa_cons pe_str (pa_cons pe_str (pa_cons pe_str (pa_cons pe_str (pa_cons pe_str (pa_cons pe_str (pa_cons pe_str (pa_cons pe_str (pa_cons pe_str (pa_cons pe_str pa_nil))))))))))))))))
      (pss_one (ps_ret (pe_op op_cat (pv 0) (pe_lst (pa_cons pe_str (pa_cons pe_str (pa_cons pe_str (pa_cons pe_str (pa_cons pe_str (pa_cons pe_str pa_nil))))))))))), ?_⟩
  refine ⟨small5 (by decide), fun p hp => ?_⟩
  refine ⟨_, rfl, small5 (by decide), fun p2 hp2 => ?_⟩
  refine ⟨p, p2, _, _, rfl, rfl, nw hp2 _ _ _ upd_same, upd_same, small5 (by decide), fun p3 hp3 => ?_⟩
  · exact q p3 _ (((nw hp _).trans (nw hp2 _)).trans (nw hp3 _)) upd_same
/-! ### name -/
def nameL : List Str := ["a", "m", "count", "xx", "zyx", "ends", "handsome", "rivers", "vw", "wavemor", "nows", "ow"]
theorem nameL_len : ∀ x ∈ nameL, x.length ≤ 8 := by decide +kernel
theorem nameL_ok : ∀ x ∈ nameL, PyData.strOk x = true := by decide +kernel
def sp_name : Sp := fun vs H Q _ => ∃ n : Int, vs = [.int n] ∧ ∀ x H', x ∈ nameL → Same H H' → Q (.str x) H'
theorem ok_name (d : Df K mg "_law_name" s_name pp_name) : Ok P w K mg base 1 "_law_name" pp_name sp_name := by
  refine d.mk sc_name (fun vs H Q E h => ?_) (fun f cdv A outer s H vs Q E hr h => ?_)
  · obtain ⟨n, rfl, _⟩ := h; rfl
  obtain ⟨n, rfl, q⟩ := h
  refine ⟨_, (pss_cons (ps_set (i := 1) sc_name.nd rfl (by first | exact .inl rfl | exact .inr rfl) (pe_lst (pa_cons pe_str (pa_cons pe_str (pa_cons pe_str (pa_cons pe_str (pa_cons pe_str (pa_cons pe_str (pa_cons pe_str (pa_cons pe_str (pa_cons pe_str (pa_cons pe_str (pa_cons pe_str (pa_cons pe_str pa_nil))))))))))))))
      (pss_one (ps_ret (pe_ix (ix_listK K rfl) (pv 1) (pe_op op_mod (pv 0) pe_int) (fun _ _ => rfl))))), ?_⟩
  refine ⟨small5 (by decide), fun p hp => ?_⟩
  have h0 : 0 ≤ n % 12 := Int.emod_nonneg _ (by decide)
  have h1 : n % 12 < ((nameL.map V.str).length : Int) := Int.emod_lt_of_pos _ (by decide)
  obtain ⟨v, hv, hat⟩ := atI_mem h0 h1
  obtain ⟨x, hx, rfl⟩ := List.mem_map.mp hv
  refine ⟨_, rfl, .int n, rfl, _, _, rfl, rfl, (by show (0 : Int) < 12; decide), p, _, _, _, rfl, rfl, SqL.of upd_same, hat, ?_⟩
  exact q x _ hx (nw hp _)
end
end K14
/-! ## K14D -/
namespace K14
open PySem PySem.Spec PyProof.Rows L2 KR
/-! ### tests of which only this is asked: that they end -/
def AnyT (c : TT) (σ : L2.St) (H : Hp) : Prop := ∀ Q : Bool → Hp → Prop, (∀ b H', Same H H' → Q b H') → c σ H Q
theorem any_if {c : TT} {t u : TS} {D : Ends} {σ : L2.St} {H : Hp} (hc : AnyT c σ H) (ht : ∀ H', Same H H' → t D σ H') (hu : ∀ H', Same H H' → u D σ H') : tIfS c t u D σ H :=
  hc _ fun b H' s => by
    cases b with
    | true => exact iteT (ht H' s)
    | false => exact iteF (hu H' s)
theorem any_or {t u : TT} {σ : L2.St} {H : Hp} (h1 : AnyT t σ H) (h2 : ∀ H', Same H H' → AnyT u σ H') : AnyT (tOr t u) σ H := fun Q q =>
  h1 _ fun b H' s => by
    cases b with
    | true => exact iteT (q true H' s)
    | false => exact iteF (h2 H' s Q fun b H'' s' => q b H'' (s.trans s'))
theorem any_and {t u : TT} {σ : L2.St} {H : Hp} (h1 : AnyT t σ H) (h2 : ∀ H', Same H H' → AnyT u σ H') : AnyT (tAnd t u) σ H := fun Q q =>
  h1 _ fun b H' s => by
    cases b with
    | true => exact iteT (h2 H' s Q fun b H'' s' => q b H'' (s.trans s'))
    | false => exact iteF (q false H' s)
/-! ### expressions -/
inductive Et where
  | name (s : Str) | num (n : Int) | now | own | bin (s : Str) (l r : Et)
def Et.toD : Et → PyData
  | .name s => .tuple [.str "name", .str s]
  | .num n => .tuple [.str "number", .int n]
  | .now => .tuple [.str "now"]
  | .own => .tuple [.str "own"]
  | .bin s l r => .tuple [.str s, l.toD, r.toD]
def signL : List Str := ["+", "-", "*"]
def Et.Ok : Et → Nat → Prop
  | .name s, _ => s ∈ nameL
  | .num k, _ => 0 ≤ k ∧ k < 1000000
  | .now, _ => True
  | .own, _ => True
  | .bin _ _ _, 0 => False
  | .bin s l r, n + 1 => s ∈ signL ∧ l.Ok n ∧ r.Ok n
theorem sign_in : ∀ c ∈ ("+-*" : Str).cps.toList, (⟨#[c]⟩ : Str) ∈ signL := by decide +kernel
theorem signL_len : ∀ x ∈ signL, x.length ≤ 8 := by decide +kernel
theorem signL_ok : ∀ x ∈ signL, PyData.strOk x = true := by decide +kernel
/-- the first word of a told expression -/
def Et.w : Et → Str
  | .name _ => "name" | .num _ => "number" | .now => "now" | .own => "own" | .bin s _ _ => s
theorem Et.toD_cons (e : Et) : ∃ r, e.toD = .tuple (.str e.w :: r) := by
  cases e <;> exact ⟨_, rfl⟩
section
variable {P : Program} {w : World} {K : PySem.W.Frag} {mg : Str → Option Value} {base : Heap}
def sp_leaf : Sp := fun vs H Q _ => ∃ (n : Int) (S : List Addr), vs = [.int n] ∧ Sb S H ∧ ∀ v H' (e : Et), Same H H' → e.Ok 0 → R H' S v e.toD → Q v H'
theorem ok_leaf (d : Df K mg "_law_leaf" s_leaf pp_leaf) (g_name : Ok P w K mg base 1 "_law_name" pp_name sp_name) : Ok P w K mg base 2 "_law_leaf" pp_leaf sp_leaf := by
  refine d.mk sc_leaf (fun vs H Q E h => ?_) (fun f cdv A outer s H vs Q E hr h => ?_)
  · obtain ⟨n, S, rfl, _⟩ := h; rfl
  obtain ⟨n, S, rfl, b, q⟩ := h
  refine ⟨_, (pss_cons (ps_set (i := 1) sc_leaf.nd rfl (by first | exact .inl rfl | exact .inr rfl) (pe_op op_mod (pv 0) pe_int))
      (pss_cons (ps_if (pt_cmpR op_lt (pv 1) pe_int (nomark _)) (pss_one (ps_ret (pe_tup (pa_cons pe_str (pa_cons (pcall g_name hr (by omega) rfl (pa_cons (pe_op op_fdiv (pv 0) pe_int) pa_nil)) pa_nil))))) pss_nil)
      (pss_cons (ps_if (pt_cmpR op_lt (pv 1) pe_int (nomark _)) (pss_one (ps_ret (pe_tup (pa_cons pe_str (pa_cons (pe_op op_mod (pe_op op_fdiv (pv 0) pe_int) (pe_ix (ix_listK K rfl) (pe_lst (pa_cons pe_int (pa_cons pe_int pa_nil))) (pe_op op_mod (pe_op op_fdiv (pv 0) pe_int) pe_int) (fun _ _ => rfl))) pa_nil))))) pss_nil)
      (pss_one (ps_ret (pe_ix (ix_listK K rfl) (pe_lst (pa_cons (pe_tup (pa_cons pe_str pa_nil)) (pa_cons (pe_tup (pa_cons pe_str pa_nil)) pa_nil))) (pe_op op_sub (pv 1) pe_int) (fun _ _ => rfl))))))), ?_⟩
  refine ⟨.int n, rfl, _, _, rfl, rfl, (by show (0 : Int) < 8; decide), ?_⟩
  have k0 : 0 ≤ n % 8 := Int.emod_nonneg _ (by decide)
  have k8 : n % 8 < 8 := Int.emod_lt_of_pos _ (by decide)
  refine ⟨.int (n % 8), rfl, _, _, rfl, rfl, _, rfl, ite2 (fun e => ?_) (fun e => ?_)⟩
  · refine ⟨.int n, rfl, _, _, rfl, rfl, ⟨by decide, by decide⟩, _, rfl, fun x H' hx sm => ⟨small5 (by simp), fun p hp => ?_⟩⟩
    exact q _ _ (.name x) (sm.trans (nw hp _)) hx (R.newT (b.same sm) hp (.cons (.rstr _) (.one (.rstr _))))
  · have e1 : ¬ n % 8 < 3 := fun z => e (decide_eq_true z)
    refine ⟨.int (n % 8), rfl, _, _, rfl, rfl, _, rfl, ite2 (fun e => ?_) (fun e => ?_)⟩
    · refine ⟨.int n, rfl, _, _, rfl, rfl, ⟨by decide, by decide⟩, small5 (by simp), fun p hp => ?_⟩
      obtain ⟨v, hv, hat⟩ := atI_mem (xs := [V.int 10, V.int 1000000]) (i := n / 80 % 2) (Int.emod_nonneg _ (by decide)) (Int.emod_lt_of_pos _ (by decide))
      obtain ⟨m, rfl, hm0, hm1⟩ : ∃ m : Int, v = V.int m ∧ 0 < m ∧ m ≤ 1000000 := by
        rcases List.mem_cons.mp hv with z | z
        · exact ⟨10, z, by decide, by decide⟩
        · exact ⟨1000000, List.mem_singleton.mp z, by decide, by decide⟩
      refine ⟨.int n, rfl, _, _, rfl, rfl, ⟨by decide, by decide⟩, _, _, rfl, rfl, (by show (0 : Int) < 2; decide), p, _, _, _, rfl, rfl, SqL.of upd_same, hat, _, _, rfl, rfl, hm0, ?_⟩
      refine ⟨small5 (by simp), fun p2 hp2 => ?_⟩
      have l0 := Int.emod_nonneg (n / 8) (show m ≠ 0 by omega)
      have l1 := Int.emod_lt_of_pos (n / 8) hm0
      exact q _ _ (.num (n / 8 % m)) ((nw hp _).trans (nw hp2 _)) ⟨l0, by omega⟩ (R.newT (b.same (nw hp _)) hp2 (.cons (.rstr _) (.one (.rint _))))
    · have e2 : ¬ n % 8 < 6 := fun z => e (decide_eq_true z)
      refine ⟨small5 (by simp), fun p1 hp1 => ⟨small5 (by simp), fun p2 hp2 => ⟨small5 (by simp), fun p3 hp3 => ?_⟩⟩⟩
      obtain ⟨v, hv, hat⟩ := atI_mem (xs := [V.ref p1, V.ref p2]) (i := n % 8 - 6) (by omega) (by show n % 8 - 6 < (2 : Int); omega)
      have sm : Same H _ := (nw hp1 (.tup [.str "now"])).trans ((nw hp2 (.tup [.str "own"])).trans (nw hp3 (.lst [.ref p1, .ref p2])))
      refine ⟨.int (n % 8), rfl, _, _, rfl, rfl, p3, _, _, _, rfl, rfl, SqL.of upd_same, hat, ?_⟩
      rcases List.mem_cons.mp hv with z | z
      · rw [z]
        have r : R _ S (.ref p1) Et.now.toD := R.newT b hp1 (.one (.rstr _))
        exact q _ _ .now sm trivial (r.mono ((nw hp2 _).trans (nw hp3 _)))
      · rw [List.mem_singleton.mp z]
        have r : R _ S (.ref p2) Et.own.toD := R.newT (b.same (nw hp1 _)) hp2 (.one (.rstr _))
        exact q _ _ .own sm trivial (r.mono (nw hp3 _))
/-! ### tree -/
theorem Et.Ok.mono : ∀ (e : Et) {m n : Nat}, e.Ok m → m ≤ n → e.Ok n
  | .name _, _, _, h, _ => h
  | .num _, _, _, h, _ => h
  | .now, _, _, _, _ => trivial
  | .own, _, _, _, _ => trivial
  | .bin _ _ _, 0, _, h, _ => h.elim
  | .bin _ l r, m + 1, n, h, le => by
    obtain ⟨j, rfl⟩ : ∃ j, n = j + 1 := ⟨n - 1, by omega⟩
    exact ⟨h.1, Et.Ok.mono l h.2.1 (by omega), Et.Ok.mono r h.2.2 (by omega)⟩
def sp_tree (n : Nat) : Sp := fun vs H Q _ => ∃ (c k : Int) (d : Nat) (S : List Addr), vs = [.int c, .int k, .int d] ∧ d < n ∧ 0 ≤ k ∧ Sb S H ∧ ∀ v H' (e : Et), Same H H' → e.Ok d → R H' S v e.toD → Q v H'
theorem none_left {x : Str} {st : Stmt} {ps : List Str} {k : Nat} {sp : Sp} (d : Df K mg x st ps) (no : ∀ vs H Q E, ¬ sp vs H Q E) : Ok P w K mg base k x ps sp :=
  d.ok fun f fd F => ⟨fun vs H Q E h => absurd h (no vs H Q E), fun A outer s H args us vs Q E _ _ _ _ h => absurd h (no vs H Q E)⟩
theorem ok_tree (d : Df K mg "_law_tree" s_tree pp_tree) (g_stir : Ok P w K mg base 1 "_law_stir" pp_stir sp_stir) (g_leaf : Ok P w K mg base 2 "_law_leaf" pp_leaf sp_leaf) : ∀ n : Nat, Ok P w K mg base (n + 2) "_law_tree" pp_tree (sp_tree n)
  | 0 => none_left d fun vs H Q E ⟨_, _, _, _, _, h, _⟩ => absurd h (Nat.not_lt_zero _)
  | n + 1 => by
    have g_tree := ok_tree d g_stir g_leaf n
    refine d.mk sc_tree (fun vs H Q E h => ?_) (fun f cdv A outer s H vs Q E hr h => ?_)
    · obtain ⟨c, k, dd, S, rfl, _⟩ := h; rfl
    obtain ⟨c, k, dd, S, rfl, hd, h0, b, q⟩ := h
    refine ⟨_, (pss_cons (ps_set (i := 3) sc_tree.nd rfl (by first | exact .inl rfl | exact .inr rfl) (pcall g_stir hr (by omega) rfl (pa_cons (pv 0) (pa_cons (pv 1) pa_nil))))
      (pss_cons (ps_if (PW.pt (pw_or (pt_cmpR op_eq (pv 2) pe_int (nomark _)) (pw_or1 (pt_cmpR op_eq (pe_op op_mod (pv 3) pe_int) pe_int (nomark _))))) (pss_one (ps_ret (pcall g_leaf hr (by omega) rfl (pa_cons (pe_op op_fdiv (pv 3) pe_int) pa_nil)))) pss_nil)
      (pss_cons (ps_set (i := 4) sc_tree.nd rfl (by first | exact .inl rfl | exact .inr rfl) (pe_ix ix_str pe_str (pe_op op_mod (pe_op op_fdiv (pv 3) pe_int) pe_int) (fun _ _ => rfl)))
      (pss_one (ps_ret (pe_tup (pa_cons (pv 4) (pa_cons (pcall g_tree hr (by omega) rfl (pa_cons (pv 0) (pa_cons (pe_op op_add (pe_op op_mul pe_int (pv 1)) pe_int) (pa_cons (pe_op op_sub (pv 2) pe_int) pa_nil)))) (pa_cons (pcall g_tree hr (by omega) rfl (pa_cons (pv 0) (pa_cons (pe_op op_add (pe_op op_mul pe_int (pv 1)) pe_int) (pa_cons (pe_op op_sub (pv 2) pe_int) pa_nil)))) pa_nil))))))))), ?_⟩
    refine ⟨.int c, rfl, .int k, rfl, c, k, rfl, h0, ?_⟩
    have fin0 : ∀ Q' : VK, (∀ v H' (e : Et), Same H H' → e.Ok 0 → R H' S v e.toD → Q' v H') → (∃ (n : Int) (S : List Addr), [V.int (stirF c k / 3)] = [.int n] ∧ Sb S H ∧ ∀ v H' (e : Et), Same H H' → e.Ok 0 → R H' S v e.toD → Q' v H') := fun Q' q' => ⟨_, S, rfl, b, q'⟩
    have way : tRet (tCall sp_leaf [] E0 (tCons (tOp (rI CDiv fun i j => .int (i / j)) (tVar 3) (tC (.int 3))) tNil)) { nx := fun _ H' => Q .non H', rt := Q } [some (.int c), some (.int k), some (.int dd), some (.int (stirF c k)), none] H := by
      refine ⟨.int (stirF c k), rfl, _, _, rfl, rfl, ⟨by decide, by decide⟩, _, S, rfl, b, fun v H' e sm he r => q v H' e sm (he.mono e (Nat.zero_le _)) r⟩
    refine ⟨.int dd, rfl, rfl, _, rfl, ite2 (fun e => iteT way) (fun e => ?_)⟩
    refine ⟨.int (stirF c k), rfl, _, _, rfl, rfl, (by show (0 : Int) < 3; decide), rfl, _, rfl, ite2 (fun e => way) (fun e2 => ?_)⟩
    have hd0 : dd ≠ 0 := fun z => e (decide_eq_true (by rw [z]; rfl))
    obtain ⟨j, rfl⟩ : ∃ j, dd = j + 1 := ⟨dd - 1, by omega⟩
    obtain ⟨ch, hc, hat⟩ := atI_mem (xs := ("+-*" : Str).cps.toList) (i := stirF c k / 3 % 3) (Int.emod_nonneg _ (by decide)) (Int.emod_lt_of_pos _ (by decide))
    refine ⟨.int (stirF c k), rfl, _, _, rfl, rfl, ⟨by decide, by decide⟩, _, _, rfl, rfl, (by show (0 : Int) < 3; decide), _, _, ch, rfl, rfl, small5 (by decide +kernel), hat, ?_⟩
    have ed : ((j + 1 : Nat) : Int) - 1 = ((j : Nat) : Int) := by omega
    refine ⟨.str ⟨#[ch]⟩, rfl, .int c, rfl, .int k, rfl, _, _, rfl, rfl, .inl ⟨by decide, by decide⟩, _, _, rfl, rfl, .int ((j + 1 : Nat) : Int), rfl, _, _, rfl, rfl, ?_⟩
    refine ⟨c, 2 * k + 1, j, S, by rw [← ed]; rfl, by omega, by omega, b, fun v1 H1 e1 s1 o1 r1 => ?_⟩
    refine ⟨.int c, rfl, .int k, rfl, _, _, rfl, rfl, .inl ⟨by decide, by decide⟩, _, _, rfl, rfl, .int ((j + 1 : Nat) : Int), rfl, _, _, rfl, rfl, ?_⟩
    refine ⟨c, 2 * k + 2, j, S, by rw [← ed]; rfl, by omega, by omega, b.same s1, fun v2 H2 e2' s2 o2 r2 => ⟨small5 (by simp), fun p hp => ?_⟩⟩
    exact q _ _ (.bin ⟨#[ch]⟩ e1 e2') ((s1.trans s2).trans (nw hp _)) ⟨sign_in ch hc, o1, o2⟩ (R.newT (b.same (s1.trans s2)) hp (.cons (.rstr _) (.cons (r1.mono s2) (.one r2))))
end
end K14
/-! ## K14E -/
namespace K14
open PySem PySem.Spec PyProof.Rows L2 KR
theorem slen (x y : Str) : (x ++ y).length = x.length + y.length := Array.size_append ..
theorem log_small {n : Int} (h0 : 0 ≤ n) (h : n < 1000000) : n.natAbs.log2 < 1920 := by
  by_cases c : n.natAbs = 0
  · rw [c]; decide +kernel
  · have q : n.natAbs.log2 < 20 := (Nat.log2_lt c).mpr (by omega)
    omega
theorem signL_one : ∀ s ∈ signL, s.length = 1 := by decide +kernel
theorem ok_last : (Et.bin "-" (.bin "*" (.name "m") (.name "m")) (.num 1)).Ok 3 :=
  ⟨by decide +kernel, ⟨by decide +kernel, (by decide +kernel : ("m" : Str) ∈ nameL), (by decide +kernel : ("m" : Str) ∈ nameL)⟩, (by decide : (0 : Int) ≤ 1 ∧ (1 : Int) < 1000000)⟩
def wB : Nat → Nat
  | 0 => 8
  | n + 1 => 2 * (wB n + 2) + 1
theorem wB_ge (n : Nat) : 8 ≤ wB n := by
  cases n with
  | zero => exact Nat.le_refl _
  | succ n => have := wB_ge n; show 8 ≤ 2 * (wB n + 2) + 1; omega
theorem wB_le : ∀ {n : Nat}, n ≤ 3 → wB n ≤ 99
  | 0, _ => by decide
  | 1, _ => by decide
  | 2, _ => by decide
  | 3, _ => by decide
  | n + 4, h => by omega
section
variable {P : Program} {w : World} {K : PySem.W.Frag} {mg : Str → Option Value} {base : Heap}
/-! ### worded -/
def sp_worded (n : Nat) : Sp := fun vs H Q _ => ∃ (v : V) (e : Et) (m : Int) (d : Nat) (S : List Addr), vs = [v, .int m] ∧ d < n ∧ d ≤ 3 ∧ e.Ok d ∧ R H S v e.toD ∧ ∀ x H', Same H H' → x.length ≤ wB d → Q (.str x) H'
theorem ok_worded (d : Df K mg "_law_worded" s_worded pp_worded) (T : Tx mg) : ∀ n : Nat, Ok P w K mg base n "_law_worded" pp_worded (sp_worded n)
  | 0 => none_left d fun vs H Q E ⟨_, _, _, _, _, _, h, _⟩ => absurd h (Nat.not_lt_zero _)
  | n + 1 => by
    have g_worded := ok_worded d T n
    refine d.mk sc_worded (fun vs H Q E h => ?_) (fun f cdv A outer s H vs Q E hr h => ?_)
    · obtain ⟨v, e, m, dd, S, rfl, _⟩ := h; rfl
    obtain ⟨v, e, m, dd, S, rfl, hd, hd3, ho, r, q⟩ := h
    refine ⟨_, (pss_cons (ps_if (pt_cmpR op_eq (pe_callB (call_lenK K rfl) (by rfl) T.len PySem.boot_len (pa_cons (pv 0) pa_nil)) pe_int (nomark _)) (pss_one (ps_ret (pe_ix (ix_tupK K rfl) (pv 0) pe_int (fun _ _ => rfl)))) pss_nil)
      (pss_cons (ps_if (pt_cmpR op_eq (pe_callB (call_lenK K rfl) (by rfl) T.len PySem.boot_len (pa_cons (pv 0) pa_nil)) pe_int (nomark _)) (pss_one (ps_ret (pe_callTy (call_str_int.or SkE.call_str_str) (by rfl) T.str (by decide +kernel) (pa_cons (pe_ix (ix_tupK K rfl) (pv 0) pe_int (fun _ _ => rfl)) pa_nil)))) pss_nil)
      (pss_cons (ps_set (i := 2) sc_worded.nd rfl (by first | exact .inl rfl | exact .inr rfl) (pcall g_worded hr (by omega) rfl (pa_cons (pe_ix (ix_tupK K rfl) (pv 0) pe_int (fun _ _ => rfl)) (pa_cons (pe_op op_fdiv (pv 1) pe_int) pa_nil))))
      (pss_cons (ps_set (i := 3) sc_worded.nd rfl (by first | exact .inl rfl | exact .inr rfl) (pcall g_worded hr (by omega) rfl (pa_cons (pe_ix (ix_tupK K rfl) (pv 0) pe_int (fun _ _ => rfl)) (pa_cons (pe_op op_fdiv (pv 1) pe_int) pa_nil))))
      (C8.pss_cut (ps_if (PW.pt (pw_or (PW.pt (pw_and (pt_cmpR op_eq (pe_ix (ix_tupK K rfl) (pv 0) pe_int (fun _ _ => rfl)) pe_str (nomark _)) (pw_and1 (pt_cmpR (op_inK K rfl) (pe_ix (ix_tupK K rfl) (pe_ix (ix_tupK K rfl) (pv 0) pe_int (fun _ _ => rfl)) pe_int (fun _ _ => rfl)) (pe_lst (pa_cons pe_str (pa_cons pe_str pa_nil))) (by rfl))))) (pw_or1 (pt_cmpR op_eq (pe_op op_mod (pv 1) pe_int) pe_int (nomark _))))) (pss_one (ps_set (i := 2) sc_worded.nd rfl (by first | exact .inl rfl | exact .inr rfl) (pe_op op_add_str (pe_op op_add_str pe_str (pv 2)) pe_str))) pss_nil)
      (C8.pss_cut (ps_if (PW.pt (pw_or (pt_cmpR (op_inK K rfl) (pe_ix (ix_tupK K rfl) (pe_ix (ix_tupK K rfl) (pv 0) pe_int (fun _ _ => rfl)) pe_int (fun _ _ => rfl)) (pe_lst (pa_cons pe_str (pa_cons pe_str pa_nil))) (by rfl)) (pw_or (PW.pt (pw_and (pt_cmpR op_eq (pe_ix (ix_tupK K rfl) (pv 0) pe_int (fun _ _ => rfl)) pe_str (nomark _)) (pw_and1 (pt_cmpR op_eq (pe_ix (ix_tupK K rfl) (pe_ix (ix_tupK K rfl) (pv 0) pe_int (fun _ _ => rfl)) pe_int (fun _ _ => rfl)) pe_str (nomark _))))) (pw_or1 (pt_cmpR op_eq (pe_op op_mod (pv 1) pe_int) pe_int (nomark _)))))) (pss_one (ps_set (i := 3) sc_worded.nd rfl (by first | exact .inl rfl | exact .inr rfl) (pe_op op_add_str (pe_op op_add_str pe_str (pv 3)) pe_str))) pss_nil)
      (pss_one (ps_ret (pe_op op_add_str (pe_op op_add_str (pv 2) (pe_ix (ix_tupK K rfl) (pv 0) pe_int (fun _ _ => rfl))) (pv 3)))))))))), ?_⟩
    have b8 := wB_ge dd
    cases e with
    | now =>
      obtain ⟨a, xs, rfl, ha, _, ra⟩ := r.tuple
      obtain ⟨x, r1, rfl, hx, rr⟩ := ra.uncons
      have e1 := rr.nil_inv
      subst e1
      have e2 := hx.str_inv
      subst e2
      refine ⟨.ref a, rfl, a, _, rfl, .inr (SqT.of ha), rfl, _, rfl, ite2 (fun e => ?_) (fun e => (e (decide_eq_true rfl)).elim)⟩
      exact ⟨.ref a, rfl, a, _, _, _, rfl, rfl, SqT.of ha, at_of (j := 0) rfl rfl, q _ _ (Same.refl _) (Nat.le_trans (by decide +kernel) b8)⟩
    | own =>
      obtain ⟨a, xs, rfl, ha, _, ra⟩ := r.tuple
      obtain ⟨x, r1, rfl, hx, rr⟩ := ra.uncons
      have e1 := rr.nil_inv
      subst e1
      have e2 := hx.str_inv
      subst e2
      refine ⟨.ref a, rfl, a, _, rfl, .inr (SqT.of ha), rfl, _, rfl, ite2 (fun e => ?_) (fun e => (e (decide_eq_true rfl)).elim)⟩
      exact ⟨.ref a, rfl, a, _, _, _, rfl, rfl, SqT.of ha, at_of (j := 0) rfl rfl, q _ _ (Same.refl _) (Nat.le_trans (by decide +kernel) b8)⟩
    | name s =>
      obtain ⟨a, xs, rfl, ha, _, ra⟩ := r.tuple
      obtain ⟨x, r1, rfl, hx, rr⟩ := ra.uncons
      obtain ⟨y, r2, rfl, hy, rr⟩ := rr.uncons
      have e1 := rr.nil_inv
      subst e1
      have e2 := hy.str_inv
      subst e2
      refine ⟨.ref a, rfl, a, _, rfl, .inr (SqT.of ha), rfl, _, rfl, ite2 (fun e => absurd (V.int.inj (of_decide_eq_true e)) (by show ¬ ((2 : Int) = 1); decide)) (fun e => ?_)⟩
      refine ⟨.ref a, rfl, a, _, rfl, .inr (SqT.of ha), rfl, _, rfl, ite2 (fun e => ?_) (fun e => (e (decide_eq_true rfl)).elim)⟩
      exact ⟨.ref a, rfl, a, _, _, _, rfl, rfl, SqT.of ha, at_of (j := 1) rfl rfl, .inr ⟨s, rfl, q _ _ (Same.refl _) (Nat.le_trans (nameL_len s ho) b8)⟩⟩
    | num k =>
      obtain ⟨a, xs, rfl, ha, _, ra⟩ := r.tuple
      obtain ⟨x, r1, rfl, hx, rr⟩ := ra.uncons
      obtain ⟨y, r2, rfl, hy, rr⟩ := rr.uncons
      have e1 := rr.nil_inv
      subst e1
      have e2 := hy.int_inv
      subst e2
      have ho : 0 ≤ k ∧ k < 1000000 := ho
      refine ⟨.ref a, rfl, a, _, rfl, .inr (SqT.of ha), rfl, _, rfl, ite2 (fun e => absurd (V.int.inj (of_decide_eq_true e)) (by show ¬ ((2 : Int) = 1); decide)) (fun e => ?_)⟩
      refine ⟨.ref a, rfl, a, _, rfl, .inr (SqT.of ha), rfl, _, rfl, ite2 (fun e => ?_) (fun e => (e (decide_eq_true rfl)).elim)⟩
      have hl : (Str.ofString (toString k)).length ≤ 6 := toString_length_le ho.1 (by decide) (by have := ho.2; omega)
      exact ⟨.ref a, rfl, a, _, _, _, rfl, rfl, SqT.of ha, at_of (j := 1) rfl rfl, .inl ⟨k, rfl, log_small ho.1 ho.2, q _ _ (Same.refl _) (by omega)⟩⟩
    | bin s l rt =>
      obtain ⟨j, rfl⟩ : ∃ j, dd = j + 1 := by
        cases dd with
        | zero => exact ho.elim
        | succ j => exact ⟨j, rfl⟩
      obtain ⟨hs, hl, hrt⟩ := (show s ∈ signL ∧ l.Ok j ∧ rt.Ok j from ho)
      obtain ⟨a, xs, rfl, ha, _, ra⟩ := r.tuple
      obtain ⟨x, r1, rfl, hx, rr⟩ := ra.uncons
      obtain ⟨y, r2, rfl, hy, rr⟩ := rr.uncons
      obtain ⟨z, r3, rfl, hz, rr⟩ := rr.uncons
      have e1 := rr.nil_inv
      subst e1
      have e2 := hx.str_inv
      subst e2
      have bj := wB_le (n := j) (by omega)
      refine ⟨.ref a, rfl, a, _, rfl, .inr (SqT.of ha), rfl, _, rfl, ite2 (fun e => absurd (V.int.inj (of_decide_eq_true e)) (by show ¬ ((3 : Int) = 1); decide)) (fun e => ?_)⟩
      refine ⟨.ref a, rfl, a, _, rfl, .inr (SqT.of ha), rfl, _, rfl, ite2 (fun e => absurd (V.int.inj (of_decide_eq_true e)) (by show ¬ ((3 : Int) = 2); decide)) (fun e => ?_)⟩
      refine ⟨.ref a, rfl, a, _, _, _, rfl, rfl, SqT.of ha, at_of (j := 1) rfl rfl, .int m, rfl, _, _, rfl, rfl, ⟨by decide, by decide⟩, y, l, _, j, S, rfl, by omega, by omega, hl, hy, fun xl H1 s1 bl => ?_⟩
      refine ⟨.ref a, rfl, a, _, _, _, rfl, rfl, SqT.of (s1 _ _ ha), at_of (j := 2) rfl rfl, .int m, rfl, _, _, rfl, rfl, ⟨by decide, by decide⟩, z, rt, _, j, S, rfl, by omega, by omega, hrt, hz.mono s1, fun xr H2 s2 br => ?_⟩
      have s12 := s1.trans s2
      have signs : ∀ (σ : L2.St) (H' : Hp), Same H H' → σ[0]? = some (some (.ref a)) → AnyT (tTest (tOp rEq (tOp (rIxT K) (tVar 0) (tC (.int 0))) (tC (.str "*")))) σ H' := fun σ H' s' e Q q =>
        ⟨.ref a, e, a, _, _, _, rfl, rfl, SqT.of (s' _ _ ha), at_of (j := 0) rfl rfl, rfl, _, rfl, q _ _ (Same.refl _)⟩
      have inner : ∀ (σ : L2.St) (H' : Hp) (i : Int) (v : V) (e' : Et) (t : TA), Same H H' → σ[0]? = some (some (.ref a)) → atI [.str s, y, z] i = some v → R H S v e'.toD → (∀ σ H Q, t σ H Q = Q [.str "+", .str "-"] H) →
          AnyT (tTest (tOp (rIn K false) (tOp (rIxT K) (tOp (rIxT K) (tVar 0) (tC (.int i))) (tC (.int 0))) (tLst t))) σ H' := fun σ H' i v e' t s' e hat hv ht Q q => by
        obtain ⟨rr, ed⟩ := e'.toD_cons
        rw [ed] at hv
        obtain ⟨a', xs', rfl, ha', _, ra'⟩ := hv.tuple
        obtain ⟨x', r1', rfl, hx', _⟩ := ra'.uncons
        have e3 := hx'.str_inv
        subst e3
        refine ⟨.ref a, e, a, _, _, _, rfl, rfl, SqT.of (s' _ _ ha), hat, a', _, _, _, rfl, rfl, SqT.of (s' _ _ ha'), at_of (j := 0) rfl rfl, ?_⟩
        show t σ H' _
        rw [ht]
        exact ⟨small5 (by simp), fun p hp => ⟨p, _, rfl, .inl (SqL.of upd_same), rfl, rfl, _, rfl, q _ _ (nw hp _)⟩⟩
      have mod : ∀ (σ : L2.St) (H' : Hp) (k : Int), 0 < k → σ[1]? = some (some (.int m)) → AnyT (tTest (tOp rEq (tOp (rI (fun _ j => 0 < j) fun i j => .int (i % j)) (tVar 1) (tC (.int k))) (tC (.int 1)))) σ H' := fun σ H' k hk e Q q =>
        ⟨.int m, e, _, _, rfl, rfl, hk, rfl, _, rfl, q _ _ (Same.refl _)⟩
      refine ⟨fun σ' H' => ∃ xl' : Str, xl'.length ≤ wB j + 2 ∧ Same H H' ∧ σ' = [some (.ref a), some (.int m), some (.str xl'), some (.str xr)], any_if (any_or (any_and (signs _ _ s12 rfl) fun H' s' => inner _ _ _ y l _ (s12.trans s') rfl (at_of (j := 1) rfl rfl) hy fun _ _ _ => rfl) fun H' s' => mod _ _ _ (by decide) rfl) (fun H' s' => ?_) (fun H' s' => ?_), ?_⟩
      · refine ⟨.str xl, rfl, _, _, rfl, rfl, small5 ?_, _, _, rfl, rfl, small5 ?_, ("(" : Str) ++ xl ++ (")" : Str), ?_, s12.trans s', rfl⟩
        · show 1 + xl.length ≤ 100000
          omega
        · rw [slen]
          show 1 + xl.length + 1 ≤ 100000
          omega
        · rw [slen, slen]
          show 1 + xl.length + 1 ≤ wB j + 2
          omega
      · exact ⟨xl, by omega, s12.trans s', rfl⟩
      rintro σ' H3 ⟨xl', bl', s3, rfl⟩
      refine ⟨fun σ' H' => ∃ xr' : Str, xr'.length ≤ wB j + 2 ∧ Same H H' ∧ σ' = [some (.ref a), some (.int m), some (.str xl'), some (.str xr')],
        any_if (any_or (fun Q q => ?_) fun H' s' => any_or (any_and (signs _ _ (s3.trans s') rfl) fun H'' s'' Q q => ?_) fun H'' s'' => mod _ _ _ (by decide) rfl) (fun H' s' => ?_) (fun H' s' => ?_), ?_⟩
      · exact inner _ _ _ z rt _ s3 rfl (at_of (j := 2) rfl rfl) hz (fun _ _ _ => rfl) Q q
      · obtain ⟨rr, ed⟩ := rt.toD_cons
        rw [ed] at hz
        obtain ⟨a', xs', rfl, ha', _, ra'⟩ := hz.tuple
        obtain ⟨x', r1', rfl, hx', _⟩ := ra'.uncons
        have e3 := hx'.str_inv
        subst e3
        have s4 := (s3.trans s').trans s''
        exact ⟨.ref a, rfl, a, _, _, _, rfl, rfl, SqT.of (s4 _ _ ha), at_of (j := 2) rfl rfl, a', _, _, _, rfl, rfl, SqT.of (s4 _ _ ha'), at_of (j := 0) rfl rfl, rfl, _, rfl, q _ _ (Same.refl _)⟩
      · refine ⟨.str xr, rfl, _, _, rfl, rfl, small5 ?_, _, _, rfl, rfl, small5 ?_, ("(" : Str) ++ xr ++ (")" : Str), ?_, s3.trans s', rfl⟩
        · show 1 + xr.length ≤ 100000
          omega
        · rw [slen]
          show 1 + xr.length + 1 ≤ 100000
          omega
        · rw [slen, slen]
          show 1 + xr.length + 1 ≤ wB j + 2
          omega
      · exact ⟨xr, by omega, s3.trans s', rfl⟩
      rintro σ' H4 ⟨xr', br', s4, rfl⟩
      have hs1 : s.length = 1 := signL_one s hs
      refine ⟨.str xl', rfl, .ref a, rfl, a, _, _, _, rfl, rfl, SqT.of (s4 _ _ ha), at_of (j := 0) rfl rfl, _, _, rfl, rfl, small5 (by omega), .str xr', rfl, _, _, rfl, rfl, small5 ?_, q _ _ s4 ?_⟩
      · rw [slen]; omega
      · rw [slen, slen]
        show xl'.length + s.length + xr'.length ≤ 2 * (wB j + 2) + 1
        omega
/-! ### deepest -/
def sp_deepest : Sp := fun vs H Q _ => ∃ x : Str, vs = [.str x] ∧ ∀ i : Int, Q (.int i) H
theorem ok_deepest (d : Df K mg "_law_deepest" s_deepest pp_deepest) (T : Tx mg) : Ok P w K mg base 1 "_law_deepest" pp_deepest sp_deepest := by
  refine d.mk sc_deepest (fun vs H Q E h => ?_) (fun f cdv A outer s H vs Q E hr h => ?_)
  · obtain ⟨x, rfl, _⟩ := h; rfl
  obtain ⟨x, rfl, q⟩ := h
  refine ⟨_, (pss_cons (ps_set (i := 1) sc_deepest.nd rfl (by first | exact .inl rfl | exact .inr rfl) pe_int)
      (pss_cons (ps_set (i := 2) sc_deepest.nd rfl (by first | exact .inl rfl | exact .inr rfl) pe_int)
      (pss_cons (ps_for PassesOwn.never rfl (pi_str (pv 0)) (pg_name (i := 3) sc_deepest.nd rfl (by first | exact .inl rfl | exact .inr rfl)) (pss_cons (ps_set (i := 1) sc_deepest.nd rfl (by first | exact .inl rfl | exact .inr rfl) (pe_op op_sub (pe_op op_add (pv 1) (pe_callTy call_int1 (by rfl) T.int (by decide +kernel) (pa_cons (pe_cmpR op_eq (pv 3) pe_str (nomark _)) pa_nil))) (pe_callTy call_int1 (by rfl) T.int (by decide +kernel) (pa_cons (pe_cmpR op_eq (pv 3) pe_str (nomark _)) pa_nil))))
      (pss_one (ps_set (i := 2) sc_deepest.nd rfl (by first | exact .inl rfl | exact .inr rfl) (pe_callB (call_max2 rfl) (by rfl) T.max (by decide +kernel) (pa_cons (pv 2) (pa_cons (pv 1) pa_nil)))))))
      (pss_one (ps_ret (pv 2)))))), ?_⟩
  refine ⟨.str x, rfl, x, rfl, for_src (Src.str x H) (fun i σ H' => H' = H ∧ ∃ (a b : Int) (v : Option V), σ = [some (.str x), some (.int a), some (.int b), v]) ⟨rfl, 0, 0, none, rfl⟩ (fun i σ H' h => by rw [h.1]; exact Same.refl _) ?_ ?_⟩
  · rintro i v σ H' hi ⟨c, hc, rfl⟩ ⟨rfl, a, b, o, rfl⟩
    refine ⟨.int a, rfl, .str ⟨#[c]⟩, rfl, rfl, .inr ⟨_, rfl, _, _, rfl, rfl, .str ⟨#[c]⟩, rfl, rfl, .inr ⟨_, rfl, _, _, rfl, rfl, ?_⟩⟩⟩
    exact ⟨.int b, rfl, _, rfl, _, _, rfl, rfl, _, _, _, rfl⟩
  · rintro σ H' ⟨rfl, a, b, o, rfl⟩
    exact ⟨.int b, rfl, q b⟩
/-! ### expr -/
def sp_expr : Sp := fun vs H Q _ => ∃ (c k : Int) (S : List Addr), vs = [.int c, .int k] ∧ 0 ≤ k ∧ Sb S H ∧ ∀ v H' (x : Str) (e : Et), Same H H' → x.length ≤ 60 → e.Ok 3 → R H' S v (.list [.str x, e.toD]) → Q v H'
theorem ok_expr (d : Df K mg "_law_expr" s_expr pp_expr) (T : Tx mg) (g_stir : Ok P w K mg base 1 "_law_stir" pp_stir sp_stir) (g_tree : Ok P w K mg base 6 "_law_tree" pp_tree (sp_tree 4))
    (g_worded : Ok P w K mg base 4 "_law_worded" pp_worded (sp_worded 4)) (g_deepest : Ok P w K mg base 1 "_law_deepest" pp_deepest sp_deepest) : Ok P w K mg base 7 "_law_expr" pp_expr sp_expr := by
  refine d.mk sc_expr (fun vs H Q E h => ?_) (fun f cdv A outer s H vs Q E hr h => ?_)
  · obtain ⟨c, k, S, rfl, _⟩ := h; rfl
  obtain ⟨c, k, S, rfl, h0, b, q⟩ := h
  refine ⟨_, (pss_cons (ps_set (i := 2) sc_expr.nd rfl (by first | exact .inl rfl | exact .inr rfl) (pcall g_tree hr (by omega) rfl (pa_cons (pv 0) (pa_cons (pv 1) (pa_cons (pe_op op_mod (pcall g_stir hr (by omega) rfl (pa_cons (pv 0) (pa_cons (pe_op op_add (pv 1) pe_int) pa_nil))) pe_int) pa_nil)))))
      (pss_cons (ps_for PassesOwn.never rfl (pi_listK K rfl (pe_lst (pa_cons (pcall g_stir hr (by omega) rfl (pa_cons (pv 0) (pa_cons (pe_op op_add (pv 1) pe_int) pa_nil))) (pa_cons pe_int pa_nil)))) (pg_name (i := 3) sc_expr.nd rfl (by first | exact .inl rfl | exact .inr rfl)) (pss_cons (ps_set (i := 4) sc_expr.nd rfl (by first | exact .inl rfl | exact .inr rfl) (pcall g_worded hr (by omega) rfl (pa_cons (pv 2) (pa_cons (pv 3) pa_nil))))
      (pss_one (ps_if (PW.pt (pw_and (pt_cmpR op_le (pe_callB call_len_str (by rfl) T.len PySem.boot_len (pa_cons (pv 4) pa_nil)) pe_int (nomark _)) (pw_and1 (pt_cmpR op_lt (pcall g_deepest hr (by omega) rfl (pa_cons (pv 4) pa_nil)) pe_int (nomark _))))) (pss_one (ps_ret (pe_lst (pa_cons (pv 4) (pa_cons (pv 2) pa_nil))))) pss_nil))))
      (pss_one (ps_ret (pe_lst (pa_cons pe_str (pa_cons (pe_tup (pa_cons pe_str (pa_cons (pe_tup (pa_cons pe_str (pa_cons (pe_tup (pa_cons pe_str (pa_cons pe_str pa_nil))) (pa_cons (pe_tup (pa_cons pe_str (pa_cons pe_str pa_nil))) pa_nil)))) (pa_cons (pe_tup (pa_cons pe_str (pa_cons pe_int pa_nil))) pa_nil)))) pa_nil))))))), ?_⟩
  obtain ⟨dd, ed⟩ : ∃ dd : Nat, stirF c (k + 90) % 4 = (dd : Int) := ⟨(stirF c (k + 90) % 4).toNat, by have := Int.emod_nonneg (stirF c (k + 90)) (show (4 : Int) ≠ 0 by decide); omega⟩
  have hd4 : dd < 4 := by have := Int.emod_lt_of_pos (stirF c (k + 90)) (show (0 : Int) < 4 by decide); omega
  refine ⟨.int c, rfl, .int k, rfl, .int c, rfl, .int k, rfl, _, _, rfl, rfl, c, k + 90, rfl, by omega, _, _, rfl, rfl, (by show (0 : Int) < 4; decide), c, k, dd, S, by rw [← ed]; rfl, hd4, h0, b, fun v H1 e s1 he r => ?_⟩
  refine ⟨.int c, rfl, .int k, rfl, _, _, rfl, rfl, c, k + 91, rfl, by omega, small5 (by simp), fun p hp => ?_⟩
  have s2 := s1.trans (nw hp (.lst [.int (stirF c (k + 91)), .int 0]))
  refine ⟨p, rfl, ⟨_, SqL.of upd_same⟩, for_src (Src.list (SqL.of upd_same)) (fun i σ H' => Same (upd H1 p (.lst [.int (stirF c (k + 91)), .int 0])) H' ∧ ∃ (o1 o2 : Option V), σ = [some (.int c), some (.int k), some v, o1, o2]) ⟨Same.refl _, none, none, rfl⟩ (fun i σ H' h => h.1) ?_ ?_⟩
  · rintro i y σ H' hi hy ⟨s3, o1, o2, rfl⟩
    obtain ⟨m, rfl⟩ : ∃ m : Int, y = .int m := by
      have hm := List.mem_of_getElem? hy
      rcases List.mem_cons.mp hm with z | z
      · exact ⟨_, z⟩
      · exact ⟨_, List.mem_singleton.mp z⟩
    have s4 := s2.trans s3
    have r' : R H' S v e.toD := r.mono ((nw hp _).trans s3)
    refine ⟨v, rfl, .int m, rfl, v, e, m, dd, S, rfl, hd4, by omega, he, r', fun x H2 s5 hx => ?_⟩
    have hx' := wB_le (n := dd) (by omega)
    refine ⟨.str x, rfl, x, rfl, small5 (by omega), _, _, rfl, rfl, _, rfl, ite2 (fun c1 => ?_) (fun c1 => ?_)⟩
    · refine ⟨.str x, rfl, x, rfl, fun i => ⟨_, _, rfl, rfl, _, rfl, ite2 (fun c2 => ?_) (fun c2 => ?_)⟩⟩
      · refine ⟨.str x, rfl, v, rfl, small5 (by simp), fun p2 hp2 => ?_⟩
        have hl : ((x.length : Nat) : Int) ≤ 60 := of_decide_eq_true c1
        refine q _ _ x e ((s4.trans s5).trans (nw hp2 _)) (by omega) (he.mono e (by omega)) (R.newL (b.same (s4.trans s5)) hp2 (.cons (.rstr _) (.one (r'.mono s5))))
      · exact ⟨s3.trans s5, _, _, rfl⟩
    · exact iteF ⟨s3.trans s5, _, _, rfl⟩
  · rintro σ H' ⟨s3, o1, o2, rfl⟩
    have b4 := b.same (s2.trans s3)
    refine ⟨small5 (by simp), fun p1 hp1 => ⟨small5 (by simp), fun p2 hp2 => ⟨small5 (by simp), fun p3 hp3 => ⟨small5 (by simp), fun p4 hp4 => ⟨small5 (by simp), fun p5 hp5 => ⟨small5 (by simp), fun p6 hp6 => ?_⟩⟩⟩⟩⟩⟩
    have b5 := b4.same (nw hp1 (.tup [.str "name", .str "m"]))
    have b6 := b5.same (nw hp2 (.tup [.str "name", .str "m"]))
    have b7 := b6.same (nw hp3 (.tup [.str "*", .ref p1, .ref p2]))
    have b8 := b7.same (nw hp4 (.tup [.str "number", .int 1]))
    have b9 := b8.same (nw hp5 (.tup [.str "-", .ref p3, .ref p4]))
    have r1 : R _ S (.ref p1) (Et.name "m").toD := R.newT b4 hp1 (.cons (.rstr _) (.one (.rstr _)))
    have r2 : R _ S (.ref p2) (Et.name "m").toD := R.newT b5 hp2 (.cons (.rstr _) (.one (.rstr _)))
    have r3 : R _ S (.ref p3) (Et.bin "*" (.name "m") (.name "m")).toD := R.newT b6 hp3 (.cons (.rstr _) (.cons (r1.mono (nw hp2 _)) (.one r2)))
    have r4 : R _ S (.ref p4) (Et.num 1).toD := R.newT b7 hp4 (.cons (.rstr _) (.one (.rint _)))
    have r5 : R _ S (.ref p5) (Et.bin "-" (.bin "*" (.name "m") (.name "m")) (.num 1)).toD := R.newT b8 hp5 (.cons (.rstr _) (.cons (r3.mono (nw hp4 _)) (.one r4)))
    have r6 := R.newL b9 hp6 (.cons (.rstr "m*m-1") (.one r5))
    exact q _ _ _ _ ((s2.trans s3).trans ((nw hp1 _).trans ((nw hp2 _).trans ((nw hp3 _).trans ((nw hp4 _).trans ((nw hp5 _).trans (nw hp6 _))))))) (by decide +kernel) ok_last r6
end
end K14
/-! ## K14F -/
namespace K14
open PySem PySem.Spec PyProof.Rows L2 KR TL
/-! ### names: the mathematics -/
def lettersS : Str := "abcdefghijklmnopqrstuvwxyz"
def letC (i : Int) : Nat := lettersS.cps.toList.getD i.toNat 0
def sgn (c : Nat) : Str := ⟨#[c]⟩
theorem letL_lt : ∀ c ∈ lettersS.cps.toList, c < 128 := by decide +kernel
theorem letC_lt (i : Int) : letC i < 128 := by
  unfold letC
  rw [List.getD_eq_getElem?_getD]
  cases e : lettersS.cps.toList[i.toNat]? with
  | none => exact (by decide : (0 : Nat) < 128)
  | some c => exact letL_lt c (List.mem_of_getElem? e)
theorem letC_at {i : Int} (h0 : 0 ≤ i) (h1 : i < 26) : atI lettersS.cps.toList i = some (letC i) := by
  have hl : lettersS.cps.toList.length = 26 := by decide +kernel
  obtain ⟨c, e, q⟩ := atI_in (xs := lettersS.cps.toList) h0 (by rw [hl]; exact h1)
  rw [q]
  unfold letC
  rw [List.getD_eq_getElem?_getD, e]
  rfl
def sizeF (h k : Int) : Nat := 1 + (stirF h k % 8).toNat
theorem sizeF_lo (h k : Int) : 0 < sizeF h k := by unfold sizeF; omega
theorem sizeF_hi (h k : Int) : sizeF h k ≤ 8 := by
  unfold sizeF
  have := Int.emod_lt_of_pos (stirF h k) (show (0 : Int) < 8 by decide)
  omega
def stemL (h k : Int) : List Nat := (List.range (sizeF h k)).map fun (j : Nat) => letC (stirF h (k + 1 + (0 + (j : Int))) % 26)
def stemF (h k : Int) : Str := ⟨(stemL h k).toArray⟩
theorem stemL_len (h k : Int) : (stemL h k).length = sizeF h k := by unfold stemL; simp
theorem tl_stem (h k : Int) : tl (stemF h k) = stemL h k := rfl
theorem stemF_len (h k : Int) : (stemF h k).length = sizeF h k := by rw [len_tl, tl_stem, stemL_len]
theorem joinL_nil : ∀ xs : List (List Nat), joinL [] xs = xs.flatten
  | [] => rfl
  | [p] => by simp [joinL]
  | p :: q :: r => by
    show p ++ ([] ++ joinL [] (q :: r)) = _
    rw [joinL_nil (q :: r)]
    simp
theorem flat_one (f : Nat → Nat) : ∀ l : List Nat, (l.map fun j => [f j]).flatten = l.map f
  | [] => rfl
  | a :: r => by
    rw [List.map_cons, List.flatten_cons, flat_one f r]
    rfl
theorem stem_join (h k : Int) : Txt.join "" ((List.range (sizeF h k)).map fun (j : Nat) => sgn (letC (stirF h (k + 1 + (0 + ((j : Nat) : Int))) % 26))) = stemF h k := by
  apply ext_tl
  rw [join_eq, tl_join, List.map_map, tl_stem]
  show joinL [] ((List.range (sizeF h k)).map fun (j : Nat) => [letC (stirF h (k + 1 + (0 + ((j : Nat) : Int))) % 26)]) = _
  rw [joinL_nil, flat_one]
  rfl
def wordF (st : Str) (m : Nat) (n : Int) : Str :=
  if n / 208 % 4 = 0 then cutS st none (some (n % m + 1)) else cutS st none (some (n % m)) ++ sgn (letC (n / 8 % 26)) ++ cutS st (some (n % m + 1)) none
def zzL : List Str := (List.range 9).map fun (n : Nat) => ("zz" : Str) ++ sgn (letC (0 + (n : Int)))
theorem zzL_nd : zzL.Nodup := by decide +kernel
theorem zzL_len : ∀ x ∈ zzL, x.length = 3 := by decide +kernel
theorem zzL_ok : ∀ x ∈ zzL, PyData.strOk x = true := by decide +kernel
def pickF (found : List Str) (w : Str) (n : Int) : Str :=
  if w ∈ found ∨ w ∈ barredL then (zzL.filter fun o => !decide (o ∈ found)).getD (n / 832 % 2).toNat "" else w
def namesF (h k : Int) : Nat → List Str
  | 0 => []
  | j + 1 => namesF h k j ++ [pickF (namesF h k j) (wordF (stemF h k) (sizeF h k) (stirF h (k + 9 + (0 + (j : Int))))) (stirF h (k + 9 + (0 + (j : Int))))]
theorem namesF_len (h k : Int) : ∀ m, (namesF h k m).length = m
  | 0 => rfl
  | m + 1 => by
    show (namesF h k m ++ [_]).length = m + 1
    rw [List.length_append, namesF_len h k m]
    rfl
/-! what a word is -/
theorem tl_cut_hi {z : Str} {a : Nat} (h : a ≤ z.length) : tl (cutS z none (some (a : Int))) = (tl z).take a := by
  unfold cutS
  show (((tl z).drop (HT.sIx z.length 0 none)).take (HT.sIx z.length z.length (some (a : Int)) - HT.sIx z.length 0 none)) = _
  rw [HT.sIx_nat, HT.sIx_none, List.drop_zero, Nat.min_eq_left h, Nat.sub_zero]
theorem tl_cut_lo {z : Str} {a : Nat} (h : a ≤ z.length) : tl (cutS z (some (a : Int)) none) = (tl z).drop a := by
  unfold cutS
  show (((tl z).drop (HT.sIx z.length 0 (some (a : Int)))).take (HT.sIx z.length z.length none - HT.sIx z.length 0 (some (a : Int)))) = _
  rw [HT.sIx_nat, HT.sIx_none, Nat.min_eq_left h]
  refine List.take_of_length_le ?_
  rw [List.length_drop, ← len_tl]
  exact Nat.le_refl _
/-- a changed stem, or its beginning -/
def Wd (L : List Nat) (x : Str) : Prop := ∃ a, a < L.length ∧ (tl x = L.take (a + 1) ∨ ∃ c, c < 128 ∧ tl x = L.take a ++ c :: L.drop (a + 1))
theorem wordF_wd (h k n : Int) : Wd (stemL h k) (wordF (stemF h k) (sizeF h k) n) := by
  have hs := sizeF_lo h k
  have h0 := Int.emod_nonneg n (show ((sizeF h k : Nat) : Int) ≠ 0 by omega)
  have h1 := Int.emod_lt_of_pos n (show (0 : Int) < ((sizeF h k : Nat) : Int) by omega)
  obtain ⟨a, ea⟩ : ∃ a : Nat, n % ((sizeF h k : Nat) : Int) = (a : Int) := ⟨(n % ((sizeF h k : Nat) : Int)).toNat, by omega⟩
  have ha : a < sizeF h k := by omega
  have e1 : n % ((sizeF h k : Nat) : Int) + 1 = ((a + 1 : Nat) : Int) := by omega
  refine ⟨a, by rw [stemL_len]; exact ha, ?_⟩
  unfold wordF
  rw [e1, ea]
  split
  · refine .inl ?_
    rw [tl_cut_hi (by rw [stemF_len]; omega), tl_stem]
  · refine .inr ⟨_, letC_lt (n / 8 % 26), ?_⟩
    rw [tl_append, tl_append, tl_cut_hi (by rw [stemF_len]; omega), tl_cut_lo (by rw [stemF_len]; omega), tl_stem, List.append_assoc]
    rfl
theorem wd_len {L : List Nat} {x : Str} (h : Wd L x) : x.length ≤ L.length := by
  obtain ⟨a, ha, e | ⟨c, _, e⟩⟩ := h
  · rw [len_tl, e, List.length_take]; omega
  · rw [len_tl, e, List.length_append, List.length_take, List.length_cons, List.length_drop]; omega
theorem strOk_tl {x : Str} (h : ∀ c ∈ tl x, c < 128) : PyData.strOk x = true := by
  unfold PyData.strOk
  rw [Array.all_eq_true_iff_forall_mem]
  intro c hc
  have := h c (Array.mem_toList_iff.mpr hc)
  exact decide_eq_true (by omega)
theorem stemL_lt (h k : Int) : ∀ c ∈ stemL h k, c < 128 := by
  intro c hc
  unfold stemL at hc
  obtain ⟨j, _, rfl⟩ := List.mem_map.mp hc
  exact letC_lt _
theorem wd_ok {L : List Nat} {x : Str} (hL : ∀ c ∈ L, c < 128) (h : Wd L x) : PyData.strOk x = true := by
  refine strOk_tl fun c hc => ?_
  obtain ⟨a, ha, e | ⟨c', hc', e⟩⟩ := h
  · rw [e] at hc
    exact hL c (List.mem_of_mem_take hc)
  · rw [e] at hc
    rcases List.mem_append.mp hc with z | z
    · exact hL c (List.mem_of_mem_take z)
    · rcases List.mem_cons.mp z with z | z
      · rw [z]; exact hc'
      · exact hL c (List.mem_of_mem_drop z)
/-! none twice -/
theorem nd_le : ∀ (l f : List Str), l.Nodup → (∀ x ∈ l, x ∈ f) → l.length ≤ f.length
  | [], f, _, _ => Nat.zero_le _
  | x :: r, f, nd, sub => by
    obtain ⟨n1, n2⟩ := List.nodup_cons.mp nd
    have hx : x ∈ f := sub x (List.mem_cons_self ..)
    have ih := nd_le r (f.erase x) n2 fun y hy => (List.mem_erase_of_ne (fun e => n1 (by rw [← e]; exact hy))).mpr (sub y (List.mem_cons_of_mem _ hy))
    have e := List.length_erase_of_mem hx
    have p : 0 < f.length := List.length_pos_of_mem hx
    rw [List.length_cons]
    omega
theorem filt_len {α : Type} (p : α → Bool) : ∀ l : List α, (l.filter p).length + (l.filter fun x => !p x).length = l.length
  | [] => rfl
  | a :: r => by
    have ih := filt_len p r
    rw [List.filter_cons, List.filter_cons]
    cases e : p a <;> simp only [Bool.not_true, Bool.not_false, if_true, if_false, Bool.false_eq_true, List.length_cons] <;> omega
theorem left_two {f : List Str} (h : f.length ≤ 7) : 2 ≤ (zzL.filter fun o => !decide (o ∈ f)).length := by
  have e := filt_len (fun o => !decide (o ∈ f)) zzL
  have hz : zzL.length = 9 := by decide +kernel
  have q := nd_le (zzL.filter fun o => !(!decide (o ∈ f))) f (zzL_nd.sublist List.filter_sublist) fun x hx => by
    have z := (List.mem_filter.mp hx).2
    simpa using z
  omega
theorem pick_at {f : List Str} (h : f.length ≤ 7) (n : Int) : ∃ x, (zzL.filter fun o => !decide (o ∈ f))[(n / 832 % 2).toNat]? = some x ∧ x ∈ zzL ∧ x ∉ f := by
  have h1 := Int.emod_lt_of_pos (n / 832) (show (0 : Int) < 2 by decide)
  have h2 := left_two h
  have hi : (n / 832 % 2).toNat < (zzL.filter fun o => !decide (o ∈ f)).length := by omega
  have hm := List.getElem_mem hi
  refine ⟨_, List.getElem?_eq_getElem hi, (List.mem_filter.mp hm).1, ?_⟩
  have z := (List.mem_filter.mp hm).2
  simpa using z
theorem pickF_cases {f : List Str} (h : f.length ≤ 7) (w : Str) (n : Int) : pickF f w n ∉ f ∧ (pickF f w n = w ∨ pickF f w n ∈ zzL) := by
  unfold pickF
  split
  · obtain ⟨x, e, m, o⟩ := pick_at h n
    rw [List.getD_eq_getElem?_getD, e]
    exact ⟨o, .inr m⟩
  · rename_i c
    exact ⟨fun z => c (.inl z), .inl rfl⟩
theorem namesF_nd (h k : Int) : ∀ m, m ≤ 8 → (namesF h k m).Nodup
  | 0, _ => List.nodup_nil
  | m + 1, hm => by
    have ih := namesF_nd h k m (by omega)
    exact nd_snoc ih (pickF_cases (by rw [namesF_len]; omega) _ _).1
theorem namesF_gw (h k : Int) : ∀ m, m ≤ 8 → ∀ x ∈ namesF h k m, Wd (stemL h k) x ∨ x ∈ zzL
  | 0, _, x, hx => nomatch hx
  | m + 1, hm, x, hx => by
    rcases List.mem_append.mp hx with z | z
    · exact namesF_gw h k m (by omega) x z
    · rw [List.mem_singleton.mp z]
      rcases (pickF_cases (f := namesF h k m) (by rw [namesF_len]; omega) (wordF (stemF h k) (sizeF h k) (stirF h (k + 9 + (0 + (m : Int))))) (stirF h (k + 9 + (0 + (m : Int))))).2 with e | e
      · rw [e]; exact .inl (wordF_wd ..)
      · exact .inr e
theorem namesF_small {h k : Int} {m : Nat} (hm : m ≤ 8) {x : Str} (hx : x ∈ namesF h k m) : x.length ≤ 8 ∧ PyData.strOk x = true := by
  rcases namesF_gw h k m hm x hx with z | z
  · refine ⟨?_, wd_ok (stemL_lt h k) z⟩
    have e1 := wd_len z
    rw [stemL_len] at e1
    exact Nat.le_trans e1 (sizeF_hi h k)
  · exact ⟨by rw [zzL_len x z]; decide, zzL_ok x z⟩
/-- of two words one is none of the names -/
theorem one_free {h k : Int} {m : Nat} (hm : m ≤ 8) : ("nought" : Str) ∉ namesF h k m ∨ ("zzzzzzzz" : Str) ∉ namesF h k m := by
  by_cases c1 : ("nought" : Str) ∈ namesF h k m
  · by_cases c2 : ("zzzzzzzz" : Str) ∈ namesF h k m
    · exfalso
      have w1 : Wd (stemL h k) ("nought" : Str) := by
        rcases namesF_gw h k m hm _ c1 with z | z
        · exact z
        · exact absurd (zzL_len _ z) (by decide +kernel)
      have w2 : Wd (stemL h k) ("zzzzzzzz" : Str) := by
        rcases namesF_gw h k m hm _ c2 with z | z
        · exact z
        · exact absurd (zzL_len _ z) (by decide +kernel)
      have t1 : tl ("nought" : Str) = [110, 111, 117, 103, 104, 116] := by decide +kernel
      have t2 : tl ("zzzzzzzz" : Str) = [122, 122, 122, 122, 122, 122, 122, 122] := by decide +kernel
      have hl : (stemL h k).length ≤ 8 := by rw [stemL_len]; exact sizeF_hi h k
      obtain ⟨a, ha, p⟩ := w1
      obtain ⟨b, hb, q⟩ := w2
      rw [t1] at p
      rw [t2] at q
      have len8 : (stemL h k).length = 8 := by
        rcases q with q | ⟨c, _, q⟩
        · have e := congrArg List.length q
          rw [List.length_take] at e
          have e' : 8 = min (b + 1) (stemL h k).length := e
          omega
        · have e := congrArg List.length q
          simp only [List.length_append, List.length_take, List.length_cons, List.length_drop, List.length_nil] at e
          have e' : 8 = min b (stemL h k).length + ((stemL h k).length - (b + 1) + 1) := e
          omega
      generalize stemL h k = L at *
      rcases p with p | ⟨c, _, p⟩
      · have e := congrArg List.length p
        rw [List.length_take] at e
        have e' : 6 = min (a + 1) L.length := e
        have ea : a = 5 := by omega
        subst ea
        match L, len8 with
        | [x0, x1, x2, x3, x4, x5, x6, x7], _ =>
          simp only [List.take, List.cons.injEq] at p
          obtain ⟨p0, p1, _⟩ := p
          subst p0
          subst p1
          rcases q with q | ⟨c, _, q⟩
          · have q0 := congrArg (fun l => l[0]?) q
            simp [List.take] at q0
          · match b with
            | 0 => simp at q
            | b + 1 => simp at q
      · have e := congrArg List.length p
        simp only [List.length_append, List.length_take, List.length_cons, List.length_drop, List.length_nil] at e
        have e' : 6 = min a L.length + (L.length - (a + 1) + 1) := e
        omega
    · exact .inr c2
  · exact .inl c1
end K14
/-! ## K14G -/
namespace K14
open PySem PySem.Spec PyProof.Rows L2 KR TL
/-! ### tests whose answer is known -/
def TstR (c : TT) (σ : L2.St) (H : Hp) (b : Bool) : Prop := ∀ Q : Bool → Hp → Prop, (∀ H', Same H H' → Q b H') → c σ H Q
theorem if_r {c : TT} {t u : TS} {D : Ends} {σ : L2.St} {H : Hp} {b : Bool} (hc : TstR c σ H b) (ht : b = true → ∀ H', Same H H' → t D σ H') (hu : b = false → ∀ H', Same H H' → u D σ H') : tIfS c t u D σ H :=
  hc _ fun H' s => by
    cases b with
    | true => exact iteT (ht rfl H' s)
    | false => exact iteF (hu rfl H' s)
theorem tst_or {t u : TT} {σ : L2.St} {H : Hp} {b1 b2 : Bool} (h1 : TstR t σ H b1) (h2 : b1 = false → ∀ H', Same H H' → TstR u σ H' b2) : TstR (tOr t u) σ H (b1 || b2) := fun Q q =>
  h1 _ fun H' s => by
    cases b1 with
    | true => exact iteT (q H' s)
    | false => exact iteF (h2 rfl H' s Q fun H'' s' => q H'' (s.trans s'))
theorem tst_and {t u : TT} {σ : L2.St} {H : Hp} {b1 b2 : Bool} (h1 : TstR t σ H b1) (h2 : b1 = true → ∀ H', Same H H' → TstR u σ H' b2) : TstR (tAnd t u) σ H (b1 && b2) := fun Q q =>
  h1 _ fun H' s => by
    cases b1 with
    | true => exact iteT (h2 rfl H' s Q fun H'' s' => q H'' (s.trans s'))
    | false => exact iteF (q H' s)
theorem inV_strs (w : Str) : ∀ L : List Str, inV (.str w) (L.map V.str) = decide (w ∈ L)
  | [] => rfl
  | x :: r => by
    have ih := inV_strs w r
    unfold inV at ih ⊢
    rw [List.map_cons, List.any_cons, ih]
    show ((x == w) || decide (w ∈ r)) = decide (w ∈ x :: r)
    by_cases e : w = x
    · rw [e]; simp
    · rw [show (x == w) = false from beq_eq_false_iff_ne.mpr fun z => e z.symm]
      simp [e]
theorem all_flat : ∀ L : List Str, (L.map V.str).all flatV = true
  | [] => rfl
  | x :: r => by rw [List.map_cons, List.all_cons, all_flat r]; rfl
theorem rin_f {K : PySem.W.Frag} {H : Hp} {p : Addr} {L : List Str} {x : Str} {Q : VK} (h : SqL K H p (L.map V.str)) (q : Q (.bl (decide (x ∈ L))) H) : rIn K false (.str x) (.ref p) H Q :=
  ⟨p, _, rfl, .inl h, rfl, all_flat L, by show Q (.bl (inV (.str x) (L.map V.str))) H; rw [inV_strs]; exact q⟩
theorem rin_t {K : PySem.W.Frag} {H : Hp} {p : Addr} {L : List Str} {x : Str} {Q : VK} (h : SqL K H p (L.map V.str)) (q : Q (.bl (!decide (x ∈ L))) H) : rIn K true (.str x) (.ref p) H Q :=
  ⟨p, _, rfl, .inl h, rfl, all_flat L, by show Q (.bl (!inV (.str x) (L.map V.str))) H; rw [inV_strs]; exact q⟩
theorem rin_ft {K : PySem.W.Frag} {H : Hp} {p : Addr} {L : List Str} {x : Str} {Q : VK} (h : SqT K H p (L.map V.str)) (q : Q (.bl (decide (x ∈ L))) H) : rIn K false (.str x) (.ref p) H Q :=
  ⟨p, _, rfl, .inr h, rfl, all_flat L, by show Q (.bl (inV (.str x) (L.map V.str))) H; rw [inV_strs]; exact q⟩
theorem sum_le {b : Nat} : ∀ {l : List Nat}, (∀ x ∈ l, x ≤ b) → l.sum ≤ l.length * b
  | [], _ => Nat.zero_le _
  | a :: r, h => by
    have h1 := h a (List.mem_cons_self ..)
    have h2 := sum_le (l := r) fun x m => h x (List.mem_cons_of_mem _ m)
    rw [List.sum_cons, List.length_cons, Nat.add_mul, Nat.one_mul]
    omega
theorem range_get {α : Type} {f : Nat → α} {n i : Nat} {d : α} (h : ((List.range n).map f)[i]? = some d) : d = f i := by
  rw [List.getElem?_map] at h
  by_cases hi : i < n
  · rw [List.getElem?_range hi] at h
    exact (Option.some.inj h).symm
  · rw [List.getElem?_eq_none (by simp; omega)] at h
    cases h
theorem map_get {α β : Type} {f : α → β} {l : List α} {i : Nat} {d : β} (h : (l.map f)[i]? = some d) : ∃ a, l[i]? = some a ∧ d = f a := by
  rw [List.getElem?_map] at h
  cases e : l[i]? with
  | none => rw [e] at h; cases h
  | some a =>
    rw [e] at h
    exact ⟨a, rfl, (Option.some.inj h).symm⟩
theorem fm_if {α β : Type} (p : α → Bool) (g : α → β) : ∀ l : List α, (l.map fun x => if p x = true then some (g x) else none).filterMap id = (l.filter p).map g
  | [] => rfl
  | a :: r => by
    rw [List.map_cons, List.filterMap_cons, List.filter_cons]
    cases e : p a with
    | true => simp only [if_true, id]; rw [fm_if p g r]; rfl
    | false => simp only [Bool.false_eq_true, if_false, id]; exact fm_if p g r
theorem cut_len (z : Str) (lo hi : Option Int) : (cutS z lo hi).length ≤ z.length := cutS_length z lo hi
section
variable {P : Program} {w : World} {K : PySem.W.Frag} {mg : Str → Option Value} {base : Heap}
/-! ### names -/
def sp_names : Sp := fun vs H Q _ => ∃ (h k : Int) (m : Nat), vs = [.int h, .int k, .int m] ∧ 0 ≤ k ∧ m ≤ 8 ∧ ∀ p H', Same H H' → H p = none → H' p = some (.lst ((namesF h k m).map V.str)) → Q (.ref p) H'
theorem lettersS_len : lettersS.length = 26 := by decide +kernel
theorem ok_names (d : Df K mg "_law_names" s_names pp_names) (T : Tx mg) (g_stir : Ok P w K mg base 1 "_law_stir" pp_stir sp_stir) (g_barred : Ok P w K mg base 1 "_law_barred" pp_barred sp_barred) :
    Ok P w K mg base 2 "_law_names" pp_names sp_names := by
  refine d.mk sc_names (fun vs H Q E h => ?_) (fun f cdv A outer s H vs Q E hr h => ?_)
  · obtain ⟨h, k, m, rfl, _⟩ := h; rfl
  obtain ⟨h, k, m, rfl, h0, hm, q⟩ := h
  refine ⟨_, (pss_cons (ps_set (i := 3) sc_names.nd rfl (by first | exact .inl rfl | exact .inr rfl) pe_str)
      (pss_cons (ps_set (i := 4) sc_names.nd rfl (by first | exact .inl rfl | exact .inr rfl) (pe_op op_add pe_int (pe_op op_mod (pcall g_stir hr (by omega) rfl (pa_cons (pv 0) (pa_cons (pv 1) pa_nil))) pe_int)))
      (pss_cons (ps_set (i := 5) sc_names.nd rfl (by first | exact .inl rfl | exact .inr rfl) (pe_join pe_str (pe_lc (own := [("j", 7)]) (g := gName 7) (tt := tYes) rfl sc_names.nd (pi_range1 (by rfl) T.range (pa_cons (pv 4) pa_nil)) (blkOk_by (own := [("j", 7)]) (N := N_names) (sc := defScope s_names) (by decide +kernel)) (fun _ _ _ _ _ => (pg_name (i := 7) sc_names.nd rfl (by first | exact .inl rfl | exact .inr rfl))) (fun _ _ _ _ _ => pts_nil) (fun _ _ _ _ _ => (pe_ix ix_str (pv 3) (pe_op op_mod (pcall g_stir hr (by omega) rfl (pa_cons (pv 0) (pa_cons (pe_op op_add (pe_op op_add (pv 1) pe_int) (pv 7)) pa_nil))) pe_int) (fun _ _ => rfl))))))
      (pss_cons (ps_set (i := 6) sc_names.nd rfl (by first | exact .inl rfl | exact .inr rfl) (pe_lst pa_nil))
      (pss_cons (ps_for PassesOwn.never rfl (pi_range1 (by rfl) T.range (pa_cons (pv 2) pa_nil)) (pg_name (i := 7) sc_names.nd rfl (by first | exact .inl rfl | exact .inr rfl)) (pss_cons (ps_set (i := 8) sc_names.nd rfl (by first | exact .inl rfl | exact .inr rfl) (pcall g_stir hr (by omega) rfl (pa_cons (pv 0) (pa_cons (pe_op op_add (pe_op op_add (pv 1) pe_int) (pv 7)) pa_nil))))
      (pss_cons (ps_set (i := 9) sc_names.nd rfl (by first | exact .inl rfl | exact .inr rfl) (pe_op op_mod (pv 8) (pv 4)))
      (pss_cons (ps_set (i := 10) sc_names.nd rfl (by first | exact .inl rfl | exact .inr rfl) (pe_op op_add_str (pe_op op_add_str (pe_slice sl_str (pv 5) po_none (po_some (pv 9))) (pe_ix ix_str (pv 3) (pe_op op_mod (pe_op op_fdiv (pv 8) pe_int) pe_int) (fun _ _ => rfl))) (pe_slice sl_str (pv 5) (po_some (pe_op op_add (pv 9) pe_int)) po_none)))
      (C8.pss_cut (ps_if (pt_cmpR op_eq (pe_op op_mod (pe_op op_fdiv (pv 8) pe_int) pe_int) pe_int (nomark _)) (pss_one (ps_set (i := 10) sc_names.nd rfl (by first | exact .inl rfl | exact .inr rfl) (pe_slice sl_str (pv 5) po_none (po_some (pe_op op_add (pv 9) pe_int))))) pss_nil)
      (C8.pss_cut (ps_if (PW.pt (pw_or (pt_cmpR (op_inK K rfl) (pv 10) (pv 6) (by rfl)) (pw_or1 (pt_cmpR (op_inK K rfl) (pv 10) (pcall0 g_barred hr (by omega) rfl) (by rfl))))) (pss_one (ps_set (i := 10) sc_names.nd rfl (by first | exact .inl rfl | exact .inr rfl) (pe_ix (ix_listK K rfl) (pe_lc (own := [("one", 11)]) (g := gName 11) rfl sc_names.nd (pi_listK K rfl (pe_lc (own := [("n", 12)]) (g := gName 12) (tt := tYes) rfl sc_names.nd (pi_range1 (by rfl) T.range (pa_cons pe_int pa_nil)) (blkOk_by (own := [("n", 12)]) (N := N_names) (sc := defScope s_names) (by decide +kernel)) (fun _ _ _ _ _ => (pg_name (i := 12) sc_names.nd rfl (by first | exact .inl rfl | exact .inr rfl))) (fun _ _ _ _ _ => pts_nil) (fun _ _ _ _ _ => (pe_op op_add_str pe_str (pe_ix ix_str (pv 3) (pv 12) (fun _ _ => rfl)))))) (blkOk_by (own := [("one", 11)]) (N := N_names) (sc := defScope s_names) (by decide +kernel)) (fun _ _ _ _ _ => (pg_name (i := 11) sc_names.nd rfl (by first | exact .inl rfl | exact .inr rfl))) (fun _ _ _ _ _ => (pts_one (pt_cmpR (op_notInK K rfl) (pv 11) (pv 6) (by rfl)))) (fun _ _ _ _ _ => (pv 11))) (pe_op op_mod (pe_op op_fdiv (pv 8) pe_int) pe_int) (fun _ _ => rfl)))) pss_nil)
      (pss_one (ps_expr (pe_bm PySem.F.plainAttrs_list PySem.F.slot_list_append PySem.F.type_list_append mt_append (pv 6) (pa_cons (pv 10) pa_nil))))))))))
      (pss_one (ps_ret (pv 6)))))))), ?_⟩
  have zlo := sizeF_lo h k
  have zhi := sizeF_hi h k
  have ez : 1 + stirF h k % 8 = ((sizeF h k : Nat) : Int) := by
    have := Int.emod_nonneg (stirF h k) (show (8 : Int) ≠ 0 by decide)
    unfold sizeF
    omega
  refine ⟨.int h, rfl, .int k, rfl, h, k, rfl, h0, _, _, rfl, rfl, (by show (0 : Int) < 8; decide), _, _, rfl, rfl, ?_⟩
  -- stem
  refine ⟨⟨_, rfl⟩, .int ((sizeF h k : Nat) : Int), by rw [← ez]; rfl, _, rfl, by omega, by omega, fun D nD => ?_⟩
  refine lc_data (S := []) (ds := ((List.range (sizeF h k)).map fun (j : Nat) => sgn (letC (stirF h (k + 1 + (0 + (j : Int))) % 26))).map PyData.str) (Src.rng 0 (sizeF h k) H) nD (Sb.nil _) (by simp) (by omega) (fun i x dd H1 hx hd sm sb Q2 q2 => ?_) (fun H1 s1 r1 => ?_) (fun _ _ _ _ h p => h _ _ p)
  · subst hx
    have ed : dd = .str (sgn (letC (stirF h (k + 1 + (0 + (i : Int))) % 26))) := by
      rw [List.map_map] at hd
      exact range_get hd
    subst ed
    refine ⟨rfl, .str lettersS, rfl, .int h, rfl, .int k, rfl, _, _, rfl, rfl, _, rfl, _, _, rfl, rfl, h, k + 1 + (0 + (i : Int)), rfl, by omega, _, _, rfl, rfl, (by show (0 : Int) < 26; decide), _, _, _, rfl, rfl, small5 (by rw [lettersS_len]; decide), letC_at (Int.emod_nonneg _ (by decide)) (Int.emod_lt_of_pos _ (by decide)), ?_⟩
    exact q2 _ _ (Same.refl _) (.rstr _)
  obtain ⟨a1, xs1, e1, hx1, _, ra1⟩ := r1.list
  cases e1
  have ex := ra1.of_strs
  subst ex
  have hst := stem_join h k
  have hsl := stemF_len h k
  refine ⟨_, D, _, rfl, rfl, .inl (SqL.of hx1), ?_, ?_⟩
  · have e1 := sum_le (b := 1) (l := ((List.range (sizeF h k)).map fun (j : Nat) => sgn (letC (stirF h (k + 1 + (0 + (j : Int))) % 26))).map (·.length)) fun x hx => by
      obtain ⟨y, hy, rfl⟩ := List.mem_map.mp hx
      obtain ⟨j, _, rfl⟩ := List.mem_map.mp hy
      exact Nat.le_refl _
    rw [List.length_map, List.length_map, List.length_range] at e1
    show _ + _ * 0 ≤ _
    omega
  -- found
  refine ⟨Nat.zero_le _, fun p hp => ?_⟩
  have s2 : Same H (upd H1 p (.lst [])) := s1.trans (nw hp _)
  have np : H p = none := s1.free hp
  refine ⟨.int m, rfl, _, rfl, by omega, by omega, ?_⟩
  refine for_src (Hb := H) (Src.rng 0 m H) (fun i σ H' => Same H H' ∧ H' p = some (.lst ((namesF h k i).map V.str)) ∧ ∃ o7 o8 o9 o10 : Option V,
    σ = [some (.int h), some (.int k), some (.int m), some (.str lettersS), some (.int ((sizeF h k : Nat) : Int)), some (.str (stemF h k)), some (.ref p), o7, o8, o9, o10, none, none])
    ⟨s2, upd_same, none, none, none, none, by rw [← hst, ← ez]; rfl⟩ (fun i σ H' h => h.1) ?_ ?_
  · rintro i x σ H' hi rfl ⟨s3, hf, o7, o8, o9, o10, rfl⟩
    have hlen := namesF_len h k i
    refine ⟨.int h, rfl, .int k, rfl, _, _, rfl, rfl, .int (0 + (i : Int)), rfl, _, _, rfl, rfl, h, k + 9 + (0 + (i : Int)), rfl, by omega, ?_⟩
    have enext : namesF h k (i + 1) = namesF h k i ++ [pickF (namesF h k i) (wordF (stemF h k) (sizeF h k) (stirF h (k + 9 + (0 + (i : Int))))) (stirF h (k + 9 + (0 + (i : Int))))] := rfl
    generalize stirF h (k + 9 + (0 + (i : Int))) = n at enext
    refine ⟨.int n, rfl, .int ((sizeF h k : Nat) : Int), rfl, _, _, rfl, rfl, (by show (0 : Int) < ((sizeF h k : Nat) : Int); omega), ?_⟩
    refine ⟨.str (stemF h k), rfl, .int (n % ((sizeF h k : Nat) : Int)), rfl, _, rfl, _, rfl, small5 (by omega), ?_⟩
    refine ⟨.str lettersS, rfl, .int n, rfl, _, _, rfl, rfl, ⟨by decide, by decide⟩, _, _, rfl, rfl, (by show (0 : Int) < 26; decide), _, _, _, rfl, rfl, small5 (by rw [lettersS_len]; decide), letC_at (Int.emod_nonneg _ (by decide)) (Int.emod_lt_of_pos _ (by decide)), ?_⟩
    have c1 := cut_len (stemF h k) none (some (n % ((sizeF h k : Nat) : Int)))
    have c2 := cut_len (stemF h k) (some (n % ((sizeF h k : Nat) : Int) + 1)) none
    refine ⟨_, _, rfl, rfl, small5 (by show (cutS (stemF h k) none (some (n % ((sizeF h k : Nat) : Int)))).length + 1 ≤ 100000; omega), .str (stemF h k), rfl, .int (n % ((sizeF h k : Nat) : Int)), rfl, _, _, rfl, rfl, _, rfl, _, rfl, small5 (by omega), _, _, rfl, rfl, small5 ?_, ?_⟩
    · rw [slen]
      show (cutS (stemF h k) none (some (n % ((sizeF h k : Nat) : Int)))).length + 1 + (cutS (stemF h k) (some (n % ((sizeF h k : Nat) : Int) + 1)) none).length ≤ 100000
      omega
    refine ⟨fun σ' H'' => H'' = H' ∧ σ' = [some (.int h), some (.int k), some (.int m), some (.str lettersS), some (.int ((sizeF h k : Nat) : Int)), some (.str (stemF h k)), some (.ref p), some (.int (0 + (i : Int))), some (.int n), some (.int (n % ((sizeF h k : Nat) : Int))), some (.str (wordF (stemF h k) (sizeF h k) n)), none, none],
      ?_, ?_⟩
    · refine ⟨.int n, rfl, _, _, rfl, rfl, ⟨by decide, by decide⟩, _, _, rfl, rfl, (by show (0 : Int) < 4; decide), rfl, _, rfl, ite2 (fun e => ?_) (fun e => ?_)⟩
      · have e' : n / 208 % 4 = 0 := V.int.inj (of_decide_eq_true e)
        refine ⟨.str (stemF h k), rfl, .int (n % ((sizeF h k : Nat) : Int)), rfl, _, _, rfl, rfl, _, rfl, _, rfl, small5 (by omega), rfl, ?_⟩
        unfold wordF
        rw [if_pos e']
        rfl
      · have e' : ¬ n / 208 % 4 = 0 := fun z => e (decide_eq_true (congrArg V.int z))
        refine ⟨rfl, ?_⟩
        unfold wordF
        rw [if_neg e']
        rfl
    rintro σ' H'' ⟨rfl, rfl⟩
    refine ⟨fun σ' H2 => Same H H2 ∧ H2 p = some (.lst ((namesF h k i).map V.str)) ∧ σ' = [some (.int h), some (.int k), some (.int m), some (.str lettersS), some (.int ((sizeF h k : Nat) : Int)), some (.str (stemF h k)), some (.ref p), some (.int (0 + (i : Int))), some (.int n), some (.int (n % ((sizeF h k : Nat) : Int))), some (.str (pickF (namesF h k i) (wordF (stemF h k) (sizeF h k) n) n)), none, none],
      ?_, ?_⟩
    · generalize hw : wordF (stemF h k) (sizeF h k) n = wd
      refine if_r (b := decide (wd ∈ namesF h k i) || decide (wd ∈ barredL)) (tst_or (fun Q q => ?_) fun _ H2 s4 Q q => ?_) (fun hb H2 s4 => ?_) (fun hb H2 s4 => ?_)
      · exact ⟨.str wd, rfl, .ref p, rfl, rin_f (SqL.of hf) ⟨_, rfl, q _ (Same.refl _)⟩⟩
      · exact ⟨.str wd, rfl, rfl, fun pb H3 s5 hb => rin_f (SqL.of hb) ⟨_, rfl, q _ s5⟩⟩
      · have hor : wd ∈ namesF h k i ∨ wd ∈ barredL := by simpa using hb
        have hf2 := s4 _ _ hf
        refine ⟨_, rfl, by omega, by omega, fun D1 nD1 => lc_data (S := []) (ds := zzL.map PyData.str) (Src.rng 0 9 H2) nD1 (Sb.nil _) (by decide +kernel) (by decide) (fun j x dd H3 hx hd sm sb Q2 q2 => ?_) (fun H3 s5 r5 => ?_) (fun _ _ _ _ h p => h _ _ p)⟩
        · subst hx
          have hj : j < 9 := by
            have z := (List.getElem?_eq_some_iff.mp hd).1
            have z2 : (zzL.map PyData.str).length = 9 := by decide +kernel
            omega
          have ed : dd = .str (("zz" : Str) ++ sgn (letC (0 + (j : Int)))) := by
            unfold zzL at hd
            rw [List.map_map] at hd
            exact range_get hd
          subst ed
          refine ⟨rfl, .str lettersS, rfl, .int (0 + (j : Int)), rfl, _, _, _, rfl, rfl, small5 (by rw [lettersS_len]; decide), letC_at (by omega) (by omega), _, _, rfl, rfl, small5 (by show 2 + 1 ≤ 100000; decide), ?_⟩
          exact q2 _ _ (Same.refl _) (.rstr _)
        obtain ⟨a5, xs5, e5, hx5, _, ra5⟩ := r5.list
        cases e5
        have ex5 := ra5.of_strs
        subst ex5
        have hf5 := s5 _ _ hf2
        refine ⟨_, rfl, ⟨_, SqL.of hx5⟩, fun D2 nD2 => lc_gen (S := []) (os := zzL.map fun o => if (!decide (o ∈ namesF h k i)) = true then some (PyData.str o) else none) (Src.list (SqL.of hx5)) nD2 (Sb.nil _) (by simp) (by decide +kernel) (fun j x o H4 hx ho sm sb Q2 N2 hq hn => ?_) (fun H4 s6 r6 => ?_)⟩
        · obtain ⟨z, hz, rfl⟩ := map_get hx
          obtain ⟨z', hz', rfl⟩ := map_get ho
          rw [hz] at hz'
          cases hz'
          refine ⟨rfl, .str z, rfl, .ref p, rfl, rin_t (SqL.of (sm _ _ hf5)) ⟨_, rfl, ?_⟩⟩
          cases c : (!decide (z ∈ namesF h k i)) with
          | true =>
            rw [c] at hq
            exact iteT ⟨.str z, rfl, hq _ _ _ rfl (Same.refl _) (.rstr _)⟩
          | false =>
            rw [c] at hn
            exact iteF (hn _ rfl (Same.refl _))
        obtain ⟨a6, xs6, e6, hx6, _, ra6⟩ := r6.list
        cases e6
        rw [fm_if] at ra6
        have ex6 := ra6.of_strs
        subst ex6
        obtain ⟨xp, hp1, hp2, hp3⟩ := pick_at (f := namesF h k i) (by omega) n
        have s46 := (s4.trans s5).trans s6
        refine ⟨.int n, rfl, _, _, rfl, rfl, ⟨by decide, by decide⟩, _, _, rfl, rfl, (by show (0 : Int) < 2; decide), _, _, _, .str xp, rfl, rfl, SqL.of hx6, ?_, ?_⟩
        · have e0 : n / 832 % 2 = (((n / 832 % 2).toNat : Nat) : Int) := by
            have := Int.emod_nonneg (n / 832) (show (2 : Int) ≠ 0 by decide)
            omega
          refine at_of e0 ?_
          rw [List.getElem?_map, hp1]
          rfl
        · refine ⟨s3.trans s46, s46 _ _ hf, ?_⟩
          have ep : pickF (namesF h k i) wd n = xp := by
            unfold pickF
            rw [if_pos hor, List.getD_eq_getElem?_getD, hp1]
            rfl
          rw [ep]
          rfl
      · have hor : ¬ (wd ∈ namesF h k i ∨ wd ∈ barredL) := by simpa using hb
        refine ⟨s3.trans s4, s4 _ _ hf, ?_⟩
        have ep : pickF (namesF h k i) wd n = wd := if_neg hor
        rw [ep]
    rintro σ' H3 ⟨s4, hf4, rfl⟩
    refine ⟨.ref p, rfl, .inl ⟨rfl, _, SqL.of hf4⟩, .str (pickF (namesF h k i) (wordF (stemF h k) (sizeF h k) n) n), rfl, p, _, _, rfl, rfl, hf4, lt5 (by rw [List.length_map]; omega), ?_⟩
    refine ⟨fun c o z => ?_, ?_, _, _, _, _, rfl⟩
    · rw [upd_ne (ne_of_none z np)]
      exact s4 _ _ z
    · rw [upd_same, enext, List.map_append]
      rfl
  · rintro σ H' ⟨s3, hf, o7, o8, o9, o10, rfl⟩
    exact ⟨.ref p, rfl, q _ _ s3 np hf⟩
end
end K14
/-! ## K14H -/
namespace K14
open PySem PySem.Spec PyProof.Rows L2 KR TL
/-! ### data that may be compared -/
/-- data of bounded depth and length -/
def Fit : Nat → PyData → Prop
  | _, .none => True
  | _, .bool _ => True
  | _, .int _ => True
  | _, .str _ => True
  | n + 1, .list ds => ds.length ≤ 100000 ∧ ∀ d ∈ ds, Fit n d
  | n + 1, .tuple ds => ds.length ≤ 100000 ∧ ∀ d ∈ ds, Fit n d
  | _, _ => False
theorem Fit.mono : ∀ {m n : Nat} {d : PyData}, Fit m d → m ≤ n → Fit n d
  | m, n, .none, _, _ => by cases n <;> exact trivial
  | m, n, .bool _, _, _ => by cases n <;> exact trivial
  | m, n, .int _, _, _ => by cases n <;> exact trivial
  | m, n, .str _, _, _ => by cases n <;> exact trivial
  | m + 1, n + 1, .list ds, h, le => ⟨h.1, fun d md => Fit.mono (h.2 d md) (Nat.le_of_succ_le_succ le)⟩
  | m + 1, n + 1, .tuple ds, h, le => ⟨h.1, fun d md => Fit.mono (h.2 d md) (Nat.le_of_succ_le_succ le)⟩
  | 0, _, .list ds, h, _ => h.elim
  | 0, _, .tuple ds, h, _ => h.elim
  | m + 1, _, .dict ds, h, _ => h.elim
  | 0, _, .dict ds, h, _ => h.elim
def okd (n : Nat) (d : PyData) : Prop := d.canLay0 = true ∧ d.depth ≤ n ∧ Fit n d
theorem canAll {ds : List PyData} (h : ∀ d ∈ ds, d.canLay0 = true) : PyData.canLayAll0 ds = true := by
  induction ds with
  | nil => rfl
  | cons d r ih =>
    rw [PyData.canLayAll0, h d (List.mem_cons_self ..), ih fun x m => h x (List.mem_cons_of_mem _ m)]
    rfl
theorem depAll {n : Nat} {ds : List PyData} (h : ∀ d ∈ ds, d.depth ≤ n) : PyData.depthAll ds ≤ n := by
  induction ds with
  | nil => rw [PyData.depthAll]; exact Nat.zero_le _
  | cons d r ih =>
    rw [PyData.depthAll]
    exact Nat.max_le.mpr ⟨h d (List.mem_cons_self ..), ih fun x m => h x (List.mem_cons_of_mem _ m)⟩
theorem okd_list {n : Nat} {ds : List PyData} (h : ∀ d ∈ ds, okd n d) (l : ds.length ≤ 100000 := by simp) : okd (n + 1) (.list ds) := by
  refine ⟨?_, ?_, l, fun d m => (h d m).2.2⟩
  · rw [PyData.canLay0]; exact canAll fun d m => (h d m).1
  · rw [PyData.depth]; exact Nat.succ_le_succ (depAll fun d m => (h d m).2.1)
theorem okd_tup {n : Nat} {ds : List PyData} (h : ∀ d ∈ ds, okd n d) (l : ds.length ≤ 100000 := by simp) : okd (n + 1) (.tuple ds) := by
  refine ⟨?_, ?_, l, fun d m => (h d m).2.2⟩
  · rw [PyData.canLay0]; exact canAll fun d m => (h d m).1
  · rw [PyData.depth]; exact Nat.succ_le_succ (depAll fun d m => (h d m).2.1)
theorem okd_int (n : Nat) (i : Int) : okd n (.int i) := ⟨by rw [PyData.canLay0], (by rw [PyData.depth] <;> first | exact Nat.zero_le _ | simp), by cases n <;> exact trivial⟩
theorem okd_bool (n : Nat) (b : Bool) : okd n (.bool b) := ⟨by rw [PyData.canLay0], (by rw [PyData.depth] <;> first | exact Nat.zero_le _ | simp), by cases n <;> exact trivial⟩
theorem okd_str (n : Nat) {x : Str} (h : PyData.strOk x = true) : okd n (.str x) := ⟨by rw [PyData.canLay0]; exact h, (by rw [PyData.depth] <;> first | exact Nat.zero_le _ | simp), by cases n <;> exact trivial⟩
theorem okd.mono {m n : Nat} {d : PyData} (h : okd m d) (le : m ≤ n) : okd n d := ⟨h.1, Nat.le_trans h.2.1 le, h.2.2.mono le⟩
theorem okd.shaped {n : Nat} {d : PyData} (h : okd n d) (le : n ≤ 64) : SeqAt.shaped d = true := by
  unfold SeqAt.shaped
  rw [h.1, decide_eq_true (Nat.le_trans h.2.1 le)]
  rfl
theorem Et.okd : ∀ (e : Et) {n : Nat}, e.Ok n → okd (n + 1) e.toD
  | .name s, n, h => okd_tup fun d m => by
    rcases List.mem_cons.mp m with z | z
    · rw [z]; exact okd_str _ (by decide +kernel)
    · rw [List.mem_singleton.mp z]; exact okd_str _ (nameL_ok s h)
  | .num k, n, h => okd_tup fun d m => by
    rcases List.mem_cons.mp m with z | z
    · rw [z]; exact okd_str _ (by decide +kernel)
    · rw [List.mem_singleton.mp z]; exact okd_int _ _
  | .now, n, h => okd_tup fun d m => by rw [List.mem_singleton.mp m]; exact okd_str _ (by decide +kernel)
  | .own, n, h => okd_tup fun d m => by rw [List.mem_singleton.mp m]; exact okd_str _ (by decide +kernel)
  | .bin s l r, 0, h => h.elim
  | .bin s l r, n + 1, h => okd_tup fun d m => by
    rcases List.mem_cons.mp m with z | z
    · rw [z]; exact okd_str _ (signL_ok s h.1)
    · rcases List.mem_cons.mp z with z | z
      · rw [z]; exact Et.okd l h.2.1
      · rw [List.mem_singleton.mp z]; exact Et.okd r h.2.2
theorem num_len {n : Int} (h0 : 0 ≤ n) (h : n < 1000000) : (Str.ofString (toString n)).length ≤ 6 := toString_length_le h0 (by decide) (by omega)
/-! ### good: a tool, a store or a row of numbers -/
def GoodD (x : Str) (d : PyData) : Prop := ∃ r, d = .tuple (.str x :: r) ∧ r.length ≤ 10 ∧ ∀ y ∈ r, okd 1 y
section
variable {P : Program} {w : World} {K : PySem.W.Frag} {mg : Str → Option Value} {base : Heap}
def sp_good : Sp := fun vs H Q _ => ∃ (h k : Int) (x : Str) (S : List Addr), vs = [.int h, .int k, .str x] ∧ 0 ≤ k ∧ x.length ≤ 8 ∧ Sb S H ∧
  ∀ p H' (row : Str) (j : Nat) (d : PyData), Same H H' → j < 3 → GoodD x d → R H' S (.ref p) (.list [.str row, .int (j : Int), d]) → Q (.ref p) H'
theorem ok_good (d : Df K mg "_law_good" s_good pp_good) (T : Tx mg) (g_stir : Ok P w K mg base 1 "_law_stir" pp_stir sp_stir) : Ok P w K mg base 2 "_law_good" pp_good sp_good := by
  refine d.mk sc_good (fun vs H Q E h => ?_) (fun f cdv A outer s H vs Q E hr h => ?_)
  · obtain ⟨h, k, x, S, rfl, _⟩ := h; rfl
  obtain ⟨h, k, x, S, rfl, h0, hx8, b, q⟩ := h
  refine ⟨_, (pss_cons (ps_set (i := 3) sc_good.nd rfl (by first | exact .inl rfl | exact .inr rfl) (pcall g_stir hr (by omega) rfl (pa_cons (pv 0) (pa_cons (pe_op op_add pe_int (pv 1)) pa_nil))))
      (pss_cons (ps_set (i := 4) sc_good.nd rfl (by first | exact .inl rfl | exact .inr rfl) (pcall g_stir hr (by omega) rfl (pa_cons (pv 0) (pa_cons (pe_op op_add pe_int (pv 1)) pa_nil))))
      (pss_cons (ps_if (pt_cmpR op_eq (pe_op op_mod (pv 3) pe_int) pe_int (nomark _)) (pss_cons (ps_set (i := 6) sc_good.nd rfl (by first | exact .inl rfl | exact .inr rfl) (pe_op op_add pe_int (pe_op op_mod (pv 4) pe_int)))
      (pss_one (ps_ret (pe_lst (pa_cons (pe_op op_add_str (pe_op op_add_str (pe_op op_add_str pe_str (pv 2)) pe_str) (pe_callTy call_str_int (by rfl) T.str (by decide +kernel) (pa_cons (pv 6) pa_nil))) (pa_cons pe_int (pa_cons (pe_tup (pa_cons (pv 2) (pa_cons (pv 6) pa_nil))) pa_nil))))))) pss_nil)
      (pss_cons (ps_if (pt_cmpR op_eq (pe_op op_mod (pv 3) pe_int) pe_int (nomark _)) (pss_cons (ps_set (i := 7) sc_good.nd rfl (by first | exact .inl rfl | exact .inr rfl) (pe_ix (ix_listK K rfl) (pe_lst (pa_cons pe_int (pa_cons pe_int (pa_cons (pe_op op_add pe_int (pe_op op_mod (pv 4) pe_int)) (pa_cons (pe_op op_add pe_int (pe_op op_mod (pv 4) pe_int)) pa_nil))))) (pe_op op_mod (pe_op op_fdiv (pv 3) pe_int) pe_int) (fun _ _ => rfl)))
      (pss_cons (ps_set (i := 8) sc_good.nd rfl (by first | exact .inl rfl | exact .inr rfl) (pe_ix (ix_listK K rfl) (pe_lst (pa_cons pe_int (pa_cons (pv 7) (pa_cons (pe_op op_mod (pe_op op_fdiv (pv 4) pe_int) (pe_op op_add (pv 7) pe_int)) pa_nil)))) (pe_op op_mod (pe_op op_fdiv (pv 3) pe_int) pe_int) (fun _ _ => rfl)))
      (pss_one (ps_ret (pe_lst (pa_cons (pe_op op_add_str (pe_op op_add_str (pe_op op_add_str (pe_op op_add_str (pe_op op_add_str pe_str (pv 2)) pe_str) (pe_callTy call_str_int (by rfl) T.str (by decide +kernel) (pa_cons (pv 8) pa_nil))) pe_str) (pe_callTy call_str_int (by rfl) T.str (by decide +kernel) (pa_cons (pv 7) pa_nil))) (pa_cons pe_int (pa_cons (pe_tup (pa_cons (pv 2) (pa_cons (pv 8) (pa_cons (pv 7) pa_nil)))) pa_nil)))))))) pss_nil)
      (pss_cons (ps_setLc (i := 5) (own := [("j", 9)]) (g := gName 9) (tt := tYes) rfl sc_good.nd rfl rfl (sw_true rfl rfl rfl (by decide +kernel)) (pi_range1 (by rfl) T.range (pa_cons (pe_op op_add pe_int (pe_op op_mod (pv 4) pe_int)) pa_nil)) (blkOk_by (own := [("j", 9)]) (N := N_good) (sc := defScope s_good) (by decide +kernel)) (fun _ _ _ _ _ => (pg_name (i := 9) sc_good.nd rfl (by first | exact .inl rfl | exact .inr rfl))) (fun _ _ _ _ _ => pts_nil) (fun _ _ _ _ _ => (pe_op op_mod (pcall g_stir hr (by omega) rfl (pa_cons (pv 0) (pa_cons (pe_op op_add (pe_op op_add pe_int (pe_op op_mul pe_int (pv 1))) (pv 9)) pa_nil))) (pe_ix (ix_listK K rfl) (pe_lst (pa_cons pe_int (pa_cons pe_int (pa_cons pe_int pa_nil)))) (pe_op op_mod (pe_op op_fdiv (pv 3) pe_int) pe_int) (fun _ _ => rfl)))))
      (pss_one (ps_ret (pe_lst (pa_cons (pe_join pe_str (pe_op op_cat (pe_lst (pa_cons pe_str (pa_cons (pv 2) pa_nil))) (pe_lc (own := [("one", 10)]) (g := gName 10) (tt := tYes) rfl sc_good.nd (pi_listK K rfl (pv 5)) (blkOk_by (own := [("one", 10)]) (N := N_good) (sc := defScope s_good) (by decide +kernel)) (fun _ _ _ _ _ => (pg_name (i := 10) sc_good.nd rfl (by first | exact .inl rfl | exact .inr rfl))) (fun _ _ _ _ _ => pts_nil) (fun _ _ _ _ _ => (pe_callTy call_str_int (by rfl) T.str (by decide +kernel) (pa_cons (pv 10) pa_nil)))))) (pa_cons pe_int (pa_cons (pe_tup (pa_cons (pv 2) (pa_cons (pv 5) pa_nil))) pa_nil))))))))))), ?_⟩
  refine ⟨.int h, rfl, .int k, rfl, _, _, rfl, rfl, h, 520 + k, rfl, by omega, ?_⟩
  refine ⟨.int h, rfl, .int k, rfl, _, _, rfl, rfl, h, 540 + k, rfl, by omega, ?_⟩
  generalize stirF h (520 + k) = n
  have hf0 := stirF_lo h (540 + k)
  have hf1 := stirF_hi h (540 + k)
  generalize stirF h (540 + k) = far at hf0 hf1
  refine ⟨.int n, rfl, _, _, rfl, rfl, (by show (0 : Int) < 3; decide), rfl, _, rfl, ite2 (fun e => ?_) (fun e => ?_)⟩
  · -- a tool
    have c0 := Int.emod_nonneg far (show (9 : Int) ≠ 0 by decide)
    have c1 := Int.emod_lt_of_pos far (show (0 : Int) < 9 by decide)
    have hl := num_len (n := 1 + far % 9) (by omega) (by omega)
    refine ⟨.int far, rfl, _, _, rfl, rfl, (by show (0 : Int) < 9; decide), _, _, rfl, rfl, ?_⟩
    refine ⟨.str x, rfl, _, _, rfl, rfl, small5 (by show 5 + x.length ≤ 100000; omega), _, _, rfl, rfl, small5 (by rw [slen]; show 5 + x.length + 1 ≤ 100000; omega), .int (1 + far % 9), rfl, _, rfl, log_small (by omega) (by omega), _, _, rfl, rfl,
      small5 (by rw [slen, slen]; show 5 + x.length + 1 + _ ≤ 100000; omega), ?_⟩
    refine ⟨.str x, rfl, .int (1 + far % 9), rfl, small5 (by simp), fun p1 hp1 => ⟨small5 (by simp), fun p2 hp2 => ?_⟩⟩
    have r1 : R _ S (.ref p1) (.tuple [.str x, .int (1 + far % 9)]) := R.newT b hp1 (.cons (.rstr _) (.one (.rint _)))
    refine q _ _ _ 0 (.tuple [.str x, .int (1 + far % 9)]) ((nw hp1 _).trans (nw hp2 _)) (by decide) ⟨_, rfl, by simp, fun y m => ?_⟩ (R.newL (b.same (nw hp1 _)) hp2 (.cons (.rstr _) (.cons (.rint _) (.one r1))))
    rw [List.mem_singleton.mp m]
    exact okd_int _ _
  refine ⟨.int n, rfl, _, _, rfl, rfl, (by show (0 : Int) < 3; decide), rfl, _, rfl, ite2 (fun e => ?_) (fun e => ?_)⟩
  · -- a store
    have m9 := Int.emod_nonneg far (show (9 : Int) ≠ 0 by decide)
    have m9' := Int.emod_lt_of_pos far (show (0 : Int) < 9 by decide)
    have m99 := Int.emod_nonneg far (show (999 : Int) ≠ 0 by decide)
    have m99' := Int.emod_lt_of_pos far (show (0 : Int) < 999 by decide)
    obtain ⟨v, hv, hat⟩ := atI_mem (xs := [V.int 1, V.int 999, V.int (1 + far % 9), V.int (1 + far % 999)]) (i := n / 3 % 4) (Int.emod_nonneg _ (by decide)) (Int.emod_lt_of_pos _ (by decide))
    obtain ⟨most, rfl, hm0, hm1⟩ : ∃ m : Int, v = V.int m ∧ 1 ≤ m ∧ m ≤ 999 := by
      simp only [List.mem_cons, List.not_mem_nil, or_false] at hv
      rcases hv with z | z | z | z
      · exact ⟨_, z, by omega, by omega⟩
      · exact ⟨_, z, by omega, by omega⟩
      · exact ⟨_, z, by omega, by omega⟩
      · exact ⟨_, z, by omega, by omega⟩
    refine ⟨.int far, rfl, _, _, rfl, rfl, (by show (0 : Int) < 9; decide), _, _, rfl, rfl, .int far, rfl, _, _, rfl, rfl, (by show (0 : Int) < 999; decide), _, _, rfl, rfl, small5 (by simp), fun p1 hp1 => ?_⟩
    refine ⟨.int n, rfl, _, _, rfl, rfl, ⟨by decide, by decide⟩, _, _, rfl, rfl, (by show (0 : Int) < 4; decide), p1, _, _, _, rfl, rfl, SqL.of upd_same, hat, ?_⟩
    have f0 := Int.emod_nonneg (far / 1000) (show most + 1 ≠ 0 by omega)
    have f1 := Int.emod_lt_of_pos (far / 1000) (show 0 < most + 1 by omega)
    obtain ⟨v, hv, hat2⟩ := atI_mem (xs := [V.int 0, V.int most, V.int (far / 1000 % (most + 1))]) (i := n / 12 % 3) (Int.emod_nonneg _ (by decide)) (Int.emod_lt_of_pos _ (by decide))
    obtain ⟨first, rfl, hf0, hf1⟩ : ∃ m : Int, v = V.int m ∧ 0 ≤ m ∧ m ≤ 999 := by
      simp only [List.mem_cons, List.not_mem_nil, or_false] at hv
      rcases hv with z | z | z
      · exact ⟨_, z, by omega, by omega⟩
      · exact ⟨_, z, by omega, by omega⟩
      · exact ⟨_, z, by omega, by omega⟩
    refine ⟨.int most, rfl, .int far, rfl, _, _, rfl, rfl, ⟨by decide, by decide⟩, .int most, rfl, _, _, rfl, rfl, _, _, rfl, rfl, (by show 0 < most + 1; omega), small5 (by simp), fun p2 hp2 => ?_⟩
    refine ⟨.int n, rfl, _, _, rfl, rfl, ⟨by decide, by decide⟩, _, _, rfl, rfl, (by show (0 : Int) < 3; decide), p2, _, _, _, rfl, rfl, SqL.of upd_same, hat2, ?_⟩
    have l1 := num_len (n := first) (by omega) (by omega)
    have l2 := num_len (n := most) (by omega) (by omega)
    have s2 := (nw hp1 (.lst [V.int 1, V.int 999, V.int (1 + far % 9), V.int (1 + far % 999)])).trans (nw hp2 (.lst [V.int 0, V.int most, V.int (far / 1000 % (most + 1))]))
    refine ⟨.str x, rfl, _, _, rfl, rfl, small5 (by show 6 + x.length ≤ 100000; omega), _, _, rfl, rfl, small5 (by rw [slen]; show 6 + x.length + 1 ≤ 100000; omega), .int first, rfl, _, rfl, log_small (by omega) (by omega), _, _, rfl, rfl,
      small5 (by rw [slen, slen]; show 6 + x.length + 1 + _ ≤ 100000; omega), _, _, rfl, rfl, small5 (by rw [slen, slen, slen]; show 6 + x.length + 1 + _ + 1 ≤ 100000; omega), .int most, rfl, _, rfl, log_small (by omega) (by omega), _, _, rfl, rfl,
      small5 (by rw [slen, slen, slen, slen]; show 6 + x.length + 1 + _ + 1 + _ ≤ 100000; omega), ?_⟩
    refine ⟨.str x, rfl, .int first, rfl, .int most, rfl, small5 (by simp), fun p3 hp3 => ⟨small5 (by simp), fun p4 hp4 => ?_⟩⟩
    have r1 : R _ S (.ref p3) (.tuple [.str x, .int first, .int most]) := R.newT (b.same s2) hp3 (.cons (.rstr _) (.cons (.rint _) (.one (.rint _))))
    refine q _ _ _ 1 (.tuple [.str x, .int first, .int most]) (s2.trans ((nw hp3 _).trans (nw hp4 _))) (by decide) ⟨_, rfl, by simp, fun y m => ?_⟩ (R.newL (b.same (s2.trans (nw hp3 _))) hp4 (.cons (.rstr _) (.cons (.rint _) (.one r1))))
    rcases List.mem_cons.mp m with z | z
    · rw [z]; exact okd_int _ _
    · rw [List.mem_singleton.mp z]; exact okd_int _ _
  · -- a row of numbers
    obtain ⟨v, hv, hat⟩ := atI_mem (xs := [V.int 10, V.int 1000, V.int 1]) (i := n / 3 % 3) (Int.emod_nonneg _ (by decide)) (Int.emod_lt_of_pos _ (by decide))
    obtain ⟨m, rfl, hm0, hm1⟩ : ∃ m : Int, v = V.int m ∧ 1 ≤ m ∧ m ≤ 1000 := by
      simp only [List.mem_cons, List.not_mem_nil, or_false] at hv
      rcases hv with z | z | z
      · exact ⟨_, z, by omega, by omega⟩
      · exact ⟨_, z, by omega, by omega⟩
      · exact ⟨_, z, by omega, by omega⟩
    have f0 := Int.emod_nonneg far (show (20 : Int) ≠ 0 by decide)
    have f1 := Int.emod_lt_of_pos far (show (0 : Int) < 20 by decide)
    obtain ⟨z, ez, hz⟩ : ∃ z : Nat, 1 + far % 20 = (z : Int) ∧ z ≤ 20 := ⟨(1 + far % 20).toNat, by omega, by omega⟩
    have bnd : ∀ i : Nat, 0 ≤ stirF h (560 + 20 * k + (0 + (i : Int))) % m ∧ stirF h (560 + 20 * k + (0 + (i : Int))) % m < 1000000 := fun i => by
      have a0 := Int.emod_nonneg (stirF h (560 + 20 * k + (0 + (i : Int)))) (show m ≠ 0 by omega)
      have a1 := Int.emod_lt_of_pos (stirF h (560 + 20 * k + (0 + (i : Int)))) (show 0 < m by omega)
      exact ⟨a0, by omega⟩
    refine ⟨.int far, rfl, _, _, rfl, rfl, (by show (0 : Int) < 20; decide), _, _, rfl, rfl, (z : Int), by rw [← ez], by omega, by omega, fun D nD => ?_⟩
    refine lc_data (S := S) (ds := (List.range z).map fun (j : Nat) => PyData.int (stirF h (560 + 20 * k + (0 + (j : Int))) % m)) (Src.rng 0 z H) nD b (by simp) (by omega) (fun i y dd H1 hx hd sm sb Q2 q2 => ?_) (fun H1 s1 r1 => ?_) (fun _ _ _ _ h p => h _ _ p)
    · subst hx
      have ed := range_get hd
      subst ed
      refine ⟨rfl, .int h, rfl, .int k, rfl, _, _, rfl, rfl, .inl ⟨by decide, by decide⟩, _, _, rfl, rfl, .int (0 + (i : Int)), rfl, _, _, rfl, rfl, h, 560 + 20 * k + (0 + (i : Int)), rfl, by omega, small5 (by simp), fun p1 hp1 => ?_⟩
      refine ⟨.int n, rfl, _, _, rfl, rfl, ⟨by decide, by decide⟩, _, _, rfl, rfl, (by show (0 : Int) < 3; decide), p1, _, _, _, rfl, rfl, SqL.of upd_same, hat, _, _, rfl, rfl, (by show 0 < m; omega), ?_⟩
      exact q2 _ _ (nw hp1 _) (.rint _)
    obtain ⟨a1, xs1, e1, hx1, _, ra1⟩ := id r1.list
    cases e1
    refine ⟨⟨_, rfl⟩, .str x, rfl, small5 (by simp), fun p1 hp1 => ?_⟩
    have s2 := nw hp1 (.lst [V.str "row", V.str x])
    have len1 : xs1.length = z := by rw [ra1.length]; simp
    refine ⟨.ref D, rfl, D, rfl, ⟨_, SqL.of (s2 _ _ hx1)⟩, fun D2 nD2 => ?_⟩
    refine lc_data (S := S) (ds := ((List.range z).map fun (j : Nat) => Str.ofString (toString (stirF h (560 + 20 * k + (0 + (j : Int))) % m))).map PyData.str) (Src.list (SqL.of (s2 _ _ hx1))) nD2 ((b.same s1).same s2) (by simp [len1]) (by omega) (fun i y dd H2 hx hd sm sb Q2 q2 => ?_) (fun H2 s3 r3 => ?_) (fun _ _ _ _ h p => h _ _ p)
    · obtain ⟨d1, hd1, r'⟩ := ra1.getV hx
      have ed1 := range_get hd1
      subst ed1
      have ey := r'.int_inv
      subst ey
      rw [List.map_map] at hd
      have ed := range_get hd
      subst ed
      refine ⟨rfl, _, rfl, _, rfl, log_small (bnd i).1 (bnd i).2, ?_⟩
      exact q2 _ _ (Same.refl _) (.rstr _)
    obtain ⟨a3, xs3, e3, hx3, _, ra3⟩ := r3.list
    cases e3
    have ex3 := ra3.of_strs
    subst ex3
    have hl3 : ((((List.range z).map fun (j : Nat) => Str.ofString (toString (stirF h (560 + 20 * k + (0 + (j : Int))) % m))).map V.str)).length = z := by simp
    refine ⟨p1, D2, _, _, rfl, rfl, s3 _ _ upd_same, hx3, small5 (by rw [hl3]; show 2 + z ≤ 100000; omega), fun p2 hp2 => ?_⟩
    refine ⟨_, p2, ("row" : Str) :: x :: ((List.range z).map fun (j : Nat) => Str.ofString (toString (stirF h (560 + 20 * k + (0 + (j : Int))) % m))), rfl, rfl, .inl (SqL.of upd_same), ?_, ?_⟩
    · have e1 := sum_le (b := 8) (l := (("row" : Str) :: x :: ((List.range z).map fun (j : Nat) => Str.ofString (toString (stirF h (560 + 20 * k + (0 + (j : Int))) % m)))).map (·.length)) fun y hy => by
        obtain ⟨t, ht, rfl⟩ := List.mem_map.mp hy
        rcases List.mem_cons.mp ht with c | c
        · rw [c]; exact (by decide +kernel : ("row" : Str).length ≤ 8)
        · rcases List.mem_cons.mp c with c | c
          · rw [c]; exact hx8
          · obtain ⟨j, _, rfl⟩ := List.mem_map.mp c
            have := num_len (bnd j).1 (bnd j).2
            exact Nat.le_trans this (by decide)
      simp only [List.length_map, List.length_cons, List.length_range] at e1 ⊢
      show _ + (z + 1 + 1) * 1 ≤ _
      simp only [List.map_cons, List.sum_cons] at e1 ⊢
      omega
    refine ⟨.str x, rfl, .ref D, rfl, small5 (by simp), fun p3 hp3 => ⟨small5 (by simp), fun p4 hp4 => ?_⟩⟩
    have s5 := ((s1.trans s2).trans s3).trans (nw hp2 (.lst ([V.str "row", V.str x] ++ (((List.range z).map fun (j : Nat) => Str.ofString (toString (stirF h (560 + 20 * k + (0 + (j : Int))) % m))).map V.str))))
    have r5 := r1.mono ((s2.trans s3).trans (nw hp2 (.lst ([V.str "row", V.str x] ++ (((List.range z).map fun (j : Nat) => Str.ofString (toString (stirF h (560 + 20 * k + (0 + (j : Int))) % m))).map V.str)))))
    have r6 : R _ S (.ref p3) (.tuple [.str x, .list ((List.range z).map fun (j : Nat) => PyData.int (stirF h (560 + 20 * k + (0 + (j : Int))) % m))]) := R.newT (b.same s5) hp3 (.cons (.rstr _) (.one r5))
    refine q _ _ _ 2 _ (s5.trans ((nw hp3 _).trans (nw hp4 _))) (by decide) ⟨_, rfl, by simp, fun y mm => ?_⟩ (R.newL (b.same (s5.trans (nw hp3 _))) hp4 (.cons (.rstr _) (.cons (.rint _) (.one r6))))
    rw [List.mem_singleton.mp mm]
    refine okd_list (n := 0) (fun t ht => ?_) (by rw [List.length_map, List.length_range]; omega)
    obtain ⟨j, _, rfl⟩ := List.mem_map.mp ht
    exact okd_int _ _
end
end K14
/-! ## K14I -/
namespace K14
open PySem PySem.Spec PyProof.Rows L2 KR TL
/-- three addresses by their number -/
def a3 (x y z : Addr) : Nat → Addr
  | 0 => x | 1 => y | _ => z
theorem a3_at (x y z : Addr) {j : Nat} (h : j < 3) : [V.ref x, V.ref y, V.ref z][j]? = some (.ref (a3 x y z j)) := by
  match j, h with
  | 0, _ => rfl
  | 1, _ => rfl
  | 2, _ => rfl
theorem a3_inj {x y z : Addr} (h1 : x ≠ y) (h2 : x ≠ z) (h3 : y ≠ z) {i j : Nat} (hi : i < 3) (hj : j < 3) (e : a3 x y z i = a3 x y z j) : i = j := by
  match i, j, hi, hj with
  | 0, 0, _, _ => rfl
  | 0, 1, _, _ => exact absurd e h1
  | 0, 2, _, _ => exact absurd e h2
  | 1, 0, _, _ => exact absurd e.symm h1
  | 1, 1, _, _ => rfl
  | 1, 2, _, _ => exact absurd e h3
  | 2, 0, _, _ => exact absurd e.symm h2
  | 2, 1, _, _ => exact absurd e.symm h3
  | 2, 2, _, _ => rfl
theorem a3_mem (x y z : Addr) (S : List Addr) (j : Nat) : a3 x y z j ∈ x :: y :: z :: S := by
  match j with
  | 0 => exact List.mem_cons_self ..
  | 1 => exact List.mem_cons_of_mem _ (List.mem_cons_self ..)
  | j + 2 => exact List.mem_cons_of_mem _ (List.mem_cons_of_mem _ (List.mem_cons_self ..))
theorem a3_all {p : Addr → Prop} {x y z : Addr} (h1 : p x) (h2 : p y) (h3 : p z) (j : Nat) : p (a3 x y z j) := by
  match j with
  | 0 => exact h1
  | 1 => exact h2
  | j + 2 => exact h3
def GoodsOk (h : Int) (d : Nat → List PyData) : Prop := ∀ j, j < 3 → (d j).length ≤ 5 ∧ ∀ t ∈ d j, ∃ x, x ∈ namesF h 400 5 ∧ GoodD x t
section
variable {P : Program} {w : World} {K : PySem.W.Frag} {mg : Str → Option Value} {base : Heap}
def sp_goods : Sp := fun vs H Q _ => ∃ (h : Int) (S : List Addr), vs = [.int h] ∧ Sb S H ∧
  ∀ (p rp pt : Addr) H' (rws : List V) (d : Nat → List PyData), Same H H' → H rp = none → H' rp = some (.lst rws) → rws.length ≤ 5 → H' p = some (.lst [.ref rp, .ref pt]) → p ≠ rp → GoodsOk h d →
    R H' (rp :: S) (.ref pt) (.tuple [.list (d 0), .list (d 1), .list (d 2)]) → Q (.ref p) H'
theorem ok_goods (d : Df K mg "_law_goods" s_goods pp_goods) (T : Tx mg) (g_stir : Ok P w K mg base 1 "_law_stir" pp_stir sp_stir) (g_names : Ok P w K mg base 2 "_law_names" pp_names sp_names)
    (g_good : Ok P w K mg base 2 "_law_good" pp_good sp_good) : Ok P w K mg base 3 "_law_goods" pp_goods sp_goods := by
  refine d.mk sc_goods (fun vs H Q E h => ?_) (fun f cdv A outer s H vs Q E hr h => ?_)
  · obtain ⟨h, S, rfl, _⟩ := h; rfl
  obtain ⟨h, S, rfl, b, q⟩ := h
  refine ⟨_, (pss_cons (ps_set (i := 1) sc_goods.nd rfl (by first | exact .inl rfl | exact .inr rfl) (pe_lst pa_nil))
      (pss_cons (ps_set (i := 2) sc_goods.nd rfl (by first | exact .inl rfl | exact .inr rfl) (pe_tup (pa_cons (pe_lst pa_nil) (pa_cons (pe_lst pa_nil) (pa_cons (pe_lst pa_nil) pa_nil)))))
      (pss_cons (ps_set (i := 3) sc_goods.nd rfl (by first | exact .inl rfl | exact .inr rfl) (pcall g_names hr (by omega) rfl (pa_cons (pv 0) (pa_cons pe_int (pa_cons pe_int pa_nil)))))
      (pss_cons (ps_for PassesOwn.never rfl (pi_range1 (by rfl) T.range (pa_cons (pe_op op_mod (pcall g_stir hr (by omega) rfl (pa_cons (pv 0) (pa_cons pe_int pa_nil))) pe_int) pa_nil)) (pg_name (i := 4) sc_goods.nd rfl (by first | exact .inl rfl | exact .inr rfl)) (pss_cons (ps_set (i := 5) sc_goods.nd rfl (by first | exact .inl rfl | exact .inr rfl) (pe_ix (ix_listK K rfl) (pv 3) (pe_op op_add (pe_callB (call_lenK K rfl) (by rfl) T.len PySem.boot_len (pa_cons (pe_ix (ix_tupK K rfl) (pv 2) pe_int (fun _ _ => rfl)) pa_nil)) (pe_callB (call_lenK K rfl) (by rfl) T.len PySem.boot_len (pa_cons (pe_ix (ix_tupK K rfl) (pv 2) pe_int (fun _ _ => rfl)) pa_nil))) (fun _ _ => rfl)))
      (C8.pss_cut (ps_if (pt_cmpR op_eq (pe_op op_mod (pcall g_stir hr (by omega) rfl (pa_cons (pv 0) (pa_cons (pe_op op_add pe_int (pv 4)) pa_nil))) pe_int) pe_int (nomark _)) (pss_one (ps_set (i := 5) sc_goods.nd rfl (by first | exact .inl rfl | exact .inr rfl) (pe_ix (ix_listK K rfl) (pv 3) (pe_op op_mod (pe_op op_add (pcall g_stir hr (by omega) rfl (pa_cons (pv 0) (pa_cons pe_int pa_nil))) (pe_callB (call_lenK K rfl) (by rfl) T.len PySem.boot_len (pa_cons (pe_ix (ix_tupK K rfl) (pv 2) pe_int (fun _ _ => rfl)) pa_nil))) pe_int) (fun _ _ => rfl)))) pss_nil)
      (pss_cons (ps_asg (pcall g_good hr (by omega) rfl (pa_cons (pv 0) (pa_cons (pv 4) (pa_cons (pv 5) pa_nil)))) (pg_unlK (n := 3) K rfl rfl (pgs_cons (pg_name (i := 6) sc_goods.nd rfl (by first | exact .inl rfl | exact .inr rfl)) (pgs_cons (pg_name (i := 7) sc_goods.nd rfl (by first | exact .inl rfl | exact .inr rfl)) (pgs_cons (pg_name (i := 8) sc_goods.nd rfl (by first | exact .inl rfl | exact .inr rfl)) pgs_nil)))))
      (pss_cons (ps_expr (pe_bm PySem.F.plainAttrs_list PySem.F.slot_list_append PySem.F.type_list_append mt_append (pv 1) (pa_cons (pv 6) pa_nil)))
      (pss_one (ps_expr (pe_bm PySem.F.plainAttrs_list PySem.F.slot_list_append PySem.F.type_list_append mt_append (pe_ix (ix_tupK K rfl) (pv 2) (pv 7) (fun _ _ => rfl)) (pa_cons (pv 8) pa_nil)))))))))
      (pss_one (ps_ret (pe_lst (pa_cons (pv 1) (pa_cons (pv 2) pa_nil))))))))), ?_⟩
  refine ⟨Nat.zero_le _, fun rp hrp => ⟨Nat.zero_le _, fun pa hpa => ⟨Nat.zero_le _, fun pb hpb => ⟨Nat.zero_le _, fun pc hpc => ⟨small5 (by simp), fun pt hpt => ?_⟩⟩⟩⟩⟩
  have sa := nw hpa (.lst [])
  have sb := nw hpb (.lst [])
  have sc := nw hpc (.lst [])
  have st := nw hpt (.tup [.ref pa, .ref pb, .ref pc])
  have s0 := nw hrp (.lst [])
  have er0 := (sa.trans (sb.trans (sc.trans st))) _ _ (upd_same (H := H) (a := rp) (o := .lst []))
  have ea0 := (sb.trans (sc.trans st)) _ _ (upd_same (a := pa) (o := .lst []))
  have eb0 := (sc.trans st) _ _ (upd_same (a := pb) (o := .lst []))
  have ec0 := st _ _ (upd_same (a := pc) (o := .lst []))
  have nra : rp ≠ pa := ne_of_none upd_same hpa
  have nrb : rp ≠ pb := ne_of_none (sa _ _ upd_same) hpb
  have nrc : rp ≠ pc := ne_of_none ((sa.trans sb) _ _ upd_same) hpc
  have nab : pa ≠ pb := ne_of_none upd_same hpb
  have nac : pa ≠ pc := ne_of_none (sb _ _ upd_same) hpc
  have nbc : pb ≠ pc := ne_of_none upd_same hpc
  have fpa : H pa = none := s0.free hpa
  have fpb : H pb = none := (s0.trans sa).free hpb
  have fpc : H pc = none := ((s0.trans sa).trans sb).free hpc
  have sH : Same H _ := s0.trans (sa.trans (sb.trans (sc.trans st)))
  refine ⟨.int h, rfl, h, 400, 5, rfl, by decide, by decide, fun pn H2 s2 nn hn => ?_⟩
  have nrn : pn ≠ rp := (ne_of_none er0 nn).symm
  have nn3 : ∀ j, pn ≠ a3 pa pb pc j := a3_all (ne_of_none ea0 nn).symm (ne_of_none eb0 nn).symm (ne_of_none ec0 nn).symm
  have nt3 : ∀ j, pt ≠ a3 pa pb pc j := a3_all (ne_of_none ((sb.trans sc) _ _ upd_same) hpt).symm (ne_of_none (sc _ _ upd_same) hpt).symm (ne_of_none upd_same hpt).symm
  have ntr : pt ≠ rp := (ne_of_none ((sa.trans (sb.trans sc)) _ _ upd_same) hpt).symm
  have nr3 : ∀ j, rp ≠ a3 pa pb pc j := a3_all nra nrb nrc
  have f3 : ∀ j, H (a3 pa pb pc j) = none := a3_all (p := fun x => H x = none) fpa fpb fpc
  obtain ⟨t, et, ht⟩ : ∃ t : Nat, stirF h 500 % 6 = (t : Int) ∧ t ≤ 5 := ⟨(stirF h 500 % 6).toNat, by have := Int.emod_nonneg (stirF h 500) (show (6 : Int) ≠ 0 by decide); omega, by have := Int.emod_lt_of_pos (stirF h 500) (show (0 : Int) < 6 by decide); omega⟩
  refine ⟨.int h, rfl, h, 500, rfl, by decide, _, _, rfl, rfl, (by show (0 : Int) < 6; decide), (t : Int), by rw [← et], by omega, by omega, ?_⟩
  refine for_src (Hb := H) (Src.rng 0 t H) (fun i σ H' => ∃ (rws : List V) (v : Nat → List V) (dd : Nat → List PyData), Same H H' ∧ H' rp = some (.lst rws) ∧ rws.length = i ∧
      (∀ j, j < 3 → H' (a3 pa pb pc j) = some (.lst (v j)) ∧ RA H' (pa :: pb :: pc :: rp :: S) (v j) (dd j) ∧ ∀ t ∈ dd j, ∃ x, x ∈ namesF h 400 5 ∧ GoodD x t) ∧ (v 0).length + (v 1).length + (v 2).length = i ∧
      H' pt = some (.tup [.ref pa, .ref pb, .ref pc]) ∧ H' pn = some (.lst ((namesF h 400 5).map V.str)) ∧ Sb (pa :: pb :: pc :: rp :: S) H' ∧
      ∃ o4 o5 o6 o7 o8 : Option V, σ = [some (.int h), some (.ref rp), some (.ref pt), some (.ref pn), o4, o5, o6, o7, o8])
    ⟨[], fun _ => [], fun _ => [], sH.trans s2, s2 _ _ er0, rfl, fun j hj => ⟨?_, .nil, fun _ m => nomatch m⟩, rfl, s2 _ _ upd_same, hn, ?_, _, _, _, _, _, rfl⟩ (fun i σ H' ⟨_, _, _, h, _⟩ => h) ?_ ?_
  · match j, hj with
    | 0, _ => exact s2 _ _ ea0
    | 1, _ => exact s2 _ _ eb0
    | 2, _ => exact s2 _ _ ec0
  · exact ((((b.same (sH.trans s2)).cons (s2 _ _ er0)).cons (s2 _ _ ec0)).cons (s2 _ _ eb0)).cons (s2 _ _ ea0)
  · rintro i x σ H' hi rfl ⟨rws, v, dd, s3, hrw, hrl, h3, hsum, hpt', hn', sb4, o4, o5, o6, o7, o8, rfl⟩
    have nl : ((namesF h 400 5).map V.str).length = 5 := by rw [List.length_map, namesF_len]
    obtain ⟨y, hy, hat⟩ := atI_mem (xs := (namesF h 400 5).map V.str) (i := ((v 0).length : Int) + ((v 1).length : Int)) (by omega) (by rw [nl]; omega)
    obtain ⟨x1, hx1, rfl⟩ := List.mem_map.mp hy
    refine ⟨.ref pn, rfl, .ref pt, rfl, pt, _, _, _, rfl, rfl, SqT.of hpt', at_of (j := 0) rfl rfl, pa, _, rfl, .inl (SqL.of (h3 0 (by decide)).1), .ref pt, rfl, pt, _, _, _, rfl, rfl, SqT.of hpt', at_of (j := 1) rfl rfl, pb, _, rfl, .inl (SqL.of (h3 1 (by decide)).1), _, _, rfl, rfl,
      pn, _, _, _, rfl, rfl, SqL.of hn', hat, ?_⟩
    refine ⟨fun σ' H'' => H'' = H' ∧ ∃ x, x ∈ namesF h 400 5 ∧ σ' = [some (.int h), some (.ref rp), some (.ref pt), some (.ref pn), some (.int (0 + (i : Int))), some (.str x), o6, o7, o8], ?_, ?_⟩
    · refine ⟨.int h, rfl, .int (0 + (i : Int)), rfl, _, _, rfl, rfl, h, 520 + (0 + (i : Int)), rfl, by omega, _, _, rfl, rfl, (by show (0 : Int) < 3; decide), rfl, _, rfl, ite2 (fun e => ?_) (fun e => ?_)⟩
      · have g0 := stirF_lo h 509
        obtain ⟨y, hy, hat⟩ := atI_mem (xs := (namesF h 400 5).map V.str) (i := (stirF h 509 + ((v 2).length : Int)) % 5) (Int.emod_nonneg _ (by decide)) (by rw [nl]; exact Int.emod_lt_of_pos _ (by decide))
        obtain ⟨x2, hx2, rfl⟩ := List.mem_map.mp hy
        refine ⟨.ref pn, rfl, .int h, rfl, h, 509, rfl, by decide, .ref pt, rfl, pt, _, _, _, rfl, rfl, SqT.of hpt', at_of (j := 2) rfl rfl, pc, _, rfl, .inl (SqL.of (h3 2 (by decide)).1), _, _, rfl, rfl, _, _, rfl, rfl, (by show (0 : Int) < 5; decide), pn, _, _, _, rfl, rfl, SqL.of hn', hat, ?_⟩
        exact ⟨rfl, x2, hx2, rfl⟩
      · exact ⟨rfl, x1, hx1, rfl⟩
    rintro σ' H'' ⟨rfl, x, hx, rfl⟩
    refine ⟨.int h, rfl, .int (0 + (i : Int)), rfl, .str x, rfl, h, 0 + (i : Int), x, pa :: pb :: pc :: rp :: S, rfl, by omega, (namesF_small (by decide) hx).1, sb4, fun p H3 row j t s4 hj gd r => ?_⟩
    obtain ⟨p1, xs, e1, hp1, _, ra⟩ := r.list
    cases e1
    obtain ⟨y1, xs, rfl, ry1, ra⟩ := ra.uncons
    obtain ⟨y2, xs, rfl, ry2, ra⟩ := ra.uncons
    obtain ⟨y3, xs, rfl, ry3, ra⟩ := ra.uncons
    have e1 := ra.nil_inv
    subst e1
    have e1 := ry1.str_inv
    subst e1
    have e1 := ry2.int_inv
    subst e1
    have hrw3 := s4 _ _ hrw
    refine ⟨p, _, rfl, SqL.of hp1, rfl, .str row, _, rfl, .int (j : Int), _, rfl, y3, _, rfl, rfl, ?_⟩
    refine ⟨.ref rp, rfl, .inl ⟨rfl, _, SqL.of hrw3⟩, .str row, rfl, rp, _, _, rfl, rfl, hrw3, lt5 (by omega), ?_⟩
    have hj3 : ∀ j, j < 3 → (upd H3 rp (.lst (rws ++ [.str row]))) (a3 pa pb pc j) = some (.lst (v j)) := fun j hj => by
      rw [upd_ne (nr3 j).symm]
      exact s4 _ _ (h3 j hj).1
    have hl3 : (v j).length ≤ 5 := by
      match j, hj with
      | 0, _ => omega
      | 1, _ => omega
      | 2, _ => omega
    refine ⟨.ref pt, rfl, .int (j : Int), rfl, pt, _, _, _, rfl, rfl, SqT.of (by rw [upd_ne ntr]; exact s4 _ _ hpt'), at_of (j := j) rfl (a3_at pa pb pc hj), .inl ⟨rfl, _, SqL.of (hj3 j hj)⟩, y3, rfl, a3 pa pb pc j, _, _, rfl, rfl, hj3 j hj, lt5 (by omega), ?_⟩
    have mr : rp ∈ pa :: pb :: pc :: rp :: S := by simp
    have ma := a3_mem pa pb pc (rp :: S) j
    refine ⟨rws ++ [.str row], fun i => if i = j then v j ++ [y3] else v i, fun i => if i = j then dd j ++ [t] else dd i, fun c o z => ?_, ?_, by simp [hrl], fun i' hi' => ?_, ?_, ?_, ?_, ?_, _, _, _, _, _, rfl⟩
    · rw [upd_ne (ne_of_none z (f3 j)), upd_ne (ne_of_none z hrp)]
      exact s4 _ _ (s3 _ _ z)
    · rw [upd_ne (nr3 j), upd_same]
    · by_cases c : i' = j
      · subst c
        simp only [if_true]
        refine ⟨upd_same, ((((h3 i' hi').2.1.mono s4).append (.one ry3)).updS _ mr).updS _ ma, fun z hz => ?_⟩
        rcases List.mem_append.mp hz with z' | z'
        · exact (h3 i' hi').2.2 z z'
        · rw [List.mem_singleton.mp z']
          exact ⟨x, hx, gd⟩
      · simp only [if_neg c]
        refine ⟨?_, (((h3 i' hi').2.1.mono s4).updS _ mr).updS _ ma, (h3 i' hi').2.2⟩
        rw [upd_ne fun z => c (a3_inj nab nac nbc hi' hj z)]
        exact hj3 i' hi'
    · match j, hj with
      | 0, _ => simp; omega
      | 1, _ => simp; omega
      | 2, _ => simp; omega
    · rw [upd_ne (nt3 j), upd_ne ntr]
      exact s4 _ _ hpt'
    · rw [upd_ne (nn3 j), upd_ne nrn]
      exact s4 _ _ hn'
    · exact ((sb4.same s4).upd _ _).upd _ _
  · rintro σ H' ⟨rws, v, dd, s3, hrw, hrl, h3, hsum, hpt', hn', sb4, o4, o5, o6, o7, o8, rfl⟩
    refine ⟨.ref rp, rfl, .ref pt, rfl, small5 (by simp), fun p hp => ?_⟩
    have sp := nw hp (.lst [.ref rp, .ref pt])
    have sub : ∀ c ∈ rp :: S, c ∈ pa :: pb :: pc :: rp :: S := fun c m => List.mem_cons_of_mem _ (List.mem_cons_of_mem _ (List.mem_cons_of_mem _ m))
    have out : ∀ j, a3 pa pb pc j ∉ rp :: S := fun j m => by
      rcases List.mem_cons.mp m with z | z
      · exact nr3 j z.symm
      · exact b _ z (f3 j)
    have part : ∀ j, j < 3 → R H' (rp :: S) (.ref (a3 pa pb pc j)) (.list (dd j)) := fun j hj => .mkL (h3 j hj).1 (out j) ((h3 j hj).2.1.sub sub)
    have nts : pt ∉ rp :: S := fun m => by
      rcases List.mem_cons.mp m with z | z
      · exact ntr z
      · exact b _ z ((s0.trans (sa.trans (sb.trans sc))).free hpt)
    refine q p rp pt _ rws dd (s3.trans sp) hrp (sp _ _ hrw) (by omega) upd_same (ne_of_none hrw hp).symm (fun j hj => ⟨?_, (h3 j hj).2.2⟩) ((R.mkT hpt' nts (.cons (part 0 (by decide)) (.cons (part 1 (by decide)) (.one (part 2 (by decide)))))).mono sp)
    rw [← (h3 j hj).2.1.length]
    match j, hj with
    | 0, _ => omega
    | 1, _ => omega
    | 2, _ => omega
end
end K14
/-! ## K14J -/
namespace K14
open PySem PySem.Spec PyProof.Rows L2 KR TL
/-- [e for x in ..], of each item only what is true of it -/
theorem lc_rel {J : L2.It} {n : Nat} {item : Nat → V → Prop} {Pd : PyData → Prop} {g : TG} {te : TE} {vs : List Nat} {σ : L2.St} {H1 : Hp} {D : Addr} {S : List Addr} {Qd : Hp → Prop}
    (src : Src J n item H1) (nD : H1 D = none) (b : Sb S H1) (small : n ≤ 100000)
    (hs : ∀ i x H, item i x → Same H1 H → Sb (D :: S) H → ∀ (Q : VK), (∀ y H' d, Pd d → Same H H' → R H' (D :: S) y d → Q y H') →
      g x (wipe σ vs) H fun σ2 H2 => wipe σ2 vs = wipe σ vs ∧ te σ2 H2 Q)
    (hd : ∀ H ds, ds.length = n → (∀ d ∈ ds, Pd d) → Same H1 H → R H S (.ref D) (.list ds) → Qd H)
    (mono : ∀ x H (P Q : L2.St → Hp → Prop), (∀ σ2 H2, P σ2 H2 → Q σ2 H2) → g x (wipe σ vs) H P → g x (wipe σ vs) H Q) :
    ∃ W : Nat → Nat → Hp → Prop, (∃ m, W 0 m (upd H1 D (.lst []))) ∧ ∀ i m H, W i m H →
      (J.stop i H ∧ Qd H) ∨ (J.go i H ∧ ∃ Nx : Hp → Prop, (∀ H', Nx H' → ∃ m', m' < m ∧ W (i + 1) m' H') ∧ ∀ x H', J.yld i H x H' → g x (wipe σ vs) H' fun σ2 H2 => wipe σ2 vs = wipe σ vs ∧ tYes σ2 H2 fun b H3 =>
        if b = true then te σ2 H3 fun y H4 => ∃ acc, H4 D = some (.lst acc) ∧ acc.length < sizeLine ∧ Nx (upd H4 D (.lst (acc ++ [y]))) else Nx H3) := by
  let Pv : Nat → Hp → Prop := fun i H => ∃ acc ds, H D = some (.lst acc) ∧ ds.length = i ∧ (∀ d ∈ ds, Pd d) ∧ Same H1 H ∧ RA H (D :: S) acc ds
  refine ⟨fun i m H => m = n - i ∧ i ≤ n ∧ Pv i H, ⟨n, by simp, Nat.zero_le _, [], [], upd_same, rfl, (fun _ m => nomatch m), nw nD _, .nil⟩, ?_⟩
  rintro i m H ⟨rfl, hi, acc, ds, e, hlen, hP, sm, ra⟩
  by_cases hlt : i < n
  · refine .inr ⟨src.go i H sm hlt, Pv (i + 1), fun H' p' => ⟨n - (i + 1), by omega, rfl, hlt, p'⟩, fun x H' y => ?_⟩
    obtain ⟨e0, yi⟩ := src.yld i H x H' sm hlt y
    subst e0
    have la := ra.length
    refine mono _ _ _ _ (fun σ2 H2 p => ⟨p.1, show if true = true then te σ2 H2 _ else Pv (i + 1) H2 from iteT p.2⟩) (hs i x _ yi sm ((b.same sm).cons e) _ fun y H'' d pd s r => ?_)
    refine ⟨acc, s _ _ e, Nat.lt_of_le_of_lt (m := 100000) (by omega) (by decide), acc ++ [y], ds ++ [d], upd_same, by simp [hlen], fun z hz => ?_, fun c o z => ?_, ?_⟩
    · rcases List.mem_append.mp hz with z' | z'
      · exact hP z z'
      · rw [List.mem_singleton.mp z']; exact pd
    · rw [upd_ne (ne_of_none z nD)]
      exact s _ _ (sm _ _ z)
    · exact ((ra.mono s).updS _ (List.mem_cons_self ..)).append (.one (r.updS _ (List.mem_cons_self ..)))
  · have e0 : i = n := by omega
    subst e0
    exact .inl ⟨src.stop H sm, hd H ds hlen hP sm (.mkL e (b.out nD) ra.tl)⟩
/-! ### statements -/
inductive Stm where
  | mk (w : Str) (k : Int) (fs : List PyData) (bs : List (List Stm))
def Stm.w : Stm → Str | .mk w _ _ _ => w
def Stm.k : Stm → Int | .mk _ k _ _ => k
def Stm.fs : Stm → List PyData | .mk _ _ fs _ => fs
def Stm.bs : Stm → List (List Stm) | .mk _ _ _ bs => bs
def Stm.toD : Nat → Stm → PyData
  | 0, _ => .none
  | n + 1, s => .tuple (.str s.w :: .int s.k :: (s.fs ++ s.bs.map fun b => .list (b.map (Stm.toD n))))
def deedL : List Str := ["take", "give", "put", "get", "let", "say"]
def condL : List Str := ["<", "="]
inductive Form : Stm → Prop where
  | deed {w : Str} {k : Int} {n : Str} {e : PyData} : w ∈ deedL → PyData.strOk n = true → okd 4 e → Form (.mk w k [.str n, e] [])
  | wait {k : Int} {e : PyData} : okd 4 e → Form (.mk "wait" k [e] [])
  | draw {k : Int} {v r : Str} : PyData.strOk v = true → PyData.strOk r = true → Form (.mk "draw" k [.str v, .str r] [])
  | start {k : Int} {n : Str} {es : List PyData} : PyData.strOk n = true → (∀ e ∈ es, okd 4 e) → es.length ≤ 3 → Form (.mk "start" k [.str n, .list es] [])
  | stop {k : Int} : Form (.mk "stop" k [] [])
  | iff {k : Int} {s : Str} {e1 e2 : PyData} {b1 b2 : List Stm} : s ∈ condL → okd 4 e1 → okd 4 e2 → Form (.mk "if" k [.str s, e1, e2] [b1, b2])
  | whl {k : Int} {s : Str} {e1 e2 : PyData} {b : List Stm} : s ∈ condL → okd 4 e1 → okd 4 e2 → Form (.mk "while" k [.str s, e1, e2] [b])
def Val : Nat → Stm → Prop
  | 0, _ => False
  | n + 1, s => Form s ∧ ∀ b ∈ s.bs, ∀ t ∈ b, Val n t
theorem Stm.toD_leaf {s : Stm} (h : s.bs = []) (n : Nat) : s.toD (n + 1) = s.toD 1 := by
  show PyData.tuple _ = PyData.tuple _
  rw [h]
  rfl
theorem deedL_len : ∀ x ∈ deedL, x.length ≤ 8 := by decide +kernel
theorem deedL_ok : ∀ x ∈ deedL, PyData.strOk x = true := by decide +kernel
section
variable {P : Program} {w : World} {K : PySem.W.Frag} {mg : Str → Option Value} {base : Heap}
def sp_plain : Sp := fun vs H Q _ => ∃ (c k : Int) (S : List Addr), vs = [.int c, .int k] ∧ Sb S H ∧ ∀ v H' (row : Str) (s : Stm), Same H H' → Form s → s.bs = [] → s.k = k → R H' S v (.list [.str row, s.toD 1]) → Q v H'
theorem ok_plain (d : Df K mg "_law_plain" s_plain pp_plain) (T : Tx mg) (g_stir : Ok P w K mg base 1 "_law_stir" pp_stir sp_stir) (g_name : Ok P w K mg base 1 "_law_name" pp_name sp_name)
    (g_expr : Ok P w K mg base 7 "_law_expr" pp_expr sp_expr) : Ok P w K mg base 8 "_law_plain" pp_plain sp_plain := by
  refine d.mk sc_plain (fun vs H Q E h => ?_) (fun f cdv A outer s H vs Q E hr h => ?_)
  · obtain ⟨c, k, S, rfl, _⟩ := h; rfl
  obtain ⟨c, k, S, rfl, b, q⟩ := h
  refine ⟨_, (pss_cons (ps_set (i := 2) sc_plain.nd rfl (by first | exact .inl rfl | exact .inr rfl) (pcall g_stir hr (by omega) rfl (pa_cons (pv 0) (pa_cons pe_int pa_nil))))
      (pss_cons (ps_asg (pcall g_expr hr (by omega) rfl (pa_cons (pv 0) (pa_cons pe_int pa_nil))) (pg_unlK (n := 2) K rfl rfl (pgs_cons (pg_name (i := 6) sc_plain.nd rfl (by first | exact .inl rfl | exact .inr rfl)) (pgs_cons (pg_name (i := 7) sc_plain.nd rfl (by first | exact .inl rfl | exact .inr rfl)) pgs_nil))))
      (pss_cons (ps_set (i := 3) sc_plain.nd rfl (by first | exact .inl rfl | exact .inr rfl) (pcall g_name hr (by omega) rfl (pa_cons (pe_op op_fdiv (pv 2) pe_int) pa_nil)))
      (pss_cons (ps_set (i := 4) sc_plain.nd rfl (by first | exact .inl rfl | exact .inr rfl) (pe_op op_mod (pv 2) pe_int))
      (pss_cons (ps_if (pt_cmpR op_lt (pv 4) pe_int (nomark _)) (pss_cons (ps_set (i := 8) sc_plain.nd rfl (by first | exact .inl rfl | exact .inr rfl) (pe_ix (ix_listK K rfl) (pe_lst (pa_cons pe_str (pa_cons pe_str (pa_cons pe_str (pa_cons pe_str (pa_cons pe_str pa_nil)))))) (pv 4) (fun _ _ => rfl)))
      (pss_one (ps_ret (pe_lst (pa_cons (pe_op op_add_str (pe_op op_add_str (pe_op op_add_str (pe_op op_add_str (pv 8) pe_str) (pv 3)) pe_str) (pv 6)) (pa_cons (pe_tup (pa_cons (pv 8) (pa_cons (pv 1) (pa_cons (pv 3) (pa_cons (pv 7) pa_nil))))) pa_nil)))))) pss_nil)
      (pss_cons (ps_if (pt_cmpR op_eq (pv 4) pe_int (nomark _)) (pss_one (ps_ret (pe_lst (pa_cons (pe_op op_add_str pe_str (pv 6)) (pa_cons (pe_tup (pa_cons pe_str (pa_cons (pv 1) (pa_cons (pv 7) pa_nil)))) pa_nil))))) pss_nil)
      (pss_cons (ps_if (pt_cmpR op_eq (pv 4) pe_int (nomark _)) (pss_cons (ps_set (i := 9) sc_plain.nd rfl (by first | exact .inl rfl | exact .inr rfl) (pcall g_name hr (by omega) rfl (pa_cons (pe_op op_fdiv (pv 2) pe_int) pa_nil)))
      (pss_one (ps_ret (pe_lst (pa_cons (pe_op op_add_str (pe_op op_add_str (pe_op op_add_str pe_str (pv 3)) pe_str) (pv 9)) (pa_cons (pe_tup (pa_cons pe_str (pa_cons (pv 1) (pa_cons (pv 3) (pa_cons (pv 9) pa_nil))))) pa_nil)))))) pss_nil)
      (pss_cons (ps_if (pt_cmpR op_eq (pv 4) pe_int (nomark _)) (pss_one (ps_ret (pe_lst (pa_cons (pe_op op_add_str (pe_op op_add_str (pe_op op_add_str pe_str (pv 3)) pe_str) (pv 6)) (pa_cons (pe_tup (pa_cons pe_str (pa_cons (pv 1) (pa_cons (pv 3) (pa_cons (pv 7) pa_nil))))) pa_nil))))) pss_nil)
      (pss_cons (ps_if (pt_cmpR op_eq (pv 4) pe_int (nomark _)) (pss_one (ps_ret (pe_lst (pa_cons pe_str (pa_cons (pe_tup (pa_cons pe_str (pa_cons (pv 1) pa_nil))) pa_nil))))) pss_nil)
      (pss_cons (ps_setLc (i := 5) (own := [("j", 10)]) (g := gName 10) (tt := tYes) rfl sc_plain.nd rfl rfl (sw_true rfl rfl rfl (by decide +kernel)) (pi_range1 (by rfl) T.range (pa_cons (pe_op op_mod (pe_op op_fdiv (pv 2) pe_int) pe_int) pa_nil)) (blkOk_by (own := [("j", 10)]) (N := N_plain) (sc := defScope s_plain) (by decide +kernel)) (fun _ _ _ _ _ => (pg_name (i := 10) sc_plain.nd rfl (by first | exact .inl rfl | exact .inr rfl))) (fun _ _ _ _ _ => pts_nil) (fun _ _ _ _ _ => (pcall g_expr hr (by omega) rfl (pa_cons (pv 0) (pa_cons (pe_op op_add pe_int (pe_op op_mul pe_int (pv 10))) pa_nil)))))
      (pss_one (ps_ret (pe_lst (pa_cons (pe_join pe_str (pe_op op_cat (pe_lst (pa_cons pe_str (pa_cons (pv 3) pa_nil))) (pe_lc (own := [("one", 11)]) (g := gName 11) (tt := tYes) rfl sc_plain.nd (pi_listK K rfl (pv 5)) (blkOk_by (own := [("one", 11)]) (N := N_plain) (sc := defScope s_plain) (by decide +kernel)) (fun _ _ _ _ _ => (pg_name (i := 11) sc_plain.nd rfl (by first | exact .inl rfl | exact .inr rfl))) (fun _ _ _ _ _ => pts_nil) (fun _ _ _ _ _ => (pe_ix (ix_listK K rfl) (pv 11) pe_int (fun _ _ => rfl)))))) (pa_cons (pe_tup (pa_cons pe_str (pa_cons (pv 1) (pa_cons (pv 3) (pa_cons (pe_lc (own := [("one", 11)]) (g := gName 11) (tt := tYes) rfl sc_plain.nd (pi_listK K rfl (pv 5)) (blkOk_by (own := [("one", 11)]) (N := N_plain) (sc := defScope s_plain) (by decide +kernel)) (fun _ _ _ _ _ => (pg_name (i := 11) sc_plain.nd rfl (by first | exact .inl rfl | exact .inr rfl))) (fun _ _ _ _ _ => pts_nil) (fun _ _ _ _ _ => (pe_ix (ix_listK K rfl) (pv 11) pe_int (fun _ _ => rfl)))) pa_nil))))) pa_nil))))))))))))))), ?_⟩
  refine ⟨.int c, rfl, c, 1, rfl, by decide, ?_⟩
  generalize stirF c 1 = n
  refine ⟨.int c, rfl, c, 3, S, rfl, by decide, b, fun v1 H1 wd e s1 hw he r1 => ?_⟩
  obtain ⟨p1, xs, rfl, hp1, _, ra⟩ := r1.list
  obtain ⟨y1, xs, rfl, ry1, ra⟩ := ra.uncons
  obtain ⟨vt, xs, rfl, rt, ra⟩ := ra.uncons
  have e1 := ra.nil_inv
  subst e1
  have e1 := ry1.str_inv
  subst e1
  refine ⟨p1, _, rfl, SqL.of hp1, rfl, .str wd, _, rfl, vt, _, rfl, rfl, ?_⟩
  refine ⟨.int n, rfl, _, _, rfl, rfl, ⟨by decide, by decide⟩, _, rfl, fun nm H2 hnm s2 => ?_⟩
  have s12 := s1.trans s2
  have rt2 := rt.mono s2
  have b2 := b.same s12
  have nm8 := nameL_len nm hnm
  have nmo := nameL_ok nm hnm
  have eo := Et.okd e he
  have k0 := Int.emod_nonneg n (show (11 : Int) ≠ 0 by decide)
  refine ⟨.int n, rfl, _, _, rfl, rfl, (by show (0 : Int) < 11; decide), ?_⟩
  refine ⟨.int (n % 11), rfl, _, _, rfl, rfl, _, rfl, ite2 (fun e5 => ?_) (fun _ => ?_)⟩
  · -- take give put get let
    have k5 : n % 11 < 5 := of_decide_eq_true e5
    refine ⟨small5 (by simp), fun p hp => ?_⟩
    obtain ⟨v, hv, hat⟩ := atI_mem (xs := ([("take" : Str), "give", "put", "get", "let"] : List Str).map V.str) (i := n % 11) k0 k5
    obtain ⟨dw, hdw, rfl⟩ := List.mem_map.mp hv
    have hd : dw ∈ deedL := (by decide +kernel : ∀ x ∈ ([("take" : Str), "give", "put", "get", "let"] : List Str), x ∈ deedL) dw hdw
    have d8 := deedL_len dw hd
    refine ⟨.int (n % 11), rfl, p, _, _, _, rfl, rfl, SqL.of upd_same, hat, ?_⟩
    have s3 := nw hp (.lst (([("take" : Str), "give", "put", "get", "let"] : List Str).map V.str))
    refine ⟨.str dw, rfl, _, _, rfl, rfl, small5 (by show dw.length + 1 ≤ 100000; omega), .str nm, rfl, _, _, rfl, rfl, small5 (by rw [slen]; show dw.length + 1 + nm.length ≤ 100000; omega), _, _, rfl, rfl, small5 (by rw [slen, slen]; show dw.length + 1 + nm.length + 1 ≤ 100000; omega), .str wd, rfl, _, _, rfl, rfl,
      small5 (by rw [slen, slen, slen]; show dw.length + 1 + nm.length + 1 + wd.length ≤ 100000; omega), ?_⟩
    refine ⟨.str dw, rfl, .int k, rfl, .str nm, rfl, vt, rfl, small5 (by simp), fun p2 hp2 => ⟨small5 (by simp), fun p3 hp3 => ?_⟩⟩
    have r2 := R.newT (b2.same s3) hp2 (.cons (.rstr dw) (.cons (.rint k) (.cons (.rstr nm) (.one (rt2.mono s3)))))
    exact q _ _ _ (.mk dw k [.str nm, e.toD] []) (s12.trans (s3.trans ((nw hp2 _).trans (nw hp3 _)))) (.deed hd nmo eo) rfl rfl (R.newL (b2.same (s3.trans (nw hp2 _))) hp3 (.cons (.rstr _) (.one r2)))
  refine ⟨.int (n % 11), rfl, rfl, _, rfl, ite2 (fun _ => ?_) (fun _ => ?_)⟩
  · -- wait
    refine ⟨.str wd, rfl, _, _, rfl, rfl, small5 (by show 5 + wd.length ≤ 100000; omega), .int k, rfl, vt, rfl, small5 (by simp), fun p2 hp2 => ⟨small5 (by simp), fun p3 hp3 => ?_⟩⟩
    have r2 := R.newT b2 hp2 (.cons (.rstr "wait") (.cons (.rint k) (.one rt2)))
    exact q _ _ _ (.mk "wait" k [e.toD] []) (s12.trans ((nw hp2 _).trans (nw hp3 _))) (.wait eo) rfl rfl (R.newL (b2.same (nw hp2 _)) hp3 (.cons (.rstr _) (.one r2)))
  refine ⟨.int (n % 11), rfl, rfl, _, rfl, ite2 (fun _ => ?_) (fun _ => ?_)⟩
  · -- draw
    refine ⟨.int n, rfl, _, _, rfl, rfl, ⟨by decide, by decide⟩, _, rfl, fun ot H3 hot s3 => ?_⟩
    have o8 := nameL_len ot hot
    refine ⟨.str nm, rfl, _, _, rfl, rfl, small5 (by show 5 + nm.length ≤ 100000; omega), _, _, rfl, rfl, small5 (by rw [slen]; show 5 + nm.length + 1 ≤ 100000; omega), .str ot, rfl, _, _, rfl, rfl, small5 (by rw [slen, slen]; show 5 + nm.length + 1 + ot.length ≤ 100000; omega), ?_⟩
    refine ⟨.int k, rfl, .str nm, rfl, .str ot, rfl, small5 (by simp), fun p2 hp2 => ⟨small5 (by simp), fun p3 hp3 => ?_⟩⟩
    have r2 := R.newT (b2.same s3) hp2 (.cons (.rstr "draw") (.cons (.rint k) (.cons (.rstr nm) (.one (.rstr ot)))))
    exact q _ _ _ (.mk "draw" k [.str nm, .str ot] []) (s12.trans (s3.trans ((nw hp2 _).trans (nw hp3 _)))) (.draw nmo (nameL_ok ot hot)) rfl rfl (R.newL (b2.same (s3.trans (nw hp2 _))) hp3 (.cons (.rstr _) (.one r2)))
  refine ⟨.int (n % 11), rfl, rfl, _, rfl, ite2 (fun _ => ?_) (fun _ => ?_)⟩
  · -- say
    refine ⟨.str nm, rfl, _, _, rfl, rfl, small5 (by show 4 + nm.length ≤ 100000; omega), _, _, rfl, rfl, small5 (by rw [slen]; show 4 + nm.length + 1 ≤ 100000; omega), .str wd, rfl, _, _, rfl, rfl, small5 (by rw [slen, slen]; show 4 + nm.length + 1 + wd.length ≤ 100000; omega), ?_⟩
    refine ⟨.int k, rfl, .str nm, rfl, vt, rfl, small5 (by simp), fun p2 hp2 => ⟨small5 (by simp), fun p3 hp3 => ?_⟩⟩
    have r2 := R.newT b2 hp2 (.cons (.rstr "say") (.cons (.rint k) (.cons (.rstr nm) (.one rt2))))
    exact q _ _ _ (.mk "say" k [.str nm, e.toD] []) (s12.trans ((nw hp2 _).trans (nw hp3 _))) (.deed (by decide +kernel) nmo eo) rfl rfl (R.newL (b2.same (nw hp2 _)) hp3 (.cons (.rstr _) (.one r2)))
  refine ⟨.int (n % 11), rfl, rfl, _, rfl, ite2 (fun _ => ?_) (fun _ => ?_)⟩
  · -- stop
    refine ⟨.int k, rfl, small5 (by simp), fun p2 hp2 => ⟨small5 (by simp), fun p3 hp3 => ?_⟩⟩
    have r2 := R.newT b2 hp2 (.cons (.rstr "stop") (.one (.rint k)))
    exact q _ _ _ (.mk "stop" k [] []) (s12.trans ((nw hp2 _).trans (nw hp3 _))) .stop rfl rfl (R.newL (b2.same (nw hp2 _)) hp3 (.cons (.rstr _) (.one r2)))
  · -- start
    obtain ⟨z, ez, hz⟩ : ∃ z : Nat, n / 200 % 4 = (z : Int) ∧ z ≤ 3 := ⟨(n / 200 % 4).toNat, by have := Int.emod_nonneg (n / 200) (show (4 : Int) ≠ 0 by decide); omega, by have := Int.emod_lt_of_pos (n / 200) (show (0 : Int) < 4 by decide); omega⟩
    refine ⟨.int n, rfl, _, _, rfl, rfl, ⟨by decide, by decide⟩, _, _, rfl, rfl, (by show (0 : Int) < 4; decide), (z : Int), by rw [← ez], by omega, by omega, fun D nD => ?_⟩
    refine lc_rel (S := S) (Pd := fun d => ∃ (x : Str) (e : Et), d = .list [.str x, e.toD] ∧ x.length ≤ 60 ∧ e.Ok 3) (Src.rng 0 z H2) nD b2 (by omega) (fun i x H3 hx sm sb Q2 q2 => ?_) (fun H3 ds hl hP s3 r3 => ?_) (fun _ _ _ _ h p => h _ _ p)
    · subst hx
      refine ⟨rfl, .int c, rfl, .int (0 + (i : Int)), rfl, _, _, rfl, rfl, .inl ⟨by decide, by decide⟩, _, _, rfl, rfl, c, 60 + 7 * (0 + (i : Int)), D :: S, rfl, by omega, sb, fun v H4 x e' s4 hx he' r4 => ?_⟩
      exact q2 _ _ _ ⟨x, e', rfl, hx, he'⟩ s4 r4
    obtain ⟨a3, xs3, e3, hx3, _, ra3⟩ := id r3.list
    cases e3
    have b3 := b2.same s3
    have len3 : xs3.length = z := by rw [ra3.length, hl]
    refine ⟨⟨_, rfl⟩, .str nm, rfl, small5 (by simp), fun p1 hp1 => ?_⟩
    have s4 := nw hp1 (.lst [V.str "start", V.str nm])
    have ra4 := ra3.mono s4
    have at_in : ∀ {H' : Hp}, Same (upd H3 p1 (.lst [V.str "start", V.str nm])) H' → ∀ i (x : V), xs3[i]? = some x → ∃ (a : Addr) (t : Str) (e : Et) (u : V), x = .ref a ∧ H' a = some (.lst [.str t, u]) ∧ t.length ≤ 60 ∧ e.Ok 3 ∧ R H' S u e.toD := fun {H'} sm i x hx => by
      obtain ⟨dd, hdd, rdd⟩ := ra4.getV hx
      obtain ⟨t, e', rfl, ht, he'⟩ := hP dd (List.mem_of_getElem? hdd)
      obtain ⟨a, xs, rfl, ha, _, raa⟩ := rdd.list
      obtain ⟨y1, xs, rfl, ry1, raa⟩ := raa.uncons
      obtain ⟨u, xs, rfl, ru, raa⟩ := raa.uncons
      have e1 := raa.nil_inv
      subst e1
      have e1 := ry1.str_inv
      subst e1
      exact ⟨a, t, e', u, rfl, sm _ _ ha, ht, he', ru.mono sm⟩
    refine ⟨.ref D, rfl, D, rfl, ⟨_, SqL.of (s4 _ _ hx3)⟩, fun D2 nD2 => ?_⟩
    refine lc_rel (S := S) (Pd := fun d => ∃ x : Str, d = .str x ∧ x.length ≤ 60) (Src.list (SqL.of (s4 _ _ hx3))) nD2 (b3.same s4) (by omega) (fun i x H4 hx sm sb Q2 q2 => ?_) (fun H4 ds4 hl4 hP4 s5 r5 => ?_) (fun _ _ _ _ h p => h _ _ p)
    · obtain ⟨a, t, e', u, rfl, ha, ht, he', ru⟩ := at_in sm i x hx
      exact ⟨rfl, .ref a, rfl, a, _, _, _, rfl, rfl, SqL.of ha, at_of (j := 0) rfl rfl, q2 _ _ _ ⟨t, rfl, ht⟩ (Same.refl _) (.rstr _)⟩
    obtain ⟨a5, xs5, e5, hx5, _, ra5⟩ := r5.list
    cases e5
    obtain ⟨ss, ess, hss⟩ : ∃ ss : List Str, ds4 = ss.map PyData.str ∧ ∀ x ∈ ss, x.length ≤ 60 := by
      clear ra5 r5 hl4
      induction ds4 with
      | nil => exact ⟨[], rfl, fun _ m => nomatch m⟩
      | cons d r ih =>
        obtain ⟨x, rfl, hx⟩ := hP4 d (List.mem_cons_self ..)
        obtain ⟨ss, rfl, hh⟩ := ih fun d m => hP4 d (List.mem_cons_of_mem _ m)
        refine ⟨x :: ss, rfl, fun y m => ?_⟩
        rcases List.mem_cons.mp m with c | c
        · rw [c]; exact hx
        · exact hh y c
    subst ess
    have e5 := ra5.of_strs
    subst e5
    have hsl : ss.length = z := by rw [List.length_map, len3] at hl4; exact hl4
    refine ⟨p1, D2, _, _, rfl, rfl, s5 _ _ upd_same, hx5, small5 (by rw [List.length_map]; show 2 + ss.length ≤ 100000; omega), fun p2 hp2 => ?_⟩
    have s6 := nw hp2 (.lst ([V.str "start", V.str nm] ++ ss.map V.str))
    refine ⟨_, p2, ("start" : Str) :: nm :: ss, rfl, rfl, .inl (SqL.of upd_same), ?_, ?_⟩
    · have e1 := sum_le (b := 60) (l := (("start" : Str) :: nm :: ss).map (·.length)) fun y hy => by
        obtain ⟨t, ht, rfl⟩ := List.mem_map.mp hy
        rcases List.mem_cons.mp ht with c | c
        · rw [c]; exact (by decide +kernel : ("start" : Str).length ≤ 60)
        · rcases List.mem_cons.mp c with c | c
          · rw [c]; show nm.length ≤ 60; omega
          · exact hss t c
      simp only [List.length_map, List.length_cons] at e1 ⊢
      show _ + (ss.length + 1 + 1) * 1 ≤ _
      simp only [List.map_cons, List.sum_cons] at e1 ⊢
      omega
    have s56 := s5.trans s6
    refine ⟨.int k, rfl, .str nm, rfl, .ref D, rfl, D, rfl, ⟨_, SqL.of (s56 _ _ (s4 _ _ hx3))⟩, fun D3 nD3 => ?_⟩
    refine lc_rel (S := S) (Pd := fun d => ∃ e : Et, d = e.toD ∧ e.Ok 3) (Src.list (SqL.of (s56 _ _ (s4 _ _ hx3)))) nD3 ((b3.same s4).same s56) (by omega) (fun i x H6 hx sm sb Q2 q2 => ?_) (fun H6 ds6 hl6 hP6 s7 r7 => ?_) (fun _ _ _ _ h p => h _ _ p)
    · obtain ⟨a, t, e', u, rfl, ha, ht, he', ru⟩ := at_in s56 i x hx
      exact ⟨rfl, .ref a, rfl, a, _, _, _, rfl, rfl, SqL.of (sm _ _ ha), at_of (j := 1) rfl rfl, q2 _ _ _ ⟨e', rfl, he'⟩ (Same.refl _) (ru.hide nD3 sm)⟩
    have s67 := ((s3.trans s4).trans s56).trans s7
    have hl6' : ds6.length ≤ 3 := by rw [hl6, len3]; exact hz
    refine ⟨small5 (by simp), fun p4 hp4 => ⟨small5 (by simp), fun p5 hp5 => ?_⟩⟩
    have r8 := R.newT (b2.same s67) hp4 (.cons (.rstr "start") (.cons (.rint k) (.cons (.rstr nm) (.one r7))))
    refine q _ _ _ (.mk "start" k [.str nm, .list ds6] []) (s12.trans (s67.trans ((nw hp4 _).trans (nw hp5 _)))) (.start nmo (fun x hx => ?_) hl6') rfl rfl (R.newL (b2.same (s67.trans (nw hp4 _))) hp5 (.cons (.rstr _) (.one r8)))
    obtain ⟨e', rfl, he'⟩ := hP6 x hx
    exact Et.okd e' he'
def sp_opener : Sp := fun vs H Q _ => ∃ (c k : Int) (S : List Addr), vs = [.int c, .int k] ∧ Sb S H ∧
  ∀ (p t : Addr) H' (row w sg : Str) (v1 v2 : V) (e1 e2 : Et) (qs : List Addr), Same H H' → H' p = some (.lst [.str row, .ref t]) → H' t = some (.tup (.str w :: .int k :: .str sg :: v1 :: v2 :: qs.map V.ref)) →
    ((w = "while" ∧ ∃ q1, qs = [q1]) ∨ (w = "if" ∧ ∃ q1 q2, qs = [q1, q2])) → qs.Nodup → (∀ q ∈ qs, H q = none ∧ H' q = some (.lst [])) → sg ∈ condL → e1.Ok 3 → e2.Ok 3 →
    R H' (qs ++ S) v1 e1.toD → R H' (qs ++ S) v2 e2.toD → H t = none → t ∉ qs → Q (.ref p) H'
theorem ok_opener (d : Df K mg "_law_opener" s_opener pp_opener) (g_stir : Ok P w K mg base 1 "_law_stir" pp_stir sp_stir) (g_expr : Ok P w K mg base 7 "_law_expr" pp_expr sp_expr) :
    Ok P w K mg base 8 "_law_opener" pp_opener sp_opener := by
  refine d.mk sc_opener (fun vs H Q E h => ?_) (fun f cdv A outer s H vs Q E hr h => ?_)
  · obtain ⟨c, k, S, rfl, _⟩ := h; rfl
  obtain ⟨c, k, S, rfl, b, q⟩ := h
  refine ⟨_, (pss_cons (ps_set (i := 2) sc_opener.nd rfl (by first | exact .inl rfl | exact .inr rfl) (pcall g_expr hr (by omega) rfl (pa_cons (pv 0) (pa_cons pe_int pa_nil))))
      (pss_cons (ps_set (i := 3) sc_opener.nd rfl (by first | exact .inl rfl | exact .inr rfl) (pcall g_expr hr (by omega) rfl (pa_cons (pv 0) (pa_cons pe_int pa_nil))))
      (pss_cons (ps_set (i := 4) sc_opener.nd rfl (by first | exact .inl rfl | exact .inr rfl) (pe_ix ix_str pe_str (pe_op op_mod (pcall g_stir hr (by omega) rfl (pa_cons (pv 0) (pa_cons pe_int pa_nil))) pe_int) (fun _ _ => rfl)))
      (pss_cons (ps_if (pt_cmpR op_eq (pe_op op_mod (pe_op op_fdiv (pcall g_stir hr (by omega) rfl (pa_cons (pv 0) (pa_cons pe_int pa_nil))) pe_int) pe_int) pe_int (nomark _)) (pss_one (ps_ret (pe_lst (pa_cons (pe_op op_add_str (pe_op op_add_str (pe_op op_add_str (pe_op op_add_str (pe_op op_add_str pe_str (pe_ix (ix_listK K rfl) (pv 2) pe_int (fun _ _ => rfl))) pe_str) (pv 4)) pe_str) (pe_ix (ix_listK K rfl) (pv 3) pe_int (fun _ _ => rfl))) (pa_cons (pe_tup (pa_cons pe_str (pa_cons (pv 1) (pa_cons (pv 4) (pa_cons (pe_ix (ix_listK K rfl) (pv 2) pe_int (fun _ _ => rfl)) (pa_cons (pe_ix (ix_listK K rfl) (pv 3) pe_int (fun _ _ => rfl)) (pa_cons (pe_lst pa_nil) pa_nil))))))) pa_nil))))) pss_nil)
      (pss_one (ps_ret (pe_lst (pa_cons (pe_op op_add_str (pe_op op_add_str (pe_op op_add_str (pe_op op_add_str (pe_op op_add_str pe_str (pe_ix (ix_listK K rfl) (pv 2) pe_int (fun _ _ => rfl))) pe_str) (pv 4)) pe_str) (pe_ix (ix_listK K rfl) (pv 3) pe_int (fun _ _ => rfl))) (pa_cons (pe_tup (pa_cons pe_str (pa_cons (pv 1) (pa_cons (pv 4) (pa_cons (pe_ix (ix_listK K rfl) (pv 2) pe_int (fun _ _ => rfl)) (pa_cons (pe_ix (ix_listK K rfl) (pv 3) pe_int (fun _ _ => rfl)) (pa_cons (pe_lst pa_nil) (pa_cons (pe_lst pa_nil) pa_nil)))))))) pa_nil))))))))), ?_⟩
  refine ⟨.int c, rfl, c, 3, S, rfl, by decide, b, fun z1 H1 x1 e1 s1 hx1 he1 r1 => ?_⟩
  refine ⟨.int c, rfl, c, 30, S, rfl, by decide, b.same s1, fun z2 H2 x2 e2 s2 hx2 he2 r2 => ?_⟩
  obtain ⟨a1, xs, rfl, ha1, _, ra⟩ := r1.list
  obtain ⟨y1, xs, rfl, ry1, ra⟩ := ra.uncons
  obtain ⟨v1, xs, rfl, rv1, ra⟩ := ra.uncons
  have z := ra.nil_inv
  subst z
  have z := ry1.str_inv
  subst z
  obtain ⟨a2, xs, rfl, ha2, _, ra⟩ := r2.list
  obtain ⟨y2, xs, rfl, ry2, ra⟩ := ra.uncons
  obtain ⟨v2, xs, rfl, rv2, ra⟩ := ra.uncons
  have z := ra.nil_inv
  subst z
  have z := ry2.str_inv
  subst z
  have ha1' := s2 _ _ ha1
  have rv1' := rv1.mono s2
  have s12 := s1.trans s2
  obtain ⟨ch, hc, hat⟩ := atI_mem (xs := ("<=" : Str).cps.toList) (i := stirF c 2 % 2) (Int.emod_nonneg _ (by decide)) (Int.emod_lt_of_pos _ (by decide))
  have hsg : (⟨#[ch]⟩ : Str) ∈ condL := (by decide +kernel : ∀ c ∈ ("<=" : Str).cps.toList, (⟨#[c]⟩ : Str) ∈ condL) ch hc
  refine ⟨.int c, rfl, c, 2, rfl, by decide, _, _, rfl, rfl, (by show (0 : Int) < 2; decide), _, _, ch, rfl, rfl, small5 (by decide +kernel), hat, ?_⟩
  refine ⟨.int c, rfl, c, 2, rfl, by decide, _, _, rfl, rfl, ⟨by decide, by decide⟩, _, _, rfl, rfl, (by show (0 : Int) < 2; decide), rfl, _, rfl, ite2 (fun _ => ?_) (fun _ => ?_)⟩
  · -- while
    refine ⟨.ref a1, rfl, a1, _, _, _, rfl, rfl, SqL.of ha1', at_of (j := 0) rfl rfl, _, _, rfl, rfl, small5 (by show 6 + x1.length ≤ 100000; omega), _, _, rfl, rfl, small5 (by rw [slen]; show 6 + x1.length + 1 ≤ 100000; omega), .str ⟨#[ch]⟩, rfl, _, _, rfl, rfl, small5 (by rw [slen, slen]; show 6 + x1.length + 1 + 1 ≤ 100000; omega),
      _, _, rfl, rfl, small5 (by rw [slen, slen, slen]; show 6 + x1.length + 1 + 1 + 1 ≤ 100000; omega), .ref a2, rfl, a2, _, _, _, rfl, rfl, SqL.of ha2, at_of (j := 0) rfl rfl, _, _, rfl, rfl, small5 (by rw [slen, slen, slen, slen]; show 6 + x1.length + 1 + 1 + 1 + x2.length ≤ 100000; omega), ?_⟩
    refine ⟨.int k, rfl, .str ⟨#[ch]⟩, rfl, .ref a1, rfl, a1, _, _, _, rfl, rfl, SqL.of ha1', at_of (j := 1) rfl rfl, .ref a2, rfl, a2, _, _, _, rfl, rfl, SqL.of ha2, at_of (j := 1) rfl rfl, Nat.zero_le _, fun q1 hq1 => ⟨small5 (by simp), fun t ht => ⟨small5 (by simp), fun p hp => ?_⟩⟩⟩
    have sq := nw hq1 (.lst [])
    have st := nw ht (.tup [.str "while", .int k, .str ⟨#[ch]⟩, v1, v2, .ref q1])
    have sp := nw hp (.lst [.str (("while " : Str) ++ x1 ++ (" " : Str) ++ ⟨#[ch]⟩ ++ (" " : Str) ++ x2), .ref t])
    have n1 : t ≠ q1 := (ne_of_none upd_same ht).symm
    refine q p t _ _ "while" ⟨#[ch]⟩ v1 v2 e1 e2 [q1] (s12.trans (sq.trans (st.trans sp))) upd_same (sp _ _ upd_same) (.inl ⟨rfl, q1, rfl⟩) (by simp) (fun x hx => ?_) hsg he1 he2
      (rv1'.hide hq1 (sq.trans (st.trans sp))) (rv2.hide hq1 (sq.trans (st.trans sp))) ((s12.trans sq).free ht) (by simpa using n1)
    rw [List.mem_singleton.mp hx]
    exact ⟨s12.free hq1, (st.trans sp) _ _ upd_same⟩
  · -- if
    refine ⟨.ref a1, rfl, a1, _, _, _, rfl, rfl, SqL.of ha1', at_of (j := 0) rfl rfl, _, _, rfl, rfl, small5 (by show 3 + x1.length ≤ 100000; omega), _, _, rfl, rfl, small5 (by rw [slen]; show 3 + x1.length + 1 ≤ 100000; omega), .str ⟨#[ch]⟩, rfl, _, _, rfl, rfl, small5 (by rw [slen, slen]; show 3 + x1.length + 1 + 1 ≤ 100000; omega),
      _, _, rfl, rfl, small5 (by rw [slen, slen, slen]; show 3 + x1.length + 1 + 1 + 1 ≤ 100000; omega), .ref a2, rfl, a2, _, _, _, rfl, rfl, SqL.of ha2, at_of (j := 0) rfl rfl, _, _, rfl, rfl, small5 (by rw [slen, slen, slen, slen]; show 3 + x1.length + 1 + 1 + 1 + x2.length ≤ 100000; omega), ?_⟩
    refine ⟨.int k, rfl, .str ⟨#[ch]⟩, rfl, .ref a1, rfl, a1, _, _, _, rfl, rfl, SqL.of ha1', at_of (j := 1) rfl rfl, .ref a2, rfl, a2, _, _, _, rfl, rfl, SqL.of ha2, at_of (j := 1) rfl rfl, Nat.zero_le _, fun q1 hq1 => ⟨Nat.zero_le _, fun q2 hq2 => ⟨small5 (by simp), fun t ht => ⟨small5 (by simp), fun p hp => ?_⟩⟩⟩⟩
    have sq := nw hq1 (.lst [])
    have sq2 := nw hq2 (.lst [])
    have st := nw ht (.tup [.str "if", .int k, .str ⟨#[ch]⟩, v1, v2, .ref q1, .ref q2])
    have sp := nw hp (.lst [.str (("if " : Str) ++ x1 ++ (" " : Str) ++ ⟨#[ch]⟩ ++ (" " : Str) ++ x2), .ref t])
    have n12 : q1 ≠ q2 := ne_of_none upd_same hq2
    have n1 : t ≠ q1 := (ne_of_none (sq2 _ _ upd_same) ht).symm
    have n2 : t ≠ q2 := (ne_of_none upd_same ht).symm
    have hid2 : ∀ {v : V} {d : PyData}, R H2 S v d → R _ ([q1, q2] ++ S) v d := fun {v d} r =>
      ((r.hide (sq.free hq2) (Same.refl H2)).hide hq1 (sq.trans (sq2.trans (st.trans sp))))
    refine q p t _ _ "if" ⟨#[ch]⟩ v1 v2 e1 e2 [q1, q2] (s12.trans (sq.trans (sq2.trans (st.trans sp)))) upd_same (sp _ _ upd_same) (.inr ⟨rfl, q1, q2, rfl⟩) (by simpa using n12) (fun x hx => ?_) hsg he1 he2
      (hid2 rv1') (hid2 rv2) ((s12.trans (sq.trans sq2)).free ht) (by simpa using ⟨n1, n2⟩)
    rcases List.mem_cons.mp hx with z | z
    · rw [z]
      exact ⟨s12.free hq1, (sq2.trans (st.trans sp)) _ _ upd_same⟩
    · rw [List.mem_singleton.mp z]
      exact ⟨(s12.trans sq).free hq2, (st.trans sp) _ _ upd_same⟩
end
end K14
/-! ## K14L -/
namespace K14
open PySem PySem.Spec PyProof.Rows L2 KR TL
/-! ### the statements of a body and of all within it, in the text's order -/
def fl : Nat → List Stm → List Stm
  | 0, _ => []
  | n + 1, b => b.flatMap fun s => s :: s.bs.flatMap (fl n)
def ksB (n : Nat) (b : List Stm) : List Int := (fl n b).map Stm.k
theorem fl_append (n : Nat) (b c : List Stm) : fl n (b ++ c) = fl n b ++ fl n c := by
  cases n with
  | zero => rfl
  | succ n => exact List.flatMap_append
theorem ksB_append (n : Nat) (b c : List Stm) : ksB n (b ++ c) = ksB n b ++ ksB n c := by
  unfold ksB
  rw [fl_append, List.map_append]
theorem ksB_one (n : Nat) (s : Stm) : ksB (n + 1) [s] = s.k :: s.bs.flatMap (ksB n) := by
  show (List.map Stm.k ([s].flatMap fun s => s :: s.bs.flatMap (fl n))) = _
  simp only [List.flatMap_cons, List.flatMap_nil, List.append_nil, List.map_cons, List.map_flatMap]
  rfl
theorem ksB_leaf (n : Nat) {s : Stm} (h : s.bs = []) : ksB (n + 1) [s] = [s.k] := by rw [ksB_one, h]; rfl
theorem ksB_nil (n : Nat) : ksB n [] = [] := by
  cases n <;> rfl
/-! ### the bodies that are open -/
inductive Up where
  | hand
  | st (t : Addr) (sw : Str) (k : Int) (fs : List PyData) (pre : List (List Stm))
structure Fr where
  w : Str
  en : Addr
  p : Addr
  post : List Addr
  sts : List Stm
  up : Up
def Fr.mu (F : Fr) : List Addr := F.p :: F.post
def muA (fr : List Fr) : List Addr := fr.flatMap Fr.mu
inductive Kind : Str → Str → Nat → Nat → Prop where
  | whl : Kind "while" "while" 0 0
  | iff : Kind "if" "if" 0 1
  | els : Kind "else" "if" 1 0
def FormH (fs : List PyData) : Prop := ∃ (sg : Str) (e1 e2 : PyData), fs = [.str sg, e1, e2] ∧ sg ∈ condL ∧ okd 4 e1 ∧ okd 4 e2
structure Bo (G H : Hp) (lv : Nat) (ch : List V) (F : Fr) : Prop where
  body : ∃ vals, H F.p = some (.lst (vals ++ ch)) ∧ RpA G vals (F.sts.map (Stm.toD lv))
  val : ∀ s ∈ F.sts, Val lv s
  en : G F.en = some (.lst (.str F.w :: .ref F.p :: F.post.map V.ref))
  post : ∀ q ∈ F.post, H q = some (.lst [])
inductive ZS (G H : Hp) (t0 : Addr) (x0 : Str) (ps0 : List Str) : Nat → List V → List Fr → Prop where
  | hand {ch : List V} {F : Fr} {nv : V} : Bo G H 6 ch F → F.w = "hand" → F.post = [] → F.up = .hand → G t0 = some (.tup [.str x0, nv, .ref F.p]) → Rp G nv (.list (ps0.map PyData.str)) → ZS G H t0 x0 ps0 6 ch [F]
  | st {lv : Nat} {ch : List V} {F : Fr} {rest : List Fr} {t : Addr} {sw : Str} {k : Int} {fs : List PyData} {pre : List (List Stm)} {fvs pvs : List V} : Bo G H lv ch F → F.up = .st t sw k fs pre → Kind F.w sw pre.length F.post.length →
      G t = some (.tup (.str sw :: .int k :: (fvs ++ pvs ++ [.ref F.p] ++ F.post.map V.ref))) → RpA G fvs fs → RpA G pvs (pre.map fun b => .list (b.map (Stm.toD lv))) → FormH fs → (∀ b ∈ pre, ∀ s ∈ b, Val lv s) →
      ZS G H t0 x0 ps0 (lv + 1) [.ref t] rest → ZS G H t0 x0 ps0 lv ch (F :: rest)
section
variable {G G' H H' : Hp} {t0 : Addr} {x0 : Str} {ps0 : List Str} {lv : Nat} {ch : List V} {F : Fr} {fr rest : List Fr}
theorem Bo.mono (s : Same G G') (h : ∀ a ∈ F.mu, ∀ o, H a = some o → H' a = some o) (b : Bo G H lv ch F) : Bo G' H' lv ch F := by
  obtain ⟨vals, e, r⟩ := b.body
  exact ⟨⟨vals, h _ (List.mem_cons_self ..) _ e, RpA.mono s _ _ r⟩, b.val, s _ _ b.en, fun q m => h q (List.mem_cons_of_mem _ m) _ (b.post q m)⟩
theorem ZS.mono (s : Same G G') (z : ZS G H t0 x0 ps0 lv ch fr) (h : ∀ a ∈ muA fr, ∀ o, H a = some o → H' a = some o) : ZS G' H' t0 x0 ps0 lv ch fr := by
  induction z with
  | hand b h1 h2 h3 h4 h5 => exact .hand (b.mono s fun a m => h a (by unfold muA; simpa using m)) h1 h2 h3 (s _ _ h4) (Rp.mono s _ _ h5)
  | st b h1 h2 h3 h4 h5 h6 h7 _ ih =>
    exact .st (b.mono s fun a m => h a (List.mem_append_left _ m)) h1 h2 (s _ _ h3) (RpA.mono s _ _ h4) (RpA.mono s _ _ h5) h6 h7 (ih fun a m => h a (List.mem_append_right _ m))
theorem ZS.len (z : ZS G H t0 x0 ps0 lv ch fr) : lv + fr.length = 7 := by
  induction z with
  | hand => rfl
  | st _ _ _ _ _ _ _ _ _ ih => simp only [List.length_cons]; omega
theorem ZS.bo (z : ZS G H t0 x0 ps0 lv ch (F :: rest)) : Bo G H lv ch F := by
  cases z with
  | hand b => exact b
  | st b => exact b
/-- one more value at the end of the innermost body -/
theorem ZS.app {vals : List V} (z : ZS G H t0 x0 ps0 lv [] (F :: rest)) (e : H F.p = some (.lst vals)) (n : (muA (F :: rest)).Nodup) (v : V) : ZS G (upd H F.p (.lst (vals ++ [v]))) t0 x0 ps0 lv [v] (F :: rest) := by
  have nd : ∀ a ∈ F.post ++ muA rest, a ≠ F.p := fun a m z => by
    have q := (List.nodup_cons.mp (show (F.p :: (F.post ++ muA rest)).Nodup from n)).1
    rw [z] at m
    exact q m
  have bo : Bo G (upd H F.p (.lst (vals ++ [v]))) lv [v] F := by
    have b := z.bo
    obtain ⟨vals', e', r⟩ := b.body
    rw [e] at e'
    have e2 : vals = vals' := by simpa using e'
    subst e2
    exact ⟨⟨vals, upd_same, r⟩, b.val, b.en, fun q m => by rw [upd_ne (nd q (List.mem_append_left _ m))]; exact b.post q m⟩
  cases z with
  | hand b h1 h2 h3 h4 h5 => exact .hand bo h1 h2 h3 h4 h5
  | st b h1 h2 h3 h4 h5 h6 h7 zr =>
    exact .st bo h1 h2 h3 h4 h5 h6 h7 (zr.mono (fun _ _ h => h) fun a m o h => by rw [upd_ne (nd a (List.mem_append_right _ m))]; exact h)
/-- the value at the end is a whole statement -/
theorem ZS.take {v : V} {s : Stm} (z : ZS G H t0 x0 ps0 lv [v] (F :: rest)) (r : Rp G v (s.toD lv)) (hv : Val lv s) : ZS G H t0 x0 ps0 lv [] ({ F with sts := F.sts ++ [s] } :: rest) := by
  have bo : Bo G H lv [] { F with sts := F.sts ++ [s] } := by
    have b := z.bo
    obtain ⟨vals, e, ra⟩ := b.body
    refine ⟨⟨vals ++ [v], by rw [List.append_nil]; exact e, ?_⟩, fun t m => ?_, b.en, b.post⟩
    · show RpA G (vals ++ [v]) ((F.sts ++ [s]).map (Stm.toD lv))
      rw [List.map_append]
      exact ra.append (.one r)
    · rcases List.mem_append.mp m with m | m
      · exact b.val t m
      · rw [List.mem_singleton.mp m]; exact hv
  cases z with
  | hand b h1 h2 h3 h4 h5 => exact .hand bo h1 h2 h3 h4 h5
  | st b h1 h2 h3 h4 h5 h6 h7 zr => exact .st bo h1 h2 h3 h4 h5 h6 h7 zr
/-- the statement that an open body belongs to, ended here -/
def Fr.stm (F : Fr) (chs : List Stm) : Stm := match F.up with
  | .hand => .mk "" 0 [] []
  | .st _ sw k fs pre => .mk sw k fs (pre ++ [F.sts ++ chs] ++ F.post.map fun _ => [])
theorem form_of {w sw : Str} {k : Int} {fs : List PyData} {pre : List (List Stm)} {b : List Stm} {post : List Addr} (kd : Kind w sw pre.length post.length) (f : FormH fs) : Form (.mk sw k fs (pre ++ [b] ++ post.map fun _ => [])) := by
  obtain ⟨sg, e1, e2, rfl, h1, h2, h3⟩ := f
  revert kd
  generalize hn : pre.length = n
  generalize hm : post.length = m
  intro kd
  cases kd with
  | whl =>
    have a1 := List.length_eq_zero_iff.mp hn
    have a2 := List.length_eq_zero_iff.mp hm
    subst a1
    subst a2
    exact .whl h1 h2 h3
  | iff =>
    have a1 := List.length_eq_zero_iff.mp hn
    obtain ⟨q, a2⟩ := List.length_eq_one_iff.mp hm
    subst a1
    subst a2
    exact .iff h1 h2 h3
  | els =>
    obtain ⟨q, a1⟩ := List.length_eq_one_iff.mp hn
    have a2 := List.length_eq_zero_iff.mp hm
    subst a1
    subst a2
    exact .iff h1 h2 h3
/-- ended, it is data (in a heap where its bodies may be read) -/
theorem stm_data {t : Addr} {sw : Str} {k : Int} {fs : List PyData} {pre : List (List Stm)} {fvs pvs : List V} {chs : List Stm} (b : Bo G H lv ch F) (hu : F.up = .st t sw k fs pre) (kd : Kind F.w sw pre.length F.post.length)
    (h3 : G t = some (.tup (.str sw :: .int k :: (fvs ++ pvs ++ [.ref F.p] ++ F.post.map V.ref)))) (h4 : RpA G fvs fs) (h5 : RpA G pvs (pre.map fun b => .list (b.map (Stm.toD lv)))) (h6 : FormH fs) (h7 : ∀ b ∈ pre, ∀ s ∈ b, Val lv s)
    (s : Same G G') (hm : ∀ a ∈ F.mu, ∀ o, H a = some o → G' a = some o) (rc : RpA G' ch (chs.map (Stm.toD lv))) (vc : ∀ s ∈ chs, Val lv s) : Rp G' (.ref t) ((F.stm chs).toD (lv + 1)) ∧ Val (lv + 1) (F.stm chs) ∧ (F.stm chs).k = k := by
  have es : F.stm chs = .mk sw k fs (pre ++ [F.sts ++ chs] ++ F.post.map fun _ => []) := by unfold Fr.stm; rw [hu]
  rw [es]
  refine ⟨?_, ⟨form_of kd h6, fun b' m t' m' => ?_⟩, rfl⟩
  · obtain ⟨vals, e, ra⟩ := b.body
    have e' := hm _ (List.mem_cons_self ..) _ e
    have rb : Rp G' (.ref F.p) (.list ((F.sts ++ chs).map (Stm.toD lv))) := .lst e' (by rw [List.map_append]; exact (RpA.mono s _ _ ra).append rc)
    have rp : RpA G' (F.post.map V.ref) ((F.post.map fun _ => ([] : List Stm)).map fun b => .list (b.map (Stm.toD lv))) := by
      have : ∀ l : List Addr, (∀ q ∈ l, G' q = some (.lst [])) → RpA G' (l.map V.ref) ((l.map fun _ => ([] : List Stm)).map fun b => .list (b.map (Stm.toD lv))) := by
        intro l
        induction l with
        | nil => exact fun _ => .nil
        | cons q r ih => exact fun h => .cons (.lst (h q (List.mem_cons_self ..)) .nil) (ih fun q m => h q (List.mem_cons_of_mem _ m))
      exact this F.post fun q m => hm q (List.mem_cons_of_mem _ m) _ (b.post q m)
    refine .tup (s _ _ h3) (.cons (.str _) (.cons (.int _) ?_))
    show RpA G' (fvs ++ pvs ++ [.ref F.p] ++ F.post.map V.ref) (fs ++ (pre ++ [F.sts ++ chs] ++ F.post.map fun _ => []).map fun (b : List Stm) => PyData.list (b.map (Stm.toD lv)))
    rw [List.map_append, List.map_append, List.append_assoc, List.append_assoc]
    refine (RpA.mono s _ _ h4).append ?_
    rw [← List.append_assoc]
    exact ((RpA.mono s _ _ h5).append (.one rb)).append rp
  · have m : b' ∈ pre ++ [F.sts ++ chs] ++ F.post.map fun _ => [] := m
    rcases List.mem_append.mp m with m | m
    · rcases List.mem_append.mp m with m | m
      · exact h7 b' m t' m'
      · rw [List.mem_singleton.mp m] at m'
        rcases List.mem_append.mp m' with m' | m'
        · exact b.val t' m'
        · exact vc t' m'
    · obtain ⟨_, _, rfl⟩ := List.mem_map.mp m
      exact nomatch m'
/-! ### all ended -/
def closeZ : List Fr → List Stm → List Stm
  | [], chs => chs
  | F :: rest, chs => match F.up with
    | .hand => F.sts ++ chs
    | .st _ _ _ _ _ => closeZ rest [F.stm chs]
theorem ZS.close (z : ZS G H t0 x0 ps0 lv ch fr) : ∀ chs : List Stm, Same G G' → (∀ a ∈ muA fr, ∀ o, H a = some o → G' a = some o) → RpA G' ch (chs.map (Stm.toD lv)) → (∀ s ∈ chs, Val lv s) →
    Rp G' (.ref t0) (.tuple [.str x0, .list (ps0.map PyData.str), .list ((closeZ fr chs).map (Stm.toD 6))]) ∧ ∀ s ∈ closeZ fr chs, Val 6 s := by
  induction z with
  | hand b h1 h2 h3 h4 h5 =>
    rename_i ch F nv
    intro chs s hm rc vc
    obtain ⟨vals, e, ra⟩ := b.body
    have e' := hm F.p (by unfold muA Fr.mu; simp) _ e
    have ec : closeZ [F] chs = F.sts ++ chs := by unfold closeZ; rw [h3]
    rw [ec]
    refine ⟨.tup (s _ _ h4) (.cons (.str _) (.cons (Rp.mono s _ _ h5) (.cons (.lst e' (by rw [List.map_append]; exact (RpA.mono s _ _ ra).append rc)) .nil))), fun t m => ?_⟩
    rcases List.mem_append.mp m with m | m
    · exact b.val t m
    · exact vc t m
  | st b h1 h2 h3 h4 h5 h6 h7 zr ih =>
    rename_i lv ch F rest t sw k fs pre fvs pvs
    intro chs s hm rc vc
    obtain ⟨d1, d2, _⟩ := stm_data b h1 h2 h3 h4 h5 h6 h7 s (fun a m => hm a (List.mem_append_left _ m)) rc vc
    have ec : closeZ (F :: rest) chs = closeZ rest [F.stm chs] := by
      show (match F.up with | .hand => _ | .st _ _ _ _ _ => _) = _
      rw [h1]
    rw [ec]
    exact ih [F.stm chs] s (fun a m => hm a (List.mem_append_right _ m)) (.one d1) fun t m => by rw [List.mem_singleton.mp m]; exact d2
/-! ### the rows' numbers -/
def ksF (lv : Nat) (F : Fr) : List Int := (match F.up with | .hand => [] | .st _ _ k _ pre => k :: pre.flatMap (ksB lv)) ++ ksB lv F.sts
def ksZ : Nat → List Fr → List Int
  | _, [] => []
  | lv, F :: rest => ksZ (lv + 1) rest ++ ksF lv F
theorem ks_stm {t : Addr} {sw : Str} {k : Int} {fs : List PyData} {pre : List (List Stm)} (hu : F.up = .st t sw k fs pre) (lv : Nat) (chs : List Stm) : ksB (lv + 1) [F.stm chs] = ksF lv F ++ ksB lv chs := by
  have es : F.stm chs = .mk sw k fs (pre ++ [F.sts ++ chs] ++ F.post.map fun _ => []) := by unfold Fr.stm; rw [hu]
  have z : ∀ l : List Addr, (l.map fun _ => ([] : List Stm)).flatMap (ksB lv) = [] := by
    intro l
    induction l with
    | nil => rfl
    | cons a r ih => rw [List.map_cons, List.flatMap_cons, ksB_nil, ih]; rfl
  rw [es, ksB_one]
  unfold ksF
  rw [hu]
  show k :: (pre ++ [F.sts ++ chs] ++ F.post.map fun _ => []).flatMap (ksB lv) = _
  rw [List.flatMap_append, List.flatMap_append, z, List.append_nil, List.flatMap_cons, List.flatMap_nil, List.append_nil, ksB_append]
  simp only [List.cons_append, List.append_assoc]
theorem ks_add {s : Stm} (lv : Nat) (rest : List Fr) : ksZ lv ({ F with sts := F.sts ++ [s] } :: rest) = ksZ lv (F :: rest) ++ ksB lv [s] := by
  show ksZ (lv + 1) rest ++ (_ ++ ksB lv (F.sts ++ [s])) = ksZ (lv + 1) rest ++ (_ ++ ksB lv F.sts) ++ _
  rw [ksB_append]
  simp only [List.append_assoc]
/-- ending all changes no number -/
theorem ZS.ks (z : ZS G H t0 x0 ps0 lv ch fr) : ∀ chs : List Stm, ksB 6 (closeZ fr chs) = ksZ lv fr ++ ksB lv chs := by
  induction z with
  | hand b h1 h2 h3 h4 h5 =>
    rename_i ch F nv
    intro chs
    have ec : closeZ [F] chs = F.sts ++ chs := by unfold closeZ; rw [h3]
    rw [ec, ksB_append]
    show _ = [] ++ ksF 6 F ++ _
    unfold ksF
    rw [h3]
    rfl
  | st b h1 h2 h3 h4 h5 h6 h7 zr ih =>
    rename_i lv ch F rest t sw k fs pre fvs pvs
    intro chs
    have ec : closeZ (F :: rest) chs = closeZ rest [F.stm chs] := by
      show (match F.up with | .hand => _ | .st _ _ _ _ _ => _) = _
      rw [h1]
    rw [ec, ih, ks_stm h1]
    show _ = ksZ (lv + 1) rest ++ ksF lv F ++ _
    rw [List.append_assoc]
end
end K14
/-! ## K14M -/
namespace K14
open PySem PySem.Spec PyProof.Rows L2 KR TL
/-! ### tests that leave the heap as it is -/
def TstX (c : TT) (σ : L2.St) (H : Hp) (b : Bool) : Prop := ∀ Q : Bool → Hp → Prop, Q b H → c σ H Q
theorem if_x {c : TT} {t u : TS} {D : Ends} {σ : L2.St} {H : Hp} {b : Bool} (hc : TstX c σ H b) (ht : b = true → t D σ H) (hu : b = false → u D σ H) : tIfS c t u D σ H :=
  hc _ (by cases b with
    | true => exact iteT (ht rfl)
    | false => exact iteF (hu rfl))
theorem tx_or {t u : TT} {σ : L2.St} {H : Hp} {b1 b2 : Bool} (h1 : TstX t σ H b1) (h2 : TstX u σ H b2) : TstX (tOr t u) σ H (b1 || b2) := fun Q q =>
  h1 _ (by cases b1 with
    | true => exact iteT q
    | false => exact iteF (h2 Q q))
theorem tx_and {t u : TT} {σ : L2.St} {H : Hp} {b1 b2 : Bool} (h1 : TstX t σ H b1) (h2 : TstX u σ H b2) : TstX (tAnd t u) σ H (b1 && b2) := fun Q q =>
  h1 _ (by cases b1 with
    | true => exact iteT (h2 Q q)
    | false => exact iteF q)
theorem g_name {i : Nat} {v : V} {σ : L2.St} {H : Hp} {nx : L2.St → Hp → Prop} (h : nx (σ.set i (some v)) H) : gName i v σ H nx := h
theorem s_seq {t u : TS} {D : Ends} {σ : L2.St} {H : Hp} (h : t { D with nx := u D } σ H) : tSeq t u D σ H := h
theorem t_next {D : Ends} {σ : L2.St} {H : Hp} (h : D.nx σ H) : tNext D σ H := h
/-! ### opened -/
structure Opn (H : Hp) (Bs : List Addr) (op t0 : Addr) (x0 : Str) (ps0 : List Str) (lv : Nat) (fr : List Fr) : Prop where
  eop : H op = some (.lst (fr.reverse.map fun F => V.ref F.en))
  nd : (muA fr ++ op :: Bs).Nodup
  sb : Sb (muA fr ++ op :: Bs) H
  lo : 1 ≤ lv
  zs : ZS (hid H (muA fr ++ op :: Bs)) H t0 x0 ps0 lv [] fr
structure Kp (H H' : Hp) (S S' Bs : List Addr) : Prop where
  im : Same (hid H S) (hid H' S')
  bs : ∀ a ∈ Bs, ∀ o, H a = some o → H' a = some o
theorem Opn.same {H H1 : Hp} {Bs : List Addr} {op t0 : Addr} {x0 : Str} {ps0 : List Str} {lv : Nat} {fr : List Fr} (s : Same H H1) (o : Opn H Bs op t0 x0 ps0 lv fr) : Opn H1 Bs op t0 x0 ps0 lv fr :=
  ⟨s _ _ o.eop, o.nd, o.sb.same s, o.lo, o.zs.mono (hid_same _ s) fun a _ u h => s a u h⟩
theorem Opn.cons {H : Hp} {Bs : List Addr} {op t0 : Addr} {x0 : Str} {ps0 : List Str} {lv : Nat} {fr : List Fr} (o : Opn H Bs op t0 x0 ps0 lv fr) : ∃ F rest, fr = F :: rest := by
  cases o.zs with
  | hand => exact ⟨_, _, rfl⟩
  | st => exact ⟨_, _, rfl⟩
theorem sts_le {lv : Nat} (h : 1 ≤ lv) : ∀ b : List Stm, b.length ≤ (ksB lv b).length
  | [] => Nat.zero_le _
  | s :: r => by
    obtain ⟨n, rfl⟩ : ∃ n, lv = n + 1 := ⟨lv - 1, by omega⟩
    have ih := sts_le h r
    have e : ksB (n + 1) (s :: r) = ksB (n + 1) [s] ++ ksB (n + 1) r := ksB_append (n + 1) [s] r
    rw [e, ksB_one, List.length_append, List.length_cons, List.length_cons]
    omega
theorem fr_le {lv : Nat} (h : 1 ≤ lv) (F : Fr) (rest : List Fr) : F.sts.length ≤ (ksZ lv (F :: rest)).length := by
  have q := sts_le h F.sts
  show _ ≤ (ksZ (lv + 1) rest ++ (_ ++ ksB lv F.sts)).length
  rw [List.length_append, List.length_append]
  omega
theorem set_last {α : Type} (l : List α) (a b : α) : (l ++ [a]).set l.length b = l ++ [b] := by
  rw [List.set_append_right _ _ (Nat.le_refl _), Nat.sub_self]
  rfl
theorem ix_last {n : Nat} : ixN (n + 1) (-1) = some n := by
  unfold ixN
  rw [if_neg (by decide), if_pos (by omega)]
  congr 1
  omega
theorem last_at' {α : Type} (l : List α) (a : α) : (l ++ [a])[(l ++ [a]).length - 1]? = some a := by
  rw [List.length_append]
  show (l ++ [a])[l.length + 1 - 1]? = some a
  rw [Nat.add_sub_cancel, List.getElem?_append_right (Nat.le_refl _), Nat.sub_self]
  rfl
section
variable {P : Program} {w : World} {K : PySem.W.Frag} {mg : Str → Option Value} {base : Heap}
def sp_row : Sp := fun vs H Q _ => ∃ (c k : Int) (op : Addr) (m : Bool) (Bs : List Addr) (t0 : Addr) (x0 : Str) (ps0 : List Str) (lv : Nat) (fr : List Fr), vs = [.int c, .int k, .ref op, .bl m] ∧ Opn H Bs op t0 x0 ps0 lv fr ∧ (ksZ lv fr).length ≤ 1000 ∧
  (∀ H' row lv' fr', Kp H H' (muA fr ++ op :: Bs) (muA fr' ++ op :: Bs) Bs → Opn H' Bs op t0 x0 ps0 lv' fr' → (ksZ lv' fr' = ksZ lv fr ∨ ksZ lv' fr' = ksZ lv fr ++ [k]) → Q (.str row) H') ∧
  (m = true → ∀ H' row b, Kp H H' (muA fr ++ op :: Bs) (op :: Bs) Bs → H' op = some (.lst []) → Sb (op :: Bs) H' →
    Rp (hid H' (op :: Bs)) (.ref t0) (.tuple [.str x0, .list (ps0.map PyData.str), .list (b.map (Stm.toD 6))]) → (∀ s ∈ b, Val 6 s) → ksB 6 b = ksZ lv fr → Q (.str row) H')
theorem ok_row (d : Df K mg "_law_row" s_row pp_row) (T : Tx mg) (g_stir : Ok P w K mg base 1 "_law_stir" pp_stir sp_stir) (g_opener : Ok P w K mg base 8 "_law_opener" pp_opener sp_opener) (g_plain : Ok P w K mg base 8 "_law_plain" pp_plain sp_plain) :
    Ok P w K mg base 9 "_law_row" pp_row sp_row := by
  refine d.mk sc_row (fun vs H Q E h => ?_) (fun f cdv A outer s H vs Q E hr h => ?_)
  · obtain ⟨c, k, op, m, Bs, t0, x0, ps0, lv, fr, rfl, _⟩ := h; rfl
  obtain ⟨c, k, op, m, Bs, t0, x0, ps0, lv, fr, rfl, O, hks, q1, q2⟩ := h
  refine ⟨_, (pss_cons (ps_set (i := 4) sc_row.nd rfl (by first | exact .inl rfl | exact .inr rfl) (pcall g_stir hr (by omega) rfl (pa_cons (pv 0) (pa_cons pe_int pa_nil))))
      (pss_cons (ps_if (PW.pt (pw_and (pt_cmpR op_eq (pe_op op_mod (pv 4) pe_int) pe_int (nomark _)) (pw_and1 (pt_cmpR op_eq (pe_ix (ix_listK K rfl) (pe_ix (ix_listK K rfl) (pv 2) (pe_un un_neg pe_int) (fun _ _ => rfl)) pe_int (fun _ _ => rfl)) pe_str (nomark _))))) (pss_cons (ps_asg (pe_lst (pa_cons pe_str (pa_cons (pe_ix (ix_listK K rfl) (pe_ix (ix_listK K rfl) (pv 2) (pe_un un_neg pe_int) (fun _ _ => rfl)) pe_int (fun _ _ => rfl)) pa_nil))) (pg_sub (pv 2) (pe_un un_neg pe_int) set_list))
      (pss_one (ps_ret pe_str))) pss_nil)
      (pss_cons (ps_if (PW.pt (pw_and (pt_cmpR op_eq (pe_op op_mod (pv 4) pe_int) pe_int (nomark _)) (pw_and1 (PW.pt (pw_or (pt_cmpR op_gt (pe_callB (call_lenK K rfl) (by rfl) T.len PySem.boot_len (pa_cons (pv 2) pa_nil)) pe_int (nomark _)) (pw_or1 (pt_val (pv 3)))))))) (pss_cons (ps_expr (pe_bm0 PySem.F.plainAttrs_list PySem.F.slot_list_pop PySem.F.type_list_pop mt_pop (pv 2)))
      (pss_one (ps_ret pe_str))) pss_nil)
      (pss_cons (ps_if (PW.pt (pw_and (pt_cmpR op_gt (pe_op op_mod (pv 4) pe_int) pe_int (nomark _)) (pw_and1 (pt_cmpR op_lt (pe_callB (call_lenK K rfl) (by rfl) T.len PySem.boot_len (pa_cons (pv 2) pa_nil)) pe_int (nomark _))))) (pss_cons (ps_asg (pcall g_opener hr (by omega) rfl (pa_cons (pv 0) (pa_cons (pv 1) pa_nil))) (pg_unlK (n := 2) K rfl rfl (pgs_cons (pg_name (i := 5) sc_row.nd rfl (by first | exact .inl rfl | exact .inr rfl)) (pgs_cons (pg_name (i := 6) sc_row.nd rfl (by first | exact .inl rfl | exact .inr rfl)) pgs_nil))))
      (pss_cons (ps_expr (pe_bm PySem.F.plainAttrs_list PySem.F.slot_list_append PySem.F.type_list_append mt_append (pe_ix (ix_listK K rfl) (pe_ix (ix_listK K rfl) (pv 2) (pe_un un_neg pe_int) (fun _ _ => rfl)) pe_int (fun _ _ => rfl)) (pa_cons (pv 6) pa_nil)))
      (pss_cons (ps_expr (pe_bm PySem.F.plainAttrs_list PySem.F.slot_list_append PySem.F.type_list_append mt_append (pv 2) (pa_cons (pe_op op_cat (pe_lst (pa_cons (pe_ix (ix_tupK K rfl) (pv 6) pe_int (fun _ _ => rfl)) (pa_cons (pe_ix (ix_tupK K rfl) (pv 6) pe_int (fun _ _ => rfl)) pa_nil))) (pe_callTy (call_listK K rfl) (by rfl) T.list (by decide +kernel) (pa_cons (pe_slice (sl_tupK K rfl) (pv 6) (po_some pe_int) po_none) pa_nil))) pa_nil)))
      (pss_one (ps_ret (pv 5)))))) pss_nil)
      (pss_cons (ps_asg (pcall g_plain hr (by omega) rfl (pa_cons (pv 0) (pa_cons (pv 1) pa_nil))) (pg_unlK (n := 2) K rfl rfl (pgs_cons (pg_name (i := 5) sc_row.nd rfl (by first | exact .inl rfl | exact .inr rfl)) (pgs_cons (pg_name (i := 6) sc_row.nd rfl (by first | exact .inl rfl | exact .inr rfl)) pgs_nil))))
      (pss_cons (ps_expr (pe_bm PySem.F.plainAttrs_list PySem.F.slot_list_append PySem.F.type_list_append mt_append (pe_ix (ix_listK K rfl) (pe_ix (ix_listK K rfl) (pv 2) (pe_un un_neg pe_int) (fun _ _ => rfl)) pe_int (fun _ _ => rfl)) (pa_cons (pv 6) pa_nil)))
      (pss_one (ps_ret (pv 5))))))))), ?_⟩
  obtain ⟨F, rest, rfl⟩ := O.cons
  have hop := O.eop
  rw [List.reverse_cons, List.map_append] at hop
  have hop : H op = some (.lst ((rest.reverse.map fun F => V.ref F.en) ++ [.ref F.en])) := hop
  have bo := O.zs.bo
  have hen := (of_hid bo.en).1
  have nen := (of_hid bo.en).2
  have hlenL := O.zs.len
  have hlo := O.lo
  have lenop : ((rest.reverse.map fun F => V.ref F.en) ++ [V.ref F.en]).length = rest.length + 1 := by simp
  refine ⟨.int c, rfl, c, 0, rfl, by decide, ?_⟩
  generalize stirF c 0 = n
  refine g_name ?_
  dsimp only
  refine s_seq ?_
  refine if_x (b := decide (V.int (n % 9) = V.int 0) && decide (V.str F.w = V.str "if")) (tx_and (fun Q q => ?_) fun Q q => ?_) (fun hb => ?_) (fun _ => ?_)
  · exact ⟨.int n, rfl, _, _, rfl, rfl, (by show (0 : Int) < 9; decide), rfl, _, rfl, q⟩
  · exact ⟨.ref op, rfl, 1, rfl, op, _, _, _, rfl, rfl, SqL.of hop, atI_last _ _, F.en, _, _, _, rfl, rfl, SqL.of hen, at_of (j := 0) rfl rfl, rfl, _, rfl, q⟩
  · -- else
    have hw : F.w = "if" := by
      have z := (Bool.and_eq_true_iff.mp hb).2
      exact V.str.inj (of_decide_eq_true z)
    have Z := O.zs
    cases Z with
    | hand b h1 h2 h3 h4 h5 => rw [h1] at hw; exact absurd hw (by decide +kernel)
    | st b hu kd h3 h4 h5 h6 h7 zr =>
      rename_i t sw k' fs pre fvs pvs
      obtain ⟨esw, epre, qq, epost⟩ : sw = "if" ∧ pre = [] ∧ ∃ qq, F.post = [qq] := by
        revert kd
        rw [hw]
        generalize hx : ("if" : Str) = xw
        generalize hn : pre.length = a1
        generalize hm : F.post.length = a2
        intro kd
        cases kd with
        | whl => exact absurd hx (by decide +kernel)
        | iff => exact ⟨hx.symm ▸ rfl, List.length_eq_zero_iff.mp hn, List.length_eq_one_iff.mp hm⟩
        | els => exact absurd hx (by decide +kernel)
      subst esw
      subst epre
      have epv : pvs = [] := by cases h5; rfl
      subst epv
      have hmu : F.mu = [F.p, qq] := by unfold Fr.mu; rw [epost]
      have eS : muA (F :: rest) ++ op :: Bs = F.p :: qq :: (muA rest ++ op :: Bs) := by
        show F.mu ++ muA rest ++ op :: Bs = _
        rw [hmu]
        rfl
      have hen2 : H F.en = some (.lst [.str F.w, .ref F.p, .ref qq]) := by rw [epost] at hen; exact hen
      refine ⟨.ref op, rfl, 1, rfl, op, _, _, _, rfl, rfl, SqL.of hop, atI_last _ _, F.en, _, _, _, rfl, rfl, SqL.of hen2, at_of (j := 2) rfl rfl, small5 (by simp), fun e' he' => ?_⟩
      have se := nw he' (.lst [.str "else", .ref qq])
      refine ⟨.ref op, rfl, 1, rfl, op, _, _, rest.length, rfl, rfl, se _ _ hop, ?_, ?_⟩
      · rw [lenop]; exact ix_last
      have hset : ((rest.reverse.map fun F => V.ref F.en) ++ [V.ref F.en]).set rest.length (.ref e') = (rest.reverse.map fun F => V.ref F.en) ++ [V.ref e'] := by
        have l1 : (rest.reverse.map fun F => V.ref F.en).length = rest.length := by simp
        have q := set_last (rest.reverse.map fun F => V.ref F.en) (V.ref F.en) (V.ref e')
        rw [l1] at q
        exact q
      show Q (.str "else") (upd (upd H e' (.lst [.str "else", .ref qq])) op (.lst (((rest.reverse.map fun F => V.ref F.en) ++ [V.ref F.en]).set rest.length (.ref e'))))
      rw [hset]
      have nd := O.nd
      rw [eS] at nd
      have nd2 := (List.nodup_cons.mp nd).2
      have np := (List.nodup_cons.mp nd).1
      have sb := O.sb
      rw [eS] at sb
      have neo : e' ≠ op := (ne_of_none hop he').symm
      have keep : ∀ a, a ≠ op → ∀ o, H a = some o → (upd (upd H e' (.lst [.str "else", .ref qq])) op (.lst ((rest.reverse.map fun F => V.ref F.en) ++ [V.ref e']))) a = some o := fun a ha o z => by
        rw [upd_ne ha]
        exact se _ _ z
      have im : Same (hid H (muA (F :: rest) ++ op :: Bs)) (hid (upd (upd H e' (.lst [.str "else", .ref qq])) op (.lst ((rest.reverse.map fun F => V.ref F.en) ++ [V.ref e']))) (qq :: (muA rest ++ op :: Bs))) := fun a o z => by
        obtain ⟨z1, z2⟩ := of_hid z
        rw [eS] at z2
        rw [hid_out fun m => z2 (List.mem_cons_of_mem _ m)]
        exact keep a (fun e => z2 (by rw [e]; simp)) o z1
      have memo : op ∈ muA rest ++ op :: Bs := by simp
      have hpk := keep F.p (fun e => np (by rw [e]; exact List.mem_cons_of_mem _ memo))
      have eout : e' ∉ qq :: (muA rest ++ op :: Bs) := fun m => sb e' (List.mem_cons_of_mem _ m) he'
      have qne : qq ≠ op := fun e => (List.nodup_cons.mp nd2).1 (by rw [e]; exact memo)
      obtain ⟨vals, hv, rv⟩ := b.body
      rw [List.append_nil] at hv
      refine q1 _ "else" lv (⟨"else", e', qq, [], [], .st t "if" k' fs [F.sts]⟩ :: rest) ⟨im, fun a m o z => keep a (fun e => ?_) o z⟩ ⟨?_, nd2, fun a m => ?_, hlo, ?_⟩ (.inl ?_)
      · rw [e] at m
        have q := (List.nodup_cons.mp nd2).2
        exact (List.nodup_cons.mp (q.sublist (List.sublist_append_right _ _))).1 m
      · rw [upd_same, List.reverse_cons, List.map_append]
        rfl
      · by_cases c1 : a = op
        · rw [c1, upd_same]; exact fun z => nomatch z
        · rw [upd_ne c1]
          intro z
          exact sb a (List.mem_cons_of_mem _ m) (se.free z)
      · refine .st (t := t) (sw := "if") (k := k') (fs := fs) (pre := [F.sts]) (fvs := fvs) (pvs := [.ref F.p]) ⟨⟨[], ?_, .nil⟩, (fun s m => nomatch m), ?_, (fun q m => nomatch m)⟩ rfl .els ?_ (RpA.mono im _ _ h4) (.one (.lst ?_ (RpA.mono im _ _ rv))) h6 (fun b' m' => ?_) (zr.mono im fun a m o z => keep a (fun e => ?_) o z)
        · exact keep qq qne _ (b.post qq (by rw [epost]; simp))
        · show hid _ (qq :: (muA rest ++ op :: Bs)) e' = _
          rw [hid_out eout, upd_ne neo]
          exact upd_same
        · have z := im _ _ h3
          rw [epost] at z
          refine z.trans ?_
          simp
        · show hid _ (qq :: (muA rest ++ op :: Bs)) F.p = _
          rw [hid_out np]
          exact hpk _ hv
        · rw [List.mem_singleton.mp m']
          exact b.val
        · rw [e] at m
          have q := (List.nodup_cons.mp nd2).2
          exact (List.nodup_append.mp q).2.2 op m op (by simp) rfl
      · show ksZ (lv + 1) rest ++ _ = ksZ (lv + 1) rest ++ _
        unfold ksF
        rw [hu]
        simp [ksB_nil]
  -- end
  refine t_next ?_
  dsimp only
  refine s_seq ?_
  refine if_x (b := decide (V.int (n % 9) = V.int 1) && (decide ((1 : Int) < ((((rest.reverse.map fun F => V.ref F.en) ++ [V.ref F.en]).length : Nat) : Int)) || m)) (tx_and (fun Q q => ?_) (tx_or (fun Q q => ?_) fun Q q => ?_)) (fun hb => ?_) (fun _ => ?_)
  · exact ⟨.int n, rfl, _, _, rfl, rfl, (by show (0 : Int) < 9; decide), rfl, _, rfl, q⟩
  · exact ⟨.ref op, rfl, op, _, rfl, .inl (SqL.of hop), _, _, rfl, rfl, _, rfl, q⟩
  · exact ⟨.bl m, rfl, m, rfl, q⟩
  · have hb2 := (Bool.and_eq_true_iff.mp hb).2
    refine ⟨.ref op, rfl, .inl ⟨rfl, _, SqL.of hop⟩, op, _, .ref F.en, rfl, rfl, hop, last_at' _ _, ?_⟩
    show Q (.str "end") (upd H op (.lst ((rest.reverse.map fun F => V.ref F.en) ++ [V.ref F.en]).dropLast))
    rw [List.dropLast_concat]
    have nd := O.nd
    have keep : ∀ a, a ≠ op → ∀ o, H a = some o → (upd H op (.lst (rest.reverse.map fun F => V.ref F.en))) a = some o := fun a ha o z => by
      rw [upd_ne ha]
      exact z
    have nmu : ∀ a ∈ muA (F :: rest), a ∉ op :: Bs := fun a m m' => (List.nodup_append.mp nd).2.2 a m a m' rfl
    have nbs : ∀ a ∈ Bs, a ≠ op := fun a m e => by
      rw [e] at m
      exact (List.nodup_cons.mp (List.nodup_append.mp nd).2.1).1 m
    cases rest with
    | nil =>
      have hm : m = true := by
        rcases Bool.or_eq_true_iff.mp hb2 with z | z
        · exact absurd (of_decide_eq_true z) (by rw [lenop]; show ¬ (1 : Int) < ((0 + 1 : Nat) : Int); omega)
        · exact z
      have im : Same (hid H (muA [F] ++ op :: Bs)) (hid (upd H op (.lst (([] : List Fr).reverse.map fun F => V.ref F.en))) (op :: Bs)) := fun a o z => by
        obtain ⟨z1, z2⟩ := of_hid z
        rw [hid_out fun m => z2 (List.mem_append_right _ m)]
        exact keep a (fun e => z2 (by rw [e]; simp)) o z1
      obtain ⟨c1, c2⟩ := O.zs.close (G' := hid (upd H op (.lst (([] : List Fr).reverse.map fun F => V.ref F.en))) (op :: Bs)) [] im (fun a m o z => by
        rw [hid_out (nmu a m)]
        exact keep a (fun e => nmu a m (by rw [e]; simp)) o z) .nil (fun _ m => nomatch m)
      have c3 := O.zs.ks []
      rw [ksB_nil, List.append_nil] at c3
      refine q2 hm _ "end" _ ⟨im, fun a m o z => keep a (nbs a m) o z⟩ upd_same (fun a m => ?_) c1 c2 c3
      by_cases e : a = op
      · rw [e, upd_same]; exact fun z => nomatch z
      · rw [upd_ne e]; exact O.sb a (List.mem_append_right _ m)
    | cons F2 rest2 =>
      have Z := O.zs
      cases Z with
      | st b hu kd h3 h4 h5 h6 h7 zr =>
        rename_i t sw k' fs pre fvs pvs
        have eS : muA (F :: F2 :: rest2) ++ op :: Bs = F.mu ++ (muA (F2 :: rest2) ++ op :: Bs) := by
          show F.mu ++ muA (F2 :: rest2) ++ op :: Bs = _
          rw [List.append_assoc]
        have im : Same (hid H (muA (F :: F2 :: rest2) ++ op :: Bs)) (hid (upd H op (.lst ((F2 :: rest2).reverse.map fun F => V.ref F.en))) (muA (F2 :: rest2) ++ op :: Bs)) := fun a o z => by
          obtain ⟨z1, z2⟩ := of_hid z
          rw [eS] at z2
          rw [hid_out fun m => z2 (List.mem_append_right _ m)]
          exact keep a (fun e => z2 (by rw [e]; simp)) o z1
        have nd' := nd
        rw [eS] at nd'
        have nmF : ∀ a ∈ F.mu, a ∉ muA (F2 :: rest2) ++ op :: Bs := fun a m m' => (List.nodup_append.mp nd').2.2 a m a m' rfl
        obtain ⟨d1, d2, d3⟩ := stm_data (G' := hid (upd H op (.lst ((F2 :: rest2).reverse.map fun F => V.ref F.en))) (muA (F2 :: rest2) ++ op :: Bs)) (chs := []) b hu kd h3 h4 h5 h6 h7 im (fun a m o z => by
          rw [hid_out (nmF a m)]
          exact keep a (fun e => nmF a m (by rw [e]; simp)) o z) .nil (fun _ m => nomatch m)
        have zt := ZS.take (H := upd H op (.lst ((F2 :: rest2).reverse.map fun F => V.ref F.en))) (zr.mono im fun a m o z => keep a (fun e => nmu a (List.mem_append_right _ m) (by rw [e]; simp)) o z) d1 d2
        refine q1 _ "end" (lv + 1) ({ F2 with sts := F2.sts ++ [F.stm []] } :: rest2) ⟨im, fun a m o z => keep a (nbs a m) o z⟩ ⟨?_, (List.nodup_append.mp nd').2.1, fun a m => ?_, by omega, zt⟩ (.inl ?_)
        · rw [upd_same, List.reverse_cons, List.map_append, List.reverse_cons, List.map_append]
          rfl
        · by_cases e : a = op
          · rw [e, upd_same]; exact fun z => nomatch z
          · rw [upd_ne e]
            refine O.sb a ?_
            rw [eS]
            exact List.mem_append_right _ m
        · rw [ks_add, ks_stm hu, ksB_nil, List.append_nil]
          rfl
  -- if, while
  refine t_next ?_
  dsimp only
  refine s_seq ?_
  have hlv : (ksZ lv (F :: rest)).length ≤ 1000 := hks
  have hfl := fr_le hlo F rest
  refine if_x (b := decide ((6 : Int) < n % 9) && decide (((((rest.reverse.map fun F => V.ref F.en) ++ [V.ref F.en]).length : Nat) : Int) < 6)) (tx_and (fun Q q => ?_) fun Q q => ?_) (fun hb => ?_) (fun _ => ?_)
  · exact ⟨.int n, rfl, _, _, rfl, rfl, (by show (0 : Int) < 9; decide), _, _, rfl, rfl, _, rfl, q⟩
  · exact ⟨.ref op, rfl, op, _, rfl, .inl (SqL.of hop), _, _, rfl, rfl, _, rfl, q⟩
  · have hb2 : ((((rest.reverse.map fun F => V.ref F.en) ++ [V.ref F.en]).length : Nat) : Int) < 6 := of_decide_eq_true (Bool.and_eq_true_iff.mp hb).2
    rw [lenop] at hb2
    obtain ⟨l', rfl⟩ : ∃ l', lv = l' + 1 := ⟨lv - 1, by omega⟩
    rw [List.length_cons] at hlenL
    refine ⟨.int c, rfl, .int k, rfl, c, k, muA (F :: rest) ++ op :: Bs, rfl, O.sb, fun p t H1 row w sg v1 v2 e1 e2 qs s1 hp ht hk nq hq hsg o1 o2 r1 r2 nt ntq => ?_⟩
    have O1 := O.same s1
    have hop1 := s1 _ _ hop
    have hen1 := s1 _ _ hen
    obtain ⟨vals, hv, rv⟩ := O1.zs.bo.body
    rw [List.append_nil] at hv
    have lv' := RpA.length rv
    rw [List.length_map] at lv'
    refine ⟨p, _, rfl, SqL.of hp, rfl, .str row, _, rfl, .ref t, _, rfl, rfl, ?_⟩
    refine ⟨.ref op, rfl, 1, rfl, op, _, _, _, rfl, rfl, SqL.of hop1, atI_last _ _, F.en, _, _, _, rfl, rfl, SqL.of hen1, at_of (j := 1) rfl rfl, .inl ⟨rfl, _, SqL.of hv⟩, .ref t, rfl, F.p, vals, _, rfl, rfl, hv, lt5 (by omega), ?_⟩
    have memF : F.p ∈ muA (F :: rest) ++ op :: Bs := List.mem_append_left _ (List.mem_append_left _ (List.mem_cons_self ..))
    have hpt : F.p ≠ t := ne_of hv ht (by intro z; cases z)
    have hpo : F.p ≠ op := fun e => (List.nodup_append.mp O.nd).2.2 F.p (List.mem_append_left _ (List.mem_cons_self ..)) op (by simp) e
    have ht2 : (upd H1 F.p (.lst (vals ++ [.ref t]))) t = some (.tup (.str w :: .int k :: .str sg :: v1 :: v2 :: qs.map V.ref)) := by rw [upd_ne hpt.symm]; exact ht
    have hop2 : (upd H1 F.p (.lst (vals ++ [.ref t]))) op = some (.lst ((rest.reverse.map fun F => V.ref F.en) ++ [V.ref F.en])) := by rw [upd_ne hpo.symm]; exact hop1
    have sb2 := O1.sb.upd F.p (.lst (vals ++ [.ref t]))
    have qout : ∀ q ∈ qs, q ∉ muA (F :: rest) ++ op :: Bs := fun q m m' => O.sb q m' (hq q m).1
    obtain ⟨q1', qpost, eqs⟩ : ∃ q1' qpost, qs = q1' :: qpost := by
      rcases hk with ⟨_, a, e⟩ | ⟨_, a, b, e⟩
      · exact ⟨a, [], e⟩
      · exact ⟨a, [b], e⟩
    subst eqs
    have tlen : (V.str w :: .int k :: .str sg :: v1 :: v2 :: (q1' :: qpost).map V.ref).length = 6 + qpost.length := by simp; omega
    refine ⟨.ref op, rfl, .inl ⟨rfl, _, SqL.of hop2⟩, .ref t, rfl, t, _, _, _, rfl, rfl, SqT.of ht2, at_of (j := 0) rfl rfl, .ref t, rfl, t, _, _, _, rfl, rfl, SqT.of ht2, at_of (j := 5) rfl rfl, small5 (by simp), fun l1 hl1 => ?_⟩
    have sl1 := nw hl1 (.lst [V.str w, V.ref q1'])
    refine ⟨.ref t, rfl, 6, rfl, t, _, rfl, SqT.of (sl1 _ _ ht2), ?_, fun l2 hl2 => ?_⟩
    · intro z
      have z1 := z.1
      rw [tlen] at z1
      have e6 : HT.sIx (6 + qpost.length) 0 (some (6 : Int)) = min 6 (6 + qpost.length) := HT.sIx_nat (6 + qpost.length) 0 6
      rw [e6] at z1
      omega
    have ecut : cutV (V.str w :: .int k :: .str sg :: v1 :: v2 :: (q1' :: qpost).map V.ref) (some 6) none = qpost.map V.ref := by
      unfold cutV
      rw [tlen]
      have e6 : HT.sIx (6 + qpost.length) 0 (some (6 : Int)) = 6 := by
        rw [show HT.sIx (6 + qpost.length) 0 (some (6 : Int)) = min 6 (6 + qpost.length) from HT.sIx_nat (6 + qpost.length) 0 6]
        omega
      rw [e6, HT.sIx_none]
      show (qpost.map V.ref).take (6 + qpost.length - 6) = _
      exact List.take_of_length_le (by rw [List.length_map]; omega)
    rw [ecut]
    have sl2 := nw hl2 (.tup (qpost.map V.ref))
    refine ⟨l2, _, rfl, .inr (SqT.of upd_same), fun l3 hl3 => ?_⟩
    have sl3 := nw hl3 (.lst (qpost.map V.ref))
    refine ⟨l1, l3, _, _, rfl, rfl, (sl2.trans sl3) _ _ upd_same, upd_same, small5 (by
      rcases hk with ⟨_, a, e⟩ | ⟨_, a, b, e⟩
      · cases e; simp
      · cases e; simp), fun l4 hl4 => ?_⟩
    have sl4 := nw hl4 (.lst ([V.str w, V.ref q1'] ++ qpost.map V.ref))
    have sl := sl1.trans (sl2.trans (sl3.trans sl4))
    refine ⟨op, _, _, rfl, rfl, sl _ _ hop2, lt5 (by rw [lenop]; omega), .str row, rfl, ?_⟩
    -- the state behind
    generalize hH5 : upd (upd (upd (upd (upd H1 F.p (.lst (vals ++ [.ref t]))) l1 (.lst [V.str w, V.ref q1'])) l2 (.tup (qpost.map V.ref))) l3 (.lst (qpost.map V.ref))) l4 (.lst ([V.str w, V.ref q1'] ++ qpost.map V.ref)) = H5 at sl sl4
    have hl4' : H5 l4 = some (.lst ([V.str w, V.ref q1'] ++ qpost.map V.ref)) := by rw [← hH5]; exact upd_same
    have fl4 : (upd H1 F.p (.lst (vals ++ [.ref t]))) l4 = none := (sl1.trans (sl2.trans sl3)).free hl4
    have fl4' : H1 l4 = none := by
      have z : l4 ≠ F.p := fun e => by rw [e, upd_same] at fl4; cases fl4
      rw [upd_ne z] at fl4
      exact fl4
    have l4o : l4 ≠ op := (ne_of_none hop2 fl4).symm
    have eS' : muA (⟨w, l4, q1', qpost, [], .st t w k [.str sg, e1.toD, e2.toD] []⟩ :: F :: rest) ++ op :: Bs = (q1' :: qpost) ++ (muA (F :: rest) ++ op :: Bs) := by
      show (q1' :: qpost) ++ muA (F :: rest) ++ op :: Bs = _
      rw [List.append_assoc]
    have keep1 : ∀ a, a ∉ muA (F :: rest) ++ op :: Bs → ∀ o, H1 a = some o → (upd H5 op (.lst ((rest.reverse.map fun F => V.ref F.en) ++ [V.ref F.en] ++ [.ref l4]))) a = some o := fun a ha o z => by
      rw [upd_ne fun e => ha (by rw [e]; simp)]
      refine sl _ _ ?_
      rw [upd_ne fun e => ha (by rw [e]; exact memF)]
      exact z
    have keep2 : ∀ a, a ≠ op → ∀ o, (upd H1 F.p (.lst (vals ++ [.ref t]))) a = some o → (upd H5 op (.lst ((rest.reverse.map fun F => V.ref F.en) ++ [V.ref F.en] ++ [.ref l4]))) a = some o := fun a ha o z => by
      rw [upd_ne ha]
      exact sl _ _ z
    have im1 : Same (hid H1 ((q1' :: qpost) ++ (muA (F :: rest) ++ op :: Bs))) (hid (upd H5 op (.lst ((rest.reverse.map fun F => V.ref F.en) ++ [V.ref F.en] ++ [.ref l4]))) ((q1' :: qpost) ++ (muA (F :: rest) ++ op :: Bs))) := fun a o z => by
      obtain ⟨z1, z2⟩ := of_hid z
      rw [hid_out z2]
      exact keep1 a (fun m => z2 (List.mem_append_right _ m)) o z1
    have im2 : Same (hid H (muA (F :: rest) ++ op :: Bs)) (hid H1 ((q1' :: qpost) ++ (muA (F :: rest) ++ op :: Bs))) := fun a o z => by
      obtain ⟨z1, z2⟩ := of_hid z
      rw [hid_out fun m => ?_]
      · exact s1 _ _ z1
      · rcases List.mem_append.mp m with m | m
        · rw [(hq a m).1] at z1; cases z1
        · exact z2 m
    have zap := (O.zs.mono (H' := H1) im2 fun a _ o z => s1 a o z).app hv (List.nodup_append.mp O.nd).1 (.ref t)
    have ndA := O.nd
    have nbs : ∀ a ∈ Bs, a ∉ muA (F :: rest) ∧ a ≠ op := fun a m => ⟨fun m' => (List.nodup_append.mp ndA).2.2 a m' a (List.mem_cons_of_mem _ m) rfl, fun e => by
      rw [e] at m
      exact (List.nodup_cons.mp (List.nodup_append.mp ndA).2.1).1 m⟩
    have ndN : ((q1' :: qpost) ++ (muA (F :: rest) ++ op :: Bs)).Nodup := List.nodup_append.mpr ⟨nq, ndA, fun a m b m' e => qout a m (e ▸ m')⟩
    refine q1 _ row l' (⟨w, l4, q1', qpost, [], .st t w k [.str sg, e1.toD, e2.toD] []⟩ :: F :: rest) ⟨?_, fun a m o z => ?_⟩ ⟨?_, ?_, ?_, by omega, ?_⟩ (.inr ?_)
    · rw [eS']
      exact im2.trans im1
    · obtain ⟨n1, n2⟩ := nbs a m
      refine keep2 a n2 o ?_
      rw [upd_ne fun e => n1 (by rw [e]; exact List.mem_append_left _ (List.mem_cons_self ..))]
      exact s1 _ _ z
    · rw [upd_same, List.reverse_cons, List.map_append, List.reverse_cons, List.map_append]
      rfl
    · rw [eS']
      exact ndN
    · rw [eS']
      intro a m z
      rcases List.mem_append.mp m with m | m
      · rw [keep1 a (qout a m) _ (hq a m).2] at z
        cases z
      · by_cases e : a = op
        · rw [e, upd_same] at z; cases z
        · rw [upd_ne e] at z
          exact sb2 a m (sl.free z)
    · rw [eS']
      have tout : t ∉ (q1' :: qpost) ++ (muA (F :: rest) ++ op :: Bs) := fun m => by
        rcases List.mem_append.mp m with m | m
        · exact ntq m
        · exact O.sb t m nt
      have l4out : l4 ∉ (q1' :: qpost) ++ (muA (F :: rest) ++ op :: Bs) := fun m => by
        rcases List.mem_append.mp m with m | m
        · rw [(hq l4 m).2] at fl4'; cases fl4'
        · exact O1.sb l4 m fl4'
      refine .st (t := t) (sw := w) (k := k) (fs := [.str sg, e1.toD, e2.toD]) (pre := []) (fvs := [.str sg, v1, v2]) (pvs := []) ⟨⟨[], ?_, .nil⟩, (fun s m => nomatch m), ?_, fun q m => ?_⟩ rfl ?_ ?_ (.cons (.str _) (.cons (Rp.mono im1 _ _ r1) (.one (Rp.mono im1 _ _ r2)))) .nil ⟨sg, _, _, rfl, hsg, Et.okd _ o1, Et.okd _ o2⟩ (fun b m => nomatch m) (zap.mono im1 fun a m o z => keep2 a (fun e => ?_) o z)
      · exact keep1 q1' (qout q1' (List.mem_cons_self ..)) _ (hq q1' (List.mem_cons_self ..)).2
      · show hid _ _ l4 = _
        rw [hid_out l4out, upd_ne l4o]
        exact hl4'
      · exact keep1 q (qout q (List.mem_cons_of_mem _ m)) _ (hq q (List.mem_cons_of_mem _ m)).2
      · rcases hk with ⟨rfl, a, e⟩ | ⟨rfl, a, b, e⟩
        · cases e; exact .whl
        · cases e; exact .iff
      · rw [hid_out tout]
        refine (keep1 t (fun m => tout (List.mem_append_right _ m)) _ ht).trans ?_
        rfl
      · exact (List.nodup_append.mp ndA).2.2 a m op (by simp) e
    · show ksZ (l' + 1) (F :: rest) ++ _ = _
      unfold ksF
      simp [ksB_nil]
  -- a statement without bodies
  refine t_next ?_
  dsimp only
  refine ⟨.int c, rfl, .int k, rfl, c, k, muA (F :: rest) ++ op :: Bs, rfl, O.sb, fun v H1 row s s1 hf hbs hk r => ?_⟩
  obtain ⟨p, xs, rfl, hp, _, ra⟩ := r.list
  obtain ⟨y1, xs, rfl, ry1, ra⟩ := ra.uncons
  obtain ⟨vs, xs, rfl, rs, ra⟩ := ra.uncons
  have e1 := ra.nil_inv
  subst e1
  have e1 := ry1.str_inv
  subst e1
  have O1 := O.same s1
  have hop1 := s1 _ _ hop
  have hen1 := s1 _ _ hen
  obtain ⟨vals, hv, rv⟩ := O1.zs.bo.body
  rw [List.append_nil] at hv
  have lv' := RpA.length rv
  rw [List.length_map] at lv'
  obtain ⟨l', rfl⟩ : ∃ l', lv = l' + 1 := ⟨lv - 1, by omega⟩
  refine ⟨p, _, rfl, SqL.of hp, rfl, .str row, _, rfl, vs, _, rfl, rfl, ?_⟩
  refine ⟨.ref op, rfl, 1, rfl, op, _, _, _, rfl, rfl, SqL.of hop1, atI_last _ _, F.en, _, _, _, rfl, rfl, SqL.of hen1, at_of (j := 1) rfl rfl, .inl ⟨rfl, _, SqL.of hv⟩, vs, rfl, F.p, vals, _, rfl, rfl, hv, lt5 (by omega), .str row, rfl, ?_⟩
  have memF : F.p ∈ muA (F :: rest) ++ op :: Bs := List.mem_append_left _ (List.mem_append_left _ (List.mem_cons_self ..))
  have hpo : F.p ≠ op := fun e => (List.nodup_append.mp O.nd).2.2 F.p (List.mem_append_left _ (List.mem_cons_self ..)) op (by simp) e
  have rs' : Rp (hid H1 (muA (F :: rest) ++ op :: Bs)) vs (s.toD (l' + 1)) := by rw [Stm.toD_leaf hbs]; exact rs
  have zap := (O1.zs.app hv (List.nodup_append.mp O.nd).1 vs).take rs' ⟨hf, fun b m => by rw [hbs] at m; exact nomatch m⟩
  have eh : hid (upd H1 F.p (.lst (vals ++ [vs]))) (muA (F :: rest) ++ op :: Bs) = hid H1 (muA (F :: rest) ++ op :: Bs) := hid_upd _ memF
  refine q1 _ row (l' + 1) ({ F with sts := F.sts ++ [s] } :: rest) ⟨?_, fun a m o z => ?_⟩ ⟨?_, O.nd, O1.sb.upd _ _, hlo, ?_⟩ (.inr ?_)
  · show Same _ (hid (upd H1 F.p (.lst (vals ++ [vs]))) (muA (F :: rest) ++ op :: Bs))
    rw [eh]
    exact hid_same _ s1
  · have ne : a ≠ F.p := fun e => (List.nodup_append.mp O.nd).2.2 F.p (List.mem_append_left _ (List.mem_cons_self ..)) a (List.mem_cons_of_mem _ m) e.symm
    rw [upd_ne ne]
    exact s1 _ _ z
  · rw [upd_ne hpo.symm, List.reverse_cons, List.map_append]
    exact hop1
  · show ZS (hid (upd H1 F.p (.lst (vals ++ [vs]))) (muA (F :: rest) ++ op :: Bs)) _ _ _ _ _ _ _
    rw [eh]
    exact zap
  · rw [ks_add, ksB_leaf l' hbs, hk]
end
end K14
/-! ## K14N -/
namespace K14
open PySem PySem.Spec PyProof.Rows L2 KR TL
def hkF (h : Int) : Int := if stirF h 508 % 2 = 0 then 300 else 400
section
variable {P : Program} {w : World} {K : PySem.W.Frag} {mg : Str → Option Value} {base : Heap}
def sp_hand : Sp := fun vs H Q _ => ∃ (hs : Addr) (h : Int) (op : Addr) (Bs : List Addr) (cv : List V), vs = [.ref hs, .int h, .ref op] ∧ H hs = some (.lst cv) ∧ cv.length ≤ 7 ∧ H op = some (.lst []) ∧ (op :: Bs).Nodup ∧ hs ∈ Bs ∧ Sb (op :: Bs) H ∧
  ∀ H' row t0 x0 (ps0 : List Str) F, Same (hid H (op :: Bs)) (hid H' (muA [F] ++ op :: Bs)) → (∀ a ∈ Bs, a ≠ hs → ∀ o, H a = some o → H' a = some o) → H' hs = some (.lst (cv ++ [.ref t0])) →
    (namesF h (hkF h) 8)[cv.length]? = some x0 → ps0.length ≤ 3 → (∀ x ∈ ps0, PyData.strOk x = true) → Opn H' Bs op t0 x0 ps0 6 [F] → ksZ 6 [F] = [] → Q (.str row) H'
theorem ok_hand (d : Df K mg "_law_hand" s_hand pp_hand) (T : Tx mg) (g_stir : Ok P w K mg base 1 "_law_stir" pp_stir sp_stir) (g_names : Ok P w K mg base 2 "_law_names" pp_names sp_names) : Ok P w K mg base 3 "_law_hand" pp_hand sp_hand := by
  refine d.mk sc_hand (fun vs H Q E h => ?_) (fun f cdv A outer s H vs Q E hr h => ?_)
  · obtain ⟨hs, h, op, Bs, cv, rfl, _⟩ := h; rfl
  obtain ⟨hs, h, op, Bs, cv, rfl, hhs, hcv, hop, nd, mhs, sb, q⟩ := h
  refine ⟨_, (pss_cons (ps_set (i := 3) sc_hand.nd rfl (by first | exact .inl rfl | exact .inr rfl) (pe_ix (ix_listK K rfl) (pcall g_names hr (by omega) rfl (pa_cons (pv 1) (pa_cons (pe_ix (ix_listK K rfl) (pe_lst (pa_cons pe_int (pa_cons pe_int pa_nil))) (pe_op op_mod (pcall g_stir hr (by omega) rfl (pa_cons (pv 1) (pa_cons pe_int pa_nil))) pe_int) (fun _ _ => rfl)) (pa_cons pe_int pa_nil)))) (pe_callB (call_lenK K rfl) (by rfl) T.len PySem.boot_len (pa_cons (pv 0) pa_nil)) (fun _ _ => rfl)))
      (pss_cons (ps_set (i := 4) sc_hand.nd rfl (by first | exact .inl rfl | exact .inr rfl) (pcall g_stir hr (by omega) rfl (pa_cons (pv 1) (pa_cons (pe_op op_add pe_int (pe_callB (call_lenK K rfl) (by rfl) T.len PySem.boot_len (pa_cons (pv 0) pa_nil))) pa_nil))))
      (pss_cons (ps_set (i := 5) sc_hand.nd rfl (by first | exact .inl rfl | exact .inr rfl) (pcall g_names hr (by omega) rfl (pa_cons (pv 1) (pa_cons (pe_op op_add pe_int (pe_op op_mul pe_int (pe_callB (call_lenK K rfl) (by rfl) T.len PySem.boot_len (pa_cons (pv 0) pa_nil)))) (pa_cons (pe_op op_mod (pv 4) pe_int) pa_nil)))))
      (pss_cons (ps_expr (pe_bm PySem.F.plainAttrs_list PySem.F.slot_list_append PySem.F.type_list_append mt_append (pv 0) (pa_cons (pe_tup (pa_cons (pv 3) (pa_cons (pv 5) (pa_cons (pe_lst pa_nil) pa_nil)))) pa_nil)))
      (pss_cons (ps_expr (pe_bm PySem.F.plainAttrs_list PySem.F.slot_list_append PySem.F.type_list_append mt_append (pv 2) (pa_cons (pe_lst (pa_cons pe_str (pa_cons (pe_ix (ix_tupK K rfl) (pe_ix (ix_listK K rfl) (pv 0) (pe_un un_neg pe_int) (fun _ _ => rfl)) pe_int (fun _ _ => rfl)) pa_nil))) pa_nil)))
      (pss_one (ps_ret (pe_join pe_str (pe_op op_cat (pe_lst (pa_cons pe_str (pa_cons (pv 3) pa_nil))) (pv 5)))))))))), ?_⟩
  -- name
  have hat : atI [V.int 300, V.int 400] (stirF h 508 % 2) = some (.int (hkF h)) := by
    have a0 := Int.emod_nonneg (stirF h 508) (show (2 : Int) ≠ 0 by decide)
    have a1 := Int.emod_lt_of_pos (stirF h 508) (show (0 : Int) < 2 by decide)
    unfold hkF
    by_cases c : stirF h 508 % 2 = 0
    · rw [c, if_pos rfl]; exact at_of (j := 0) rfl rfl
    · have e : stirF h 508 % 2 = 1 := by omega
      rw [e, if_neg (by decide)]; exact at_of (j := 1) rfl rfl
  have hk0 : 0 ≤ hkF h := by unfold hkF; split <;> decide
  have nl : (namesF h (hkF h) 8).length = 8 := namesF_len ..
  obtain ⟨x0, hx0⟩ : ∃ x0, (namesF h (hkF h) 8)[cv.length]? = some x0 := ⟨_, List.getElem?_eq_getElem (by omega)⟩
  have x8 := namesF_small (by decide) (List.mem_of_getElem? hx0)
  refine ⟨.int h, rfl, small5 (by simp), fun p1 hp1 => ?_⟩
  have s1 := nw hp1 (.lst [V.int 300, V.int 400])
  refine ⟨.int h, rfl, h, 508, rfl, by decide, _, _, rfl, rfl, (by show (0 : Int) < 2; decide), p1, _, _, _, rfl, rfl, SqL.of upd_same, hat, h, hkF h, 8, rfl, hk0, by decide, fun pn H1 s2 nn hn => ?_⟩
  have s12 := s1.trans s2
  refine ⟨.ref hs, rfl, hs, _, rfl, .inl (SqL.of (s12 _ _ hhs)), pn, _, _, .str x0, rfl, rfl, SqL.of hn, atI_nat (by rw [List.getElem?_map, hx0]; rfl), ?_⟩
  -- number, names
  refine ⟨.int h, rfl, .ref hs, rfl, hs, _, rfl, .inl (SqL.of (s12 _ _ hhs)), _, _, rfl, rfl, h, 340 + (cv.length : Int), rfl, by omega, ?_⟩
  generalize stirF h (340 + (cv.length : Int)) = n
  obtain ⟨m, em, hm⟩ : ∃ m : Nat, n % 4 = (m : Int) ∧ m ≤ 3 := ⟨(n % 4).toNat, by have := Int.emod_nonneg n (show (4 : Int) ≠ 0 by decide); omega, by have := Int.emod_lt_of_pos n (show (0 : Int) < 4 by decide); omega⟩
  refine ⟨.int h, rfl, .ref hs, rfl, hs, _, rfl, .inl (SqL.of (s12 _ _ hhs)), _, _, rfl, rfl, .inl ⟨by decide, by decide⟩, _, _, rfl, rfl, .int n, rfl, _, _, rfl, rfl, (by show (0 : Int) < 4; decide), h, 700 + 20 * (cv.length : Int), m, by rw [← em]; rfl, by omega, by omega, fun pm H2 s3 nm hpm => ?_⟩
  have s13 := s12.trans s3
  have ml : (namesF h (700 + 20 * (cv.length : Int)) m).length = m := namesF_len ..
  have mok : ∀ x ∈ namesF h (700 + 20 * (cv.length : Int)) m, x.length ≤ 8 ∧ PyData.strOk x = true := fun x hx => namesF_small (by omega) hx
  generalize namesF h (700 + 20 * (cv.length : Int)) m = ps0 at hpm ml mok
  -- hands.append((name, names, []))
  have hhs2 := s13 _ _ hhs
  have hop2 := s13 _ _ hop
  have hne : hs ≠ op := fun e => (List.nodup_cons.mp nd).1 (by rw [← e]; exact mhs)
  refine ⟨.ref hs, rfl, .inl ⟨rfl, _, SqL.of hhs2⟩, .str x0, rfl, .ref pm, rfl, Nat.zero_le _, fun pb hpb => ⟨small5 (by simp), fun t0 ht0 => ?_⟩⟩
  have s4 := nw hpb (.lst [])
  have s5 := nw ht0 (.tup [.str x0, .ref pm, .ref pb])
  have s45 := s4.trans s5
  refine ⟨hs, cv, _, rfl, rfl, s45 _ _ hhs2, lt5 (by omega), ?_⟩
  -- opened.append(["hand", hands[-1][2]])
  have hop3 := s45 _ _ hop2
  have hhs3 := s45 _ _ hhs2
  have nto : t0 ≠ hs := (ne_of_none (s4 _ _ hhs2) ht0).symm
  have ntop : t0 ≠ op := (ne_of_none (s4 _ _ hop2) ht0).symm
  have npb : pb ≠ hs := (ne_of_none hhs2 hpb).symm
  have npbo : pb ≠ op := (ne_of_none hop2 hpb).symm
  have ntpb : t0 ≠ pb := (ne_of_none upd_same ht0).symm
  generalize hH4 : upd (upd H2 pb (.lst [])) t0 (.tup [.str x0, .ref pm, .ref pb]) = H4 at s5 s45 hop3 hhs3
  have ht4 : H4 t0 = some (.tup [.str x0, .ref pm, .ref pb]) := by rw [← hH4]; exact upd_same
  have hpb4 : H4 pb = some (.lst []) := by rw [← hH4]; exact (nw ht0 _) _ _ upd_same
  have ht5 : (upd H4 hs (.lst (cv ++ [.ref t0]))) t0 = some (.tup [.str x0, .ref pm, .ref pb]) := by rw [upd_ne nto]; exact ht4
  have hop5 : (upd H4 hs (.lst (cv ++ [.ref t0]))) op = some (.lst []) := by rw [upd_ne hne.symm]; exact hop3
  refine ⟨.ref op, rfl, .inl ⟨rfl, _, SqL.of hop5⟩, .ref hs, rfl, 1, rfl, hs, _, _, _, rfl, rfl, SqL.of upd_same, atI_last _ _, t0, _, _, _, rfl, rfl, SqT.of ht5, at_of (j := 2) rfl rfl, small5 (by simp), fun en hen => ?_⟩
  have s6 := nw hen (.lst [.str "hand", .ref pb])
  refine ⟨op, _, _, rfl, rfl, s6 _ _ hop5, lt5 (by simp), ?_⟩
  have enop : en ≠ op := (ne_of_none hop5 hen).symm
  have enhs : en ≠ hs := (ne_of_none upd_same hen).symm
  have enpb : en ≠ pb := (ne_of_none (show (upd H4 hs (.lst (cv ++ [.ref t0]))) pb = some (.lst []) by rw [upd_ne npb]; exact hpb4) hen).symm
  have fen : H4 en = none := by rw [upd_ne enhs] at hen; exact hen
  -- " ".join(["hand", name] + names)
  generalize hH7 : upd (upd (upd H4 hs (.lst (cv ++ [.ref t0]))) en (.lst [.str "hand", .ref pb])) op (.lst [.ref en]) = H7
  have k7 : ∀ a, a ≠ hs → a ≠ op → ∀ o, H4 a = some o → H7 a = some o := fun a h1 h2 o z => by
    rw [← hH7, upd_ne h2]
    refine s6 _ _ ?_
    rw [upd_ne h1]
    exact z
  have hop7 : H7 op = some (.lst [.ref en]) := by rw [← hH7]; exact upd_same
  have hen7 : H7 en = some (.lst [.str "hand", .ref pb]) := by rw [← hH7, upd_ne enop]; exact upd_same
  have hhs7 : H7 hs = some (.lst (cv ++ [.ref t0])) := by rw [← hH7, upd_ne hne]; exact s6 _ _ upd_same
  have pmn : pm ≠ hs ∧ pm ≠ op := ⟨(ne_of_none (s12 _ _ hhs) nm).symm, (ne_of_none (s12 _ _ hop) nm).symm⟩
  have hpm7 : H7 pm = some (.lst (ps0.map V.str)) := k7 pm pmn.1 pmn.2 _ (s45 _ _ hpm)
  show _
  rw [show (upd (upd (upd H4 hs (.lst (cv ++ [.ref t0]))) en (.lst [.str "hand", .ref pb])) op (.lst ([] ++ [.ref en]))) = H7 from hH7]
  refine ⟨⟨_, rfl⟩, .str x0, rfl, small5 (by simp), fun p8 hp8 => ?_⟩
  have s8 := nw hp8 (.lst [V.str "hand", V.str x0])
  refine ⟨.ref pm, rfl, p8, pm, _, _, rfl, rfl, upd_same, s8 _ _ hpm7, small5 (by rw [List.length_map]; show 2 + ps0.length ≤ 100000; omega), fun p9 hp9 => ?_⟩
  have s9 := nw hp9 (.lst ([V.str "hand", V.str x0] ++ ps0.map V.str))
  have s89 := s8.trans s9
  refine ⟨_, p9, ("hand" : Str) :: x0 :: ps0, rfl, rfl, .inl (SqL.of upd_same), ?_, ?_⟩
  · have e1 := sum_le (b := 8) (l := (("hand" : Str) :: x0 :: ps0).map (·.length)) fun y hy => by
      obtain ⟨t, ht, rfl⟩ := List.mem_map.mp hy
      rcases List.mem_cons.mp ht with c | c
      · rw [c]; exact (by decide +kernel : ("hand" : Str).length ≤ 8)
      · rcases List.mem_cons.mp c with c | c
        · rw [c]; exact x8.1
        · exact (mok t c).1
    simp only [List.length_map, List.length_cons] at e1 ⊢
    show _ + (ps0.length + 1 + 1) * 1 ≤ _
    simp only [List.map_cons, List.sum_cons] at e1 ⊢
    omega
  -- the end
  have fpb : H pb = none := s13.free hpb
  have pbout : pb ∉ op :: Bs := fun m => sb pb m fpb
  have eS : muA [(⟨"hand", en, pb, [], [], .hand⟩ : Fr)] ++ op :: Bs = pb :: op :: Bs := rfl
  have keep : ∀ a, a ≠ hs → a ≠ op → ∀ o, H a = some o → H7 a = some o := fun a h1 h2 o z => k7 a h1 h2 o (s45 _ _ (s13 _ _ z))
  have out : ∀ {a : Addr}, a ∉ op :: Bs → a ≠ pb → a ∉ pb :: op :: Bs := fun h1 h2 m => by
    rcases List.mem_cons.mp m with z | z
    · exact h2 z
    · exact h1 z
  have ens : en ∉ op :: Bs := fun m => by
    rcases List.mem_cons.mp m with z | z
    · exact enop z
    · exact sb en (List.mem_cons_of_mem _ z) ((s13.trans s45).free fen)
  have t0s : t0 ∉ op :: Bs := fun m => sb t0 m ((s13.trans s4).free ht0)
  have pms : pm ∉ op :: Bs := fun m => sb pm m (s12.free nm)
  refine q _ _ t0 x0 ps0 ⟨"hand", en, pb, [], [], .hand⟩ (fun a o z => ?_) (fun a m hn o z => ?_) (s89 _ _ hhs7) hx0 (by omega) (fun x hx => (mok x hx).2) ⟨s89 _ _ hop7, ?_, fun a m => ?_, by decide, ?_⟩ ?_
  · obtain ⟨z1, z2⟩ := of_hid z
    rw [eS, hid_out (out z2 fun e => by rw [e, fpb] at z1; cases z1)]
    exact s89 _ _ (keep a (fun e => z2 (by rw [e]; exact List.mem_cons_of_mem _ mhs)) (fun e => z2 (by rw [e]; simp)) o z1)
  · exact s89 _ _ (keep a hn (fun e => (List.nodup_cons.mp nd).1 (by rw [← e]; exact m)) o z)
  · rw [eS]
    exact List.nodup_cons.mpr ⟨pbout, nd⟩
  · rw [eS] at m
    intro z
    rcases List.mem_cons.mp m with e | m
    · rw [e] at z
      rw [s89 _ _ (k7 pb npb npbo _ hpb4)] at z
      cases z
    · by_cases e1 : a = op
      · rw [e1, s89 _ _ hop7] at z; cases z
      · by_cases e2 : a = hs
        · rw [e2, s89 _ _ hhs7] at z; cases z
        · cases c : H a with
          | none => exact sb a m c
          | some o =>
            rw [s89 _ _ (keep a e2 e1 o c)] at z
            cases z
  · rw [eS]
    refine .hand (nv := .ref pm) ⟨⟨[], s89 _ _ (k7 pb npb npbo _ hpb4), .nil⟩, (fun s m => nomatch m), ?_, (fun q m => nomatch m)⟩ rfl rfl rfl ?_ (.lst ?_ (RpA.strs ps0))
    · rw [hid_out (out ens enpb)]
      exact s89 _ _ hen7
    · rw [hid_out (out t0s ntpb)]
      exact s89 _ _ (k7 t0 nto ntop _ ht4)
    · rw [hid_out (out pms fun e => by rw [e, hpb] at hpm; cases hpm)]
      exact s89 _ _ hpm7
  · rfl
end
end K14
/-! ## K14O -/
namespace K14
open PySem PySem.Spec PyProof.Rows L2 KR TL
structure Hd where
  x : Str
  ps : List Str
  b : List Stm
def Hd.toD (h : Hd) : PyData := .tuple [.str h.x, .list (h.ps.map PyData.str), .list (h.b.map (Stm.toD 6))]
structure Hd.Ok (h : Hd) : Prop where
  few : h.ps.length ≤ 3
  str : ∀ x ∈ h.ps, PyData.strOk x = true
  val : ∀ s ∈ h.b, Val 6 s
structure HandsOk (h : Int) (hds : List Hd) : Prop where
  len : hds.length ≤ 8
  nm : hds.map Hd.x = (namesF h (hkF h) 8).take hds.length
  ok : ∀ c ∈ hds, c.Ok
  nd : (hds.flatMap fun c => ksB 6 c.b).Nodup
  few : (hds.flatMap fun c => ksB 6 c.b).length ≤ 63
  pos : ∀ k ∈ hds.flatMap fun c => ksB 6 c.b, 0 ≤ k
/-- what holds of the rest while the rows are made -/
structure Cm (G0 H' : Hp) (S : List Addr) (rp : Addr) (h : Int) (i : Nat) (rws cv : List V) (cls : List Hd) : Prop where
  im : Same G0 (hid H' S)
  rp : H' rp = some (.lst rws)
  cvs : RpA (hid H' S) cv (cls.map Hd.toD)
  ok : ∀ c ∈ cls, c.Ok
  nm : cls.map Hd.x = (namesF h (hkF h) 8).take cls.length
  len : rws.length ≤ 5 + i
structure KI (ks : List Int) (n i : Nat) : Prop where
  lt : ks.Pairwise (· < ·)
  le : ∀ k ∈ ks, k ≤ (n : Int)
  few : ks.length ≤ i
  lo : ∀ k ∈ ks, 0 ≤ k
theorem KI.up {ks : List Int} {n i : Nat} (h : KI ks n i) : KI ks (n + 1) (i + 1) := ⟨h.lt, fun k m => by have := h.le k m; omega, by have := h.few; omega, h.lo⟩
theorem KI.snoc {ks : List Int} {n i : Nat} (h : KI ks n i) : KI (ks ++ [((n : Nat) : Int) + 1]) (n + 1) (i + 1) := by
  refine ⟨List.pairwise_append.mpr ⟨h.lt, List.pairwise_singleton _ _, fun a m b m' => ?_⟩, fun k m => ?_, ?_, fun k m => ?_⟩
  · rw [List.mem_singleton.mp m']
    have := h.le a m
    omega
  · rcases List.mem_append.mp m with m | m
    · have := h.le k m; omega
    · rw [List.mem_singleton.mp m]; omega
  · rw [List.length_append]
    have := h.few
    show _ + 1 ≤ _
    omega
  · rcases List.mem_append.mp m with m | m
    · exact h.lo k m
    · rw [List.mem_singleton.mp m]; omega
def clsK (cls : List Hd) : List Int := cls.flatMap fun c => ksB 6 c.b
theorem clsK_snoc (cls : List Hd) (c : Hd) : clsK (cls ++ [c]) = clsK cls ++ ksB 6 c.b := by
  unfold clsK
  rw [List.flatMap_append]
  simp
theorem Opn.updB {H : Hp} {Bs : List Addr} {op t0 : Addr} {x0 : Str} {ps0 : List Str} {lv : Nat} {fr : List Fr} {a : Addr} (u : HO) (m : a ∈ Bs) (O : Opn H Bs op t0 x0 ps0 lv fr) : Opn (upd H a u) Bs op t0 x0 ps0 lv fr := by
  have n1 : a ≠ op := fun e => (List.nodup_cons.mp (List.nodup_append.mp O.nd).2.1).1 (by rw [← e]; exact m)
  refine ⟨?_, O.nd, O.sb.upd _ _, O.lo, ?_⟩
  · rw [upd_ne n1.symm]; exact O.eop
  · rw [hid_upd u (List.mem_append_right _ (List.mem_cons_of_mem _ m))]
    refine O.zs.mono (fun _ _ h => h) fun c mc o h => ?_
    rw [upd_ne fun e => (List.nodup_append.mp O.nd).2.2 c mc a (List.mem_cons_of_mem _ m) e]
    exact h
theorem cut_mem {xs : List V} {lo hi : Option Int} {x : V} (h : x ∈ cutV xs lo hi) : x ∈ xs := by
  unfold cutV at h
  exact List.mem_of_mem_drop (List.mem_of_mem_take h)
section
variable {P : Program} {w : World} {K : PySem.W.Frag} {mg : Str → Option Value} {base : Heap}
def sp_built (K : PySem.W.Frag) : Sp := fun vs H Q _ => ∃ (a : Addr) (ns : List Int) (h : Int), vs = [.ref a, .int h] ∧ SqL K H a (ns.map V.int) ∧ ns.length ≤ 63 ∧
  ∀ (p : Addr) (x pv : V) H' (gd : Nat → List PyData) (hds : List Hd), Same H H' → H' p = some (.lst [x, pv]) → Rp H' pv (.tuple [.list (gd 0), .list (gd 1), .list (gd 2), .list (hds.map Hd.toD)]) → GoodsOk h gd → HandsOk h hds → Q (.ref p) H'
theorem ok_built (d : Df K mg "_law_built" s_built pp_built) (T : Tx mg) (g_stir : Ok P w K mg base 1 "_law_stir" pp_stir sp_stir) (g_goods : Ok P w K mg base 3 "_law_goods" pp_goods sp_goods)
    (g_hand : Ok P w K mg base 3 "_law_hand" pp_hand sp_hand) (g_row : Ok P w K mg base 9 "_law_row" pp_row sp_row) : Ok P w K mg base 10 "_law_built" pp_built (sp_built K) := by
  refine d.mk sc_built (fun vs H Q E h => ?_) (fun f cdv A outer s H vs Q E hr h => ?_)
  · obtain ⟨a, ns, h, rfl, _⟩ := h; rfl
  obtain ⟨a, ns, h, rfl, hl, hns, q⟩ := h
  refine ⟨_, (pss_cons (ps_asg (pcall g_goods hr (by omega) rfl (pa_cons (pv 1) pa_nil)) (pg_unlK (n := 2) K rfl rfl (pgs_cons (pg_name (i := 5) sc_built.nd rfl (by first | exact .inl rfl | exact .inr rfl)) (pgs_cons (pg_name (i := 6) sc_built.nd rfl (by first | exact .inl rfl | exact .inr rfl)) pgs_nil))))
      (pss_cons (ps_set (i := 2) sc_built.nd rfl (by first | exact .inl rfl | exact .inr rfl) (pe_lst pa_nil))
      (pss_cons (ps_set (i := 3) sc_built.nd rfl (by first | exact .inl rfl | exact .inr rfl) (pe_lst pa_nil))
      (pss_cons (ps_for PassesOwn.never rfl (pi_listK K rfl (pe_slice (sl_listK K rfl) (pv 0) po_none (po_some (pe_op op_mul pe_int (pe_callTy call_int1 (by rfl) T.int (by decide +kernel) (pa_cons (pe_cmpR op_ne (pe_op op_mod (pcall g_stir hr (by omega) rfl (pa_cons (pv 1) (pa_cons pe_int pa_nil))) pe_int) pe_int (nomark _)) pa_nil)))))) (pg_name (i := 4) sc_built.nd rfl (by first | exact .inl rfl | exact .inr rfl)) (pss_one (ps_if (pt_cmpR (op_eqNilK K rfl hr.units) (pv 3) (pe_lst pa_nil) (nomark _)) (pss_one (ps_expr (pe_bm PySem.F.plainAttrs_list PySem.F.slot_list_append PySem.F.type_list_append mt_append (pv 5) (pa_cons (pcall g_hand hr (by omega) rfl (pa_cons (pv 2) (pa_cons (pv 1) (pa_cons (pv 3) pa_nil)))) pa_nil)))) (pss_one (ps_expr (pe_bm PySem.F.plainAttrs_list PySem.F.slot_list_append PySem.F.type_list_append mt_append (pv 5) (pa_cons (pcall g_row hr (by omega) rfl (pa_cons (pv 4) (pa_cons (pe_op op_add (pe_callB (call_lenK K rfl) (by rfl) T.len PySem.boot_len (pa_cons (pv 5) pa_nil)) pe_int) (pa_cons (pv 3) (pa_cons (pe_cmpR op_lt (pe_callB (call_lenK K rfl) (by rfl) T.len PySem.boot_len (pa_cons (pv 2) pa_nil)) pe_int (nomark _)) pa_nil))))) pa_nil)))))))
      (C8.pss_cut (ps_if (pt_cmpR (op_eqNilK K rfl hr.units) (pv 5) (pe_lst pa_nil) (nomark _)) (pss_one (ps_expr (pe_bm PySem.F.plainAttrs_list PySem.F.slot_list_append PySem.F.type_list_append mt_append (pv 5) (pa_cons (pcall g_hand hr (by omega) rfl (pa_cons (pv 2) (pa_cons (pv 1) (pa_cons (pv 3) pa_nil)))) pa_nil)))) pss_nil)
      (pss_cons (ps_set (i := 5) sc_built.nd rfl (by first | exact .inl rfl | exact .inr rfl) (pe_op op_cat (pv 5) (pe_op op_rep (pe_lst (pa_cons pe_str pa_nil)) (pe_callB (call_lenK K rfl) (by rfl) T.len PySem.boot_len (pa_cons (pv 3) pa_nil)))))
      (pss_one (ps_ret (pe_lst (pa_cons (pv 5) (pa_cons (pe_op (op_catTK K rfl) (pv 6) (pe_tup (pa_cons (pv 2) pa_nil))) pa_nil))))))))))), ?_⟩
  -- rows, parts
  refine ⟨.int h, rfl, h, [], rfl, Sb.nil _, fun p0 rp pt H1 rws0 gd s1 nrp hrp hr5 hp0 np0 gok r0 => ?_⟩
  refine ⟨p0, _, rfl, SqL.of hp0, rfl, .ref rp, _, rfl, .ref pt, _, rfl, rfl, ?_⟩
  refine ⟨Nat.zero_le _, fun hs hhs => ⟨Nat.zero_le _, fun op hop => ?_⟩⟩
  have s2 := nw hhs (.lst [])
  have s3 := nw hop (.lst [])
  have s23 := s2.trans s3
  have hrp2 := s23 _ _ hrp
  have hhs2 : (upd (upd H1 hs (.lst [])) op (.lst [])) hs = some (.lst []) := s3 _ _ upd_same
  have nro : rp ≠ op := ne_of_none (s2 _ _ hrp) hop
  have nrh : rp ≠ hs := ne_of_none hrp hhs
  have nho : hs ≠ op := ne_of_none upd_same hop
  have hlS := (s1.trans s23).seq hl
  have r2 : R (upd (upd H1 hs (.lst [])) op (.lst [])) [rp] (.ref pt) _ := r0.mono s23
  have r3 : R (upd (upd H1 hs (.lst [])) op (.lst [])) [op, hs, rp] (.ref pt) (.tuple [.list (gd 0), .list (gd 1), .list (gd 2)]) :=
    ((r0.hide hhs (Same.refl _)).mono s2).hide hop s3
  have sH := s1.trans s23
  have fop : H op = none := (s1.trans s2).free hop
  have fhs : H hs = none := s1.free hhs
  -- the cells
  refine ⟨.ref a, rfl, .int h, rfl, h, 510, rfl, by decide, _, _, rfl, rfl, (by show (0 : Int) < 32; decide), rfl, .inr ⟨_, rfl, _, _, rfl, rfl, .inl ⟨by decide, by decide⟩, _, rfl, a, _, rfl, hlS, fun p hp => ?_⟩⟩
  have hxs := fun x (m : x ∈ cutV (ns.map V.int) none (some (63 * if (!decide (V.int (stirF h 510 % 32) = V.int 7)) = true then 1 else 0))) => cut_mem m
  have hxl := cutV_length (ns.map V.int) none (some (63 * if (!decide (V.int (stirF h 510 % 32) = V.int 7)) = true then 1 else 0))
  rw [List.length_map] at hxl
  refine ⟨p, rfl, ⟨_, SqL.of upd_same⟩, ?_⟩
  generalize hxe : cutV (ns.map V.int) none (some (63 * if (!decide (V.int (stirF h 510 % 32) = V.int 7)) = true then 1 else 0)) = xs at hxs hxl
  have s4 := nw hp (.lst xs)
  generalize hH3 : upd (upd (upd H1 hs (.lst [])) op (.lst [])) p (.lst xs) = H3 at s4
  have hp3 : H3 p = some (.lst xs) := by rw [← hH3]; exact upd_same
  have hrp3 := s4 _ _ hrp2
  have hhs3 := s4 _ _ hhs2
  have hop3 : H3 op = some (.lst []) := s4 _ _ upd_same
  have npS : p ∉ [op, hs, rp] := fun m => by
    simp only [List.mem_cons, List.not_mem_nil, or_false] at m
    rcases m with e | e | e
    · rw [e, upd_same] at hp; cases hp
    · rw [e, hhs2] at hp; cases hp
    · rw [e, hrp2] at hp; cases hp
  have sb3 : Sb [op, hs, rp] H3 := (((Sb.nil _).cons hrp3).cons hhs3).cons hop3
  have ndB : ([op, hs, rp] : List Addr).Nodup := by simp [nho.symm, nro.symm, nrh.symm]
  have r4 := r3.mono s4
  have sH3 := sH.trans s4
  -- a hand begins
  have hand_step : ∀ (i : Nat) (rws cv : List V) (cls : List Hd) (H' : Hp), H' hs = some (.lst cv) → cls.length ≤ 7 → H' op = some (.lst []) → Sb [op, hs, rp] H' → Cm (hid H3 [op, hs, rp]) H' [op, hs, rp] rp h i rws cv cls → KI (clsK cls) rws.length i →
      ∀ Qv : VK, (∀ row H2, H2 rp = some (.lst rws) → (∃ t0 x0 ps0 fr, (upd H2 rp (.lst (rws ++ [.str row]))) hs = some (.lst (cv ++ [.ref t0])) ∧ Opn (upd H2 rp (.lst (rws ++ [.str row]))) [hs, rp] op t0 x0 ps0 6 fr ∧
        Cm (hid H3 [op, hs, rp]) (upd H2 rp (.lst (rws ++ [.str row]))) (muA fr ++ [op, hs, rp]) rp h (i + 1) (rws ++ [.str row]) cv cls ∧ KI (clsK cls ++ ksZ 6 fr) (rws ++ [V.str row]).length (i + 1) ∧
        (namesF h (hkF h) 8)[cls.length]? = some x0 ∧ ps0.length ≤ 3 ∧ (∀ x ∈ ps0, PyData.strOk x = true)) → Qv (.str row) H2) → sp_hand [.ref hs, .int h, .ref op] H' Qv E0 := by
    intro i rws cv cls H' e1 e2 e3 e4 C k Qv qv
    have el : cv.length = cls.length := by rw [RpA.length C.cvs, List.length_map]
    refine ⟨hs, h, op, [hs, rp], cv, rfl, e1, by omega, e3, ndB, by simp, e4, fun H2 row t0 x0 ps0 F im bs eh ex ep eo O ek => ?_⟩
    have hr2 := bs rp (by simp) nrh _ C.rp
    have mS : rp ∈ muA [F] ++ [op, hs, rp] := by simp
    refine qv row H2 hr2 ⟨t0, x0, ps0, [F], ?_, O.updB _ (by simp), ⟨?_, upd_same, ?_, C.ok, C.nm, ?_⟩, ?_, by rw [← el]; exact ex, ep, eo⟩
    · rw [upd_ne nrh.symm]; exact eh
    · rw [hid_upd _ mS]
      exact C.im.trans im
    · rw [hid_upd _ mS]
      exact RpA.mono im _ _ C.cvs
    · rw [List.length_append]
      have := C.len
      show _ + 1 ≤ _
      omega
    · rw [ek, List.append_nil, List.length_append]
      exact k.up
  let ClJ : Nat → List V → List V → List Hd → Hp → Prop := fun i rws cv cls H' => H' hs = some (.lst cv) ∧ cls.length ≤ 7 ∧ H' op = some (.lst []) ∧ Sb [op, hs, rp] H' ∧ Cm (hid H3 [op, hs, rp]) H' [op, hs, rp] rp h i rws cv cls ∧ KI (clsK cls) rws.length i ∧ (cls = [] ∨ 0 < rws.length)
  let OpJ : Nat → List V → List V → List Hd → Hp → Prop := fun i rws cv cls H' => ∃ t0 x0 ps0 lv fr, H' hs = some (.lst (cv ++ [.ref t0])) ∧ cls.length ≤ 7 ∧ Opn H' [hs, rp] op t0 x0 ps0 lv fr ∧ Cm (hid H3 [op, hs, rp]) H' (muA fr ++ [op, hs, rp]) rp h i rws cv cls ∧
    KI (clsK cls ++ ksZ lv fr) rws.length i ∧ (namesF h (hkF h) 8)[cls.length]? = some x0 ∧ ps0.length ≤ 3 ∧ (∀ x ∈ ps0, PyData.strOk x = true) ∧ 0 < rws.length
  let J : Nat → L2.St → Hp → Prop := fun i σ H' => ∃ rws cv cls o4, σ = [some (.ref a), some (.int h), some (.ref hs), some (.ref op), o4, some (.ref rp), some (.ref pt)] ∧ (ClJ i rws cv cls H' ∨ OpJ i rws cv cls H')
  have Jim : ∀ {i σ H'}, J i σ H' → Same (upd (fun _ => none) p (.lst xs)) H' := by
    rintro i σ H' ⟨rws, cv, cls, o4, _, hJ⟩ b o z
    have im : ∃ S, Same (hid H3 [op, hs, rp]) (hid H' S) := by
      rcases hJ with ⟨_, _, _, _, C, _⟩ | ⟨_, _, _, _, _, _, _, _, C, _⟩
      · exact ⟨_, C.im⟩
      · exact ⟨_, C.im⟩
    obtain ⟨S, im⟩ := im
    by_cases e : b = p
    · subst e
      rw [upd_same] at z
      cases z
      exact (of_hid (im b _ (by rw [hid_out npS]; exact hp3))).1
    · rw [upd_ne e] at z
      cases z
  refine for_src (Hb := upd (fun _ => none) p (.lst xs)) (Src.list (K := K) (SqL.of upd_same)) J ⟨rws0, [], [], none, rfl, .inl ⟨hhs3, by simp, hop3, sb3, ⟨Same.refl _, hrp3, .nil, (fun _ m => nomatch m), rfl, by omega⟩, ⟨List.Pairwise.nil, (fun _ m => nomatch m), Nat.le_refl _, (fun _ m => nomatch m)⟩, .inl rfl⟩⟩ (fun i σ H' j => Jim j) ?_ ?_
  · rintro i x σ H' hi hx ⟨rws, cv, cls, o4, rfl, hJ⟩
    obtain ⟨cell, rfl⟩ : ∃ c : Int, x = .int c := by
      obtain ⟨c, _, e⟩ := List.mem_map.mp (hxs x (List.mem_of_getElem? hx))
      exact ⟨c, e.symm⟩
    rcases hJ with ⟨e1, e2, e3, e4, C, k, kz⟩ | ⟨t0, x0, ps0, lv, fr, e1, e2, O, C, k, ex, ep, eo, epos⟩
    · refine ⟨.ref op, rfl, Nat.zero_le _, fun pe hpe => ⟨op, pe, _, rfl, rfl, SqL.of ((nw hpe _) _ _ e3), SqL.of upd_same, _, rfl, iteT ?_⟩⟩
      have se := nw hpe (.lst [])
      refine ⟨.ref rp, rfl, .inl ⟨rfl, _, SqL.of (se _ _ C.rp)⟩, .ref hs, rfl, .int h, rfl, .ref op, rfl, ?_⟩
      dsimp only [tNil, List.cons_append, List.nil_append]
      refine hand_step i rws cv cls _ (se _ _ e1) e2 (se _ _ e3) (e4.same se) ⟨C.im.trans (hid_same _ se), se _ _ C.rp, RpA.mono (hid_same _ se) _ _ C.cvs, C.ok, C.nm, C.len⟩ k _ fun row H2 hr2 ⟨t0, x0, ps0, fr, f1, f2, f3, f4, f5, f6, f7⟩ => ?_
      have cl := C.len
      refine ⟨rp, rws, _, rfl, rfl, hr2, lt5 (by omega), ?_⟩
      exact ⟨rws ++ [.str row], cv, cls, _, rfl, .inr ⟨t0, x0, ps0, 6, fr, f1, e2, f2, f3, f4, f5, f6, f7, by simp⟩⟩
    · have hopn := O.eop
      obtain ⟨F, rest, rfl⟩ := O.cons
      have hne : ((F :: rest).reverse.map fun F => V.ref F.en).isEmpty = false := by simp
      refine ⟨.ref op, rfl, Nat.zero_le _, fun pe hpe => ⟨op, pe, _, rfl, rfl, SqL.of ((nw hpe _) _ _ hopn), SqL.of upd_same, _, rfl, ?_⟩⟩
      rw [hne]
      refine iteF ?_
      have se := nw hpe (.lst [])
      have el : cv.length = cls.length := by rw [RpA.length C.cvs, List.length_map]
      refine ⟨.ref rp, rfl, .inl ⟨rfl, _, SqL.of (se _ _ C.rp)⟩, .int cell, rfl, .ref rp, rfl, rp, _, rfl, .inl (SqL.of (se _ _ C.rp)), _, _, rfl, rfl, .ref op, rfl, .ref hs, rfl, hs, _, rfl, .inl (SqL.of (se _ _ e1)), _, _, rfl, rfl, ?_⟩
      have cl := C.len
      have kf := k.few
      rw [List.length_append] at kf
      refine ⟨cell, ((rws.length : Nat) : Int) + 1, op, decide ((((cv ++ [V.ref t0]).length : Nat) : Int) < 8), [hs, rp], t0, x0, ps0, lv, F :: rest, rfl, O.same se, by omega, fun H2 row lv' fr' kp O2 hk => ?_, fun hm H2 row b kp g1 g2 g3 g4 g5 => ?_⟩
      · have hr2 := kp.bs rp (by simp) _ (se _ _ C.rp)
        have hs2 := kp.bs hs (by simp) _ (se _ _ e1)
        have im2 : Same (hid H' (muA (F :: rest) ++ [op, hs, rp])) (hid H2 (muA fr' ++ [op, hs, rp])) := (hid_same _ se).trans kp.im
        have mS : rp ∈ muA fr' ++ [op, hs, rp] := by simp
        refine ⟨rp, rws, _, rfl, rfl, hr2, lt5 (by omega), ?_⟩
        refine ⟨rws ++ [.str row], cv, cls, _, rfl, .inr ⟨t0, x0, ps0, lv', fr', ?_, e2, O2.updB _ (by simp), ⟨?_, upd_same, ?_, C.ok, C.nm, ?_⟩, ?_, ex, ep, eo, by simp⟩⟩
        · rw [upd_ne nrh.symm]; exact hs2
        · rw [hid_upd _ mS]; exact C.im.trans im2
        · rw [hid_upd _ mS]; exact RpA.mono im2 _ _ C.cvs
        · rw [List.length_append]; show _ + 1 ≤ _; omega
        · rw [List.length_append]
          rcases hk with hk | hk
          · rw [hk]; exact k.up
          · rw [hk, ← List.append_assoc]; exact k.snoc
      · have hr2 := kp.bs rp (by simp) _ (se _ _ C.rp)
        have hs2 := kp.bs hs (by simp) _ (se _ _ e1)
        have im2 : Same (hid H' (muA (F :: rest) ++ [op, hs, rp])) (hid H2 [op, hs, rp]) := (hid_same _ se).trans kp.im
        have mS : rp ∈ ([op, hs, rp] : List Addr) := by simp
        have hm8 : (((cv ++ [V.ref t0]).length : Nat) : Int) < 8 := of_decide_eq_true hm
        rw [List.length_append] at hm8
        have hm8 : ((cv.length + 1 : Nat) : Int) < 8 := hm8
        refine ⟨rp, rws, _, rfl, rfl, hr2, lt5 (by omega), ?_⟩
        refine ⟨rws ++ [.str row], cv ++ [.ref t0], cls ++ [⟨x0, ps0, b⟩], _, rfl, .inl ⟨?_, ?_, ?_, g2.upd _ _, ⟨?_, upd_same, ?_, fun c m => ?_, ?_, ?_⟩, ?_, .inr (by simp)⟩⟩
        · rw [upd_ne nrh.symm]; exact hs2
        · rw [List.length_append]; show _ + 1 ≤ _; omega
        · rw [upd_ne nro.symm]; exact g1
        · rw [hid_upd _ mS]; exact C.im.trans im2
        · rw [hid_upd _ mS, List.map_append]
          exact (RpA.mono im2 _ _ C.cvs).append (.one g3)
        · rcases List.mem_append.mp m with m | m
          · exact C.ok c m
          · rw [List.mem_singleton.mp m]; exact ⟨ep, eo, g4⟩
        · rw [List.map_append, C.nm, List.length_append]
          show _ ++ [x0] = (namesF h (hkF h) 8).take (cls.length + 1)
          rw [List.take_add_one, ex]
          rfl
        · rw [List.length_append]; show _ + 1 ≤ _; omega
        · rw [clsK_snoc, List.length_append]
          show KI (clsK cls ++ ksB 6 b) _ _
          rw [g5]
          exact k.up
  · rintro σ H' hJ
    refine ⟨fun σ H' => ∃ i, i ≤ 63 ∧ J i σ H', ?_, ?_⟩
    · obtain ⟨rws, cv, cls, o4, rfl, hJ⟩ := hJ
      have hrws : H' rp = some (.lst rws) := by
        rcases hJ with ⟨_, _, _, _, C, _⟩ | ⟨_, _, _, _, _, _, _, _, C, _⟩
        · exact C.rp
        · exact C.rp
      refine ⟨.ref rp, rfl, Nat.zero_le _, fun pe hpe => ⟨rp, pe, rws, rfl, rfl, SqL.of ((nw hpe _) _ _ hrws), SqL.of upd_same, _, rfl, ?_⟩⟩
      have se := nw hpe (.lst [])
      rcases hJ with ⟨e1, e2, e3, e4, C, k, kz⟩ | ⟨t0, x0, ps0, lv, fr, e1, e2, O, C, k, ex, ep, eo, epos⟩
      · have C' : Cm (hid H3 [op, hs, rp]) _ [op, hs, rp] rp h xs.length rws cv cls := ⟨C.im.trans (hid_same _ se), se _ _ C.rp, RpA.mono (hid_same _ se) _ _ C.cvs, C.ok, C.nm, C.len⟩
        refine ite2 (fun em => ?_) (fun em => ?_)
        · have er : rws = [] := List.isEmpty_iff.mp em
          subst er
          refine ⟨.ref rp, rfl, .inl ⟨rfl, _, SqL.of (se _ _ C.rp)⟩, .ref hs, rfl, .int h, rfl, .ref op, rfl, ?_⟩
          have ec : cls = [] := by
            rcases kz with z | z
            · exact z
            · exact absurd z (Nat.lt_irrefl _)
          subst ec
          dsimp only [tNil, List.cons_append, List.nil_append]
          refine hand_step 0 [] cv [] _ (se _ _ e1) (by decide) (se _ _ e3) (e4.same se) ⟨C'.im, C'.rp, C'.cvs, C'.ok, C'.nm, Nat.zero_le _⟩ ⟨List.Pairwise.nil, (fun _ m => nomatch m), Nat.le_refl _, (fun _ m => nomatch m)⟩ _ fun row H2 hr2 ⟨t0, x0, ps0, fr, f1, f2, f3, f4, f5, f6, f7⟩ => ?_
          refine ⟨rp, [], _, rfl, rfl, hr2, lt5 (by decide), ?_⟩
          exact ⟨1, by decide, [.str row], cv, [], _, rfl, .inr ⟨t0, x0, ps0, 6, fr, f1, by decide, f2, f3, f4, f5, f6, f7, Nat.one_pos⟩⟩
        · exact ⟨xs.length, by omega, rws, cv, cls, _, rfl, .inl ⟨se _ _ e1, e2, se _ _ e3, e4.same se, C', k, kz⟩⟩
      · have er : rws.isEmpty = false := by cases rws with
          | nil => exact absurd epos (Nat.lt_irrefl _)
          | cons _ _ => rfl
        rw [er]
        exact iteF ⟨xs.length, by omega, rws, cv, cls, _, rfl, .inr ⟨t0, x0, ps0, lv, fr, se _ _ e1, e2, O.same se, ⟨C.im.trans (hid_same _ se), se _ _ C.rp, RpA.mono (hid_same _ se) _ _ C.cvs, C.ok, C.nm, C.len⟩, k, ex, ep, eo, epos⟩⟩
    · rintro σ' H' ⟨i, hi, rws, cv, cls, o4, rfl, hJ⟩
      -- the end
      have fin : ∀ (rws cv : List V) (hds : List Hd) (opn : List V), Same (hid H3 [op, hs, rp]) H' → H' rp = some (.lst rws) → rws.length ≤ 100 → H' op = some (.lst opn) → opn.length ≤ 10 → Rp H' (.ref hs) (.list (hds.map Hd.toD)) → HandsOk h hds →
          (fun D σ H => tSeq (tAsg (tOp rCat (tVar 5) (tOp rRep (tLst (tCons (tC (.str "end")) tNil)) (tCB (rLenK K) (tCons (tVar 3) tNil)))) (gName 5)) (tRet (tLst (tCons (tVar 5) (tCons (tOp (rCatT K) (tVar 6) (tTup (tCons (tVar 2) tNil))) tNil)))) D σ H)
            { nx := fun _ H' => Q .non H', rt := Q } [some (.ref a), some (.int h), some (.ref hs), some (.ref op), o4, some (.ref rp), some (.ref pt)] H' := by
        intro rws cv hds opn im erp er eop eo rh hok
        refine ⟨.ref rp, rfl, small5 (by simp), fun p1 hp1 => ⟨.ref op, rfl, op, opn, rfl, .inl (SqL.of ((nw hp1 _) _ _ eop)), p1, _, _, rfl, rfl, upd_same, by omega, by omega, ?_, fun p2 hp2 => ?_⟩⟩
        · show 1 * ((opn.length : Nat) : Int).toNat ≤ sizeLine
          exact small5 (by omega)
        have sp1 := nw hp1 (.lst [V.str "end"])
        have sp2 := nw hp2 (.lst (List.replicate ((opn.length : Nat) : Int).toNat [V.str "end"]).flatten)
        refine ⟨rp, p2, _, _, rfl, rfl, (sp1.trans sp2) _ _ erp, upd_same, small5 ?_, fun p3 hp3 => ?_⟩
        · have : ((List.replicate ((opn.length : Nat) : Int).toNat [V.str "end"]).flatten).length = opn.length := by simp
          rw [this]
          omega
        have sp3 := nw hp3 (.lst (rws ++ (List.replicate ((opn.length : Nat) : Int).toNat [V.str "end"]).flatten))
        have s123 := (sp1.trans sp2).trans sp3
        have rpt : Rp H' (.ref pt) (.tuple [.list (gd 0), .list (gd 1), .list (gd 2)]) := Rp.mono im _ _ r4
        cases rpt with
        | tup ept rpt =>
          rename_i ptv
          refine ⟨.ref p3, rfl, .ref pt, rfl, .ref hs, rfl, small5 (by simp), fun p4 hp4 => ?_⟩
          have sp4 := nw hp4 (.tup [V.ref hs])
          have lp := RpA.length rpt
          refine ⟨pt, p4, _, _, rfl, rfl, SqT.of (sp4 _ _ (s123 _ _ ept)), SqT.of upd_same, ?_, small5 ?_, (fun z => nomatch z), fun _ p5 hp5 => ?_⟩
          · intro z
            rw [z] at lp
            cases lp
          · rw [lp]; show 3 + 1 ≤ 100000; decide
          have sp5 := nw hp5 (.tup (ptv ++ [V.ref hs]))
          refine ⟨small5 (by simp), fun p6 hp6 => ?_⟩
          have sp6 := nw hp6 (.lst [V.ref p3, V.ref p5])
          have sall := s123.trans (sp4.trans (sp5.trans sp6))
          have sHH : Same H H' := fun b o z => by
            have nb : b ∉ [op, hs, rp] := fun m => by
              simp only [List.mem_cons, List.not_mem_nil, or_false] at m
              rcases m with e | e | e
              · rw [e, fop] at z; cases z
              · rw [e, fhs] at z; cases z
              · rw [e, nrp] at z; cases z
            exact im b o (by rw [hid_out nb]; exact sH3 b o z)
          refine q p6 (.ref p3) (.ref p5) _ gd hds (sHH.trans sall) upd_same (.tup (sp6 _ _ upd_same) ?_) gok hok
          exact (RpA.mono sall _ _ rpt).append (.one (Rp.mono sall _ _ rh))
      have un : ∀ S : List Addr, Same (hid H' S) H' := fun S b o z => (of_hid z).1
      rcases hJ with ⟨e1, e2, e3, e4, C, k, kz⟩ | ⟨t0, x0, ps0, lv, fr, e1, e2, O, C, k, ex, ep, eo, epos⟩
      · have cl := C.len
        have kf := k.few
        exact fin rws cv cls [] (C.im.trans (un _)) C.rp (by omega) e3 (Nat.zero_le _) (.lst e1 (RpA.mono (un _) _ _ C.cvs)) ⟨by omega, C.nm, C.ok, k.lt.imp (fun h => Int.ne_of_lt h), Nat.le_trans kf hi, k.lo⟩
      · have cl := C.len
        have kf := k.few
        have zl := O.zs.len
        have lo := O.lo
        obtain ⟨zd, zv⟩ := O.zs.close (G' := H') [] (un _) (fun a _ o z => z) .nil (fun _ m => nomatch m)
        have zk := O.zs.ks []
        rw [ksB_nil, List.append_nil] at zk
        have ec : clsK (cls ++ [⟨x0, ps0, closeZ fr []⟩]) = clsK cls ++ ksZ lv fr := by
          rw [clsK_snoc]
          show _ ++ ksB 6 (closeZ fr []) = _
          rw [zk]
        refine fin rws (cv ++ [.ref t0]) (cls ++ [⟨x0, ps0, closeZ fr []⟩]) _ (C.im.trans (un _)) C.rp (by omega) O.eop (by rw [List.length_map, List.length_reverse]; omega) (.lst e1 ?_) ⟨?_, ?_, fun c m => ?_, ?_, ?_, ?_⟩
        · rw [List.map_append]
          exact (RpA.mono (un _) _ _ C.cvs).append (.one zd)
        · rw [List.length_append]; show _ + 1 ≤ _; omega
        · rw [List.map_append, C.nm, List.length_append]
          show _ ++ [x0] = (namesF h (hkF h) 8).take (cls.length + 1)
          rw [List.take_add_one, ex]
          rfl
        · rcases List.mem_append.mp m with m | m
          · exact C.ok c m
          · rw [List.mem_singleton.mp m]; exact ⟨ep, eo, zv⟩
        · show (clsK _).Nodup
          rw [ec]
          exact k.lt.imp (fun h => Int.ne_of_lt h)
        · show (clsK _).length ≤ 63
          rw [ec]
          exact Nat.le_trans kf hi
        · show ∀ k ∈ clsK _, 0 ≤ k
          rw [ec]
          exact k.lo
end
end K14
/-! ## K14P -/
namespace K14
open PySem PySem.Spec PyProof.Rows L2 KR TL
/-! ### programs as data -/
def nmD : PyData → Str
  | .tuple (.str x :: _) => x
  | _ => ""
def Fd (d : PyData) : Prop := ∃ x r, d = .tuple (.str x :: r)
structure Pg where
  g : Nat → List PyData
  hds : List Hd
def Pg.part (P : Pg) : Nat → List PyData
  | 0 => P.g 0 | 1 => P.g 1 | 2 => P.g 2 | _ => P.hds.map Hd.toD
def Pg.toD (P : Pg) : PyData := .tuple [.list (P.part 0), .list (P.part 1), .list (P.part 2), .list (P.part 3)]
def Pg.nm (P : Pg) (i : Nat) : List Str := (P.part i).map nmD
structure Pg.Wf (P : Pg) : Prop where
  fd : ∀ i, i < 4 → ∀ d ∈ P.part i, Fd d
  few : ∀ i, i < 4 → (P.part i).length ≤ 8
  ok : ∀ c ∈ P.hds, c.Ok
  str : ∀ i, i < 4 → ∀ x ∈ P.nm i, PyData.strOk x = true
  nd : (P.hds.map Hd.x).Nodup
  gok : ∀ i, i < 3 → ∀ d ∈ P.g i, okd 4 d
theorem Pg.nm3 (P : Pg) : P.nm 3 = P.hds.map Hd.x := by
  show (P.hds.map Hd.toD).map nmD = _
  rw [List.map_map]
  rfl
theorem Pg.at4 (P : Pg) {i : Nat} (h : i < 4) : [PyData.list (P.part 0), .list (P.part 1), .list (P.part 2), .list (P.part 3)][i]? = some (.list (P.part i)) := by
  match i, h with
  | 0, _ => rfl
  | 1, _ => rfl
  | 2, _ => rfl
  | 3, _ => rfl
theorem first_at {H : Hp} {S : List Addr} {vs : List V} {ds : List PyData} {i : Nat} {x : V} {dd : PyData} (ra : RA H S vs ds) (fd : ∀ d ∈ ds, Fd d) (hx : vs[i]? = some x) (hd : ((ds.map nmD).map PyData.str)[i]? = some dd) :
    ∃ a y xs, x = .ref a ∧ H a = some (.tup (.str y :: xs)) ∧ dd = .str y := by
  obtain ⟨d1, hd1, r'⟩ := ra.getV hx
  obtain ⟨y, r, rfl⟩ := fd d1 (List.mem_of_getElem? hd1)
  rw [List.map_map, List.getElem?_map, hd1] at hd
  obtain ⟨a, xs, rfl, ha, _, ra'⟩ := r'.tuple
  obtain ⟨y', xs, rfl, ry, _⟩ := ra'.uncons
  have := ry.str_inv
  subst this
  exact ⟨a, y, xs, rfl, ha, (Option.some.inj hd).symm⟩
def menuF (P : Pg) (i : Nat) : List Str := P.nm i ++ (if (P.nm i).isEmpty = true then [("none" : Str)] else [])
section
variable {P : Program} {w : World} {K : PySem.W.Frag} {mg : Str → Option Value} {base : Heap}
theorem Pg.nm_len {P : Pg} (wf : P.Wf) {i : Nat} (h : i < 4) : (P.nm i).length ≤ 8 := by
  unfold Pg.nm
  rw [List.length_map]
  exact wf.few i h
/-- a program's part in the heap -/
theorem part_at {H : Hp} {S : List Addr} {u : V} {D : Pg} (r : R H S u D.toD) {i : Nat} (h : i < 4) : ∃ a xs b ys, u = .ref a ∧ H a = some (.tup xs) ∧ xs.length = 4 ∧ xs[i]? = some (.ref b) ∧ H b = some (.lst ys) ∧ b ∉ S ∧ RA H S ys (D.part i) := by
  obtain ⟨a, xs, rfl, ha, _, ra⟩ := r.tuple
  obtain ⟨v, hv, rv⟩ := ra.get (D.at4 h)
  obtain ⟨b, ys, rfl, hb, nb, rb⟩ := rv.list
  exact ⟨a, xs, b, ys, rfl, ha, ra.length, hv, hb, nb, rb⟩
def sp_menu : Sp := fun vs H Q _ => ∃ (u : V) (i : Nat) (D : Pg) (S : List Addr), vs = [u, .int i, .bl false] ∧ i < 4 ∧ D.Wf ∧ Sb S H ∧ R H S u D.toD ∧
  ∀ p H', Same H H' → H' p = some (.lst ((menuF D i).map V.str)) → Q (.ref p) H'
theorem ok_menu (d : Df K mg "_law_menu" s_menu pp_menu) (T : Tx mg) : Ok P w K mg base 1 "_law_menu" pp_menu sp_menu := by
  refine d.mk sc_menu (fun vs H Q E h => ?_) (fun f cdv A outer s H vs Q E hr h => ?_)
  · obtain ⟨u, i, D, S, rfl, _⟩ := h; rfl
  obtain ⟨u, i, D, S, rfl, hi, wf, b, r, q⟩ := h
  refine ⟨_, (pss_cons (ps_setLc (i := 3) (own := [("one", 5)]) (g := gName 5) (tt := tYes) rfl sc_menu.nd rfl rfl (sw_true rfl rfl rfl (by decide +kernel)) (pi_listK K rfl (pe_ix (ix_tupK K rfl) (pv 0) (pv 1) (fun _ _ => rfl))) (blkOk_by (own := [("one", 5)]) (N := N_menu) (sc := defScope s_menu) (by decide +kernel)) (fun _ _ _ _ _ => (pg_name (i := 5) sc_menu.nd rfl (by first | exact .inl rfl | exact .inr rfl))) (fun _ _ _ _ _ => pts_nil) (fun _ _ _ _ _ => (pe_ix (ix_tupK K rfl) (pv 5) pe_int (fun _ _ => rfl))))
      (pss_cons (ps_if (pt_val (pv 2)) pss_never pss_nil)
      (pss_one (ps_ret (pe_op op_cat (pv 3) (pe_op op_rep (pe_lst (pa_cons pe_str pa_nil)) (pe_callTy call_int1 (by rfl) T.int (by decide +kernel) (pa_cons (pe_cmpR (op_eqNilK K rfl hr.units) (pv 3) (pe_lst pa_nil) (nomark _)) pa_nil)))))))), ?_⟩
  obtain ⟨a, xs, pb, ys, rfl, ha, la, hx, hb, _, rb⟩ := part_at r hi
  refine ⟨.ref a, rfl, .int i, rfl, a, xs, _, .ref pb, rfl, rfl, SqT.of ha, at_of rfl hx, pb, rfl, ⟨ys, SqL.of hb⟩, fun D1 nD => ?_⟩
  have l8 := wf.few i hi
  refine lc_data (S := S) (ds := ((D.part i).map nmD).map PyData.str) (Src.list (SqL.of hb)) nD b (by rw [List.length_map, List.length_map, rb.length]) (by rw [rb.length]; omega) (fun j x dd H1 hx hd sm sb Q2 q2 => ?_) (fun H1 s1 r1 => ?_) (fun _ _ _ _ h p => h _ _ p)
  · obtain ⟨c, y, zs, rfl, hc, rfl⟩ := first_at rb (wf.fd i hi) hx hd
    exact ⟨rfl, .ref c, rfl, c, _, _, .str y, rfl, rfl, SqT.of (sm _ _ hc), at_of (j := 0) rfl rfl, q2 _ _ (Same.refl _) (.rstr _)⟩
  obtain ⟨a1, xs1, e1, h1, _, ra1⟩ := r1.list
  cases e1
  have ex := ra1.of_strs
  subst ex
  have ln : ((D.nm i).map V.str).length ≤ 8 := by rw [List.length_map]; exact Pg.nm_len wf hi
  refine ⟨_, rfl, _, rfl, iteF ?_⟩
  refine ⟨.ref D1, rfl, small5 (by simp), fun p1 hp1 => ⟨.ref D1, rfl, Nat.zero_le _, fun pe hpe => ?_⟩⟩
  have t1 := nw hp1 (.lst [V.str "none"])
  have t2 := nw hpe (.lst [])
  have hD := t2 _ _ (t1 _ _ h1)
  refine ⟨D1, pe, _, rfl, rfl, SqL.of hD, SqL.of upd_same, .inr ⟨_, rfl, p1, _, _, rfl, rfl, t2 _ _ upd_same, ?_⟩⟩
  have em : (List.map V.str (List.map nmD (D.part i))).isEmpty = (D.nm i).isEmpty := by
    show _ = (List.map nmD (D.part i)).isEmpty
    cases List.map nmD (D.part i) <;> rfl
  have em2 : menuF D i = D.nm i ++ (if (D.nm i).isEmpty = true then [("none" : Str)] else []) := rfl
  rw [em]
  cases hz : (D.nm i).isEmpty with
  | true =>
    rw [hz] at em2
    refine ⟨by decide, by decide, by show 1 * 1 ≤ sizeLine; exact small5 (by decide), fun p2 hp2 => ⟨D1, p2, _, _, rfl, rfl, (nw hp2 _) _ _ hD, upd_same, small5 ?_, fun p3 hp3 => ?_⟩⟩
    · show ((D.nm i).map V.str).length + 1 ≤ 100000
      omega
    · refine q p3 _ (s1.trans (t1.trans (t2.trans ((nw hp2 _).trans (nw hp3 _))))) (upd_same.trans ?_)
      rw [em2, List.map_append]
      rfl
  | false =>
    rw [hz] at em2
    refine ⟨by decide, by decide, by show 1 * 0 ≤ sizeLine; exact Nat.zero_le _, fun p2 hp2 => ⟨D1, p2, _, _, rfl, rfl, (nw hp2 _) _ _ hD, upd_same, small5 ?_, fun p3 hp3 => ?_⟩⟩
    · show ((D.nm i).map V.str).length + 0 ≤ 100000
      omega
    · refine q p3 _ (s1.trans (t1.trans (t2.trans ((nw hp2 _).trans (nw hp3 _))))) (upd_same.trans ?_)
      rw [em2, List.map_append]
      rfl
end
end K14
/-! ## K14Q -/
namespace K14
open PySem PySem.Spec PyProof.Rows L2 KR TL
/-! ### a statement's kind, name, expressions -/
def kindS (w : Str) : Option Nat := if w = "take" ∨ w = "give" then some 0 else if w = "put" ∨ w = "get" then some 1 else if w = "draw" then some 2 else if w = "start" then some 3 else none
def strAt (s : Stm) (i : Nat) : Str := match s.fs[i]? with
  | some (PyData.str x) => x
  | _ => ""
def nameS (s : Stm) : Str := if s.w = "draw" then strAt s 1 else strAt s 0
def esS (s : Stm) : List PyData := match s.fs[1]? with
  | some (PyData.list xs) => xs
  | _ => []
def Pg.manyL (D : Pg) (x : Str) : List Nat := (D.hds.filter fun c => decide (c.x = x)).map fun c => c.ps.length
def Pg.many (D : Pg) (x : Str) : Nat := (D.manyL x ++ [0]).headD 0
def Nmd (D : Pg) (s : Stm) : Prop := ∀ i, kindS s.w = some i → (nameS s ∈ D.nm i ∨ (D.nm i = [] ∧ nameS s = "none")) ∧ (i = 3 → (esS s).length = D.many (nameS s))
def cutG {α : Type} (xs : List α) (lo hi : Option Int) : List α := (xs.drop (HT.sIx xs.length 0 lo)).take (HT.sIx xs.length xs.length hi - HT.sIx xs.length 0 lo)
theorem RA.cut {H : Hp} {S : List Addr} {vs : List V} {ds : List PyData} {lo hi : Option Int} (h : RA H S vs ds) : RA H S (cutV vs lo hi) (cutG ds lo hi) := by
  unfold cutV cutG
  rw [h.length]
  exact (h.drop _).take _
theorem cutG_hi {α : Type} (xs : List α) (n : Nat) : cutG xs none (some (n : Int)) = xs.take n := by
  unfold cutG
  rw [HT.sIx_none, HT.sIx_nat, List.drop_zero, Nat.sub_zero, List.take_eq_take_iff]
  omega
theorem cutG_lo {α : Type} (xs : List α) (n : Nat) : cutG xs (some (n : Int)) none = xs.drop n := by
  unfold cutG
  rw [HT.sIx_none, HT.sIx_nat, List.take_of_length_le (by rw [List.length_drop]; omega)]
  by_cases h : n ≤ xs.length
  · rw [Nat.min_eq_left h]
  · rw [Nat.min_eq_right (by omega), List.drop_length, List.drop_of_length_le (by omega)]
def plK : List (Key × V) := [(.inr "take", .int 0), (.inr "give", .int 0), (.inr "put", .int 1), (.inr "get", .int 1), (.inr "draw", .int 2), (.inr "start", .int 3)]
theorem pl_at (w : Str) : valV (mergeK [] plK) (.inr w) = (kindS w).map fun i => V.int i := by
  show valV (putK (putK (putK (putK (putK (putK ([] : List (Key × V)) (Sum.inr "take") (.int 0)) (Sum.inr "give") (.int 0)) (Sum.inr "put") (.int 1)) (Sum.inr "get") (.int 1)) (Sum.inr "draw") (.int 2)) (Sum.inr "start") (.int 3)) _ = _
  simp only [valV_put, valV_nil, Sum.inr.injEq]
  unfold kindS
  by_cases h1 : w = "start"
  · subst h1; rfl
  by_cases h2 : w = "draw"
  · subst h2; rfl
  by_cases h3 : w = "get"
  · subst h3; rfl
  by_cases h4 : w = "put"
  · subst h4; rfl
  by_cases h5 : w = "give"
  · subst h5; rfl
  by_cases h6 : w = "take"
  · subst h6; rfl
  simp [h1, h2, h3, h4, h5, h6]
theorem kind_lt {w : Str} {i : Nat} (h : kindS w = some i) : i < 4 := by
  unfold kindS at h
  split at h
  · cases h; decide
  split at h
  · cases h; decide
  split at h
  · cases h; decide
  split at h
  · cases h; decide
  · cases h
theorem kind_start {w : Str} (h : kindS w = some 3) : w = "start" := by
  unfold kindS at h
  split at h
  · cases h
  split at h
  · cases h
  split at h
  · cases h
  split at h
  · assumption
  · cases h
theorem menu_or {D : Pg} {i : Nat} {x : Str} (h : x ∈ menuF D i) : x ∈ D.nm i ∨ (D.nm i = [] ∧ x = "none") := by
  unfold menuF at h
  rcases List.mem_append.mp h with m | m
  · exact .inl m
  · cases hz : (D.nm i).isEmpty with
    | true =>
      rw [hz] at m
      exact .inr ⟨List.isEmpty_iff.mp hz, List.mem_singleton.mp m⟩
    | false =>
      rw [hz] at m
      exact nomatch m
theorem menu_pos (D : Pg) (i : Nat) : 0 < (menuF D i).length := by
  unfold menuF
  cases hz : (D.nm i).isEmpty with
  | true => rw [List.length_append]; simp
  | false =>
    have : D.nm i ≠ [] := fun e => by rw [e] at hz; cases hz
    have := List.length_pos_iff.mpr this
    rw [List.length_append]; omega
theorem menu_ok {D : Pg} (wf : D.Wf) {i : Nat} (hi : i < 4) {x : Str} (h : x ∈ menuF D i) : PyData.strOk x = true := by
  rcases menu_or h with m | ⟨_, rfl⟩
  · exact wf.str i hi x m
  · decide +kernel
theorem nmd_of {D : Pg} {s : Stm} {i : Nat} {x : Str} (hk : kindS s.w = some i) (hx : x ∈ D.nm i ∨ (D.nm i = [] ∧ x = "none")) (hn : nameS s = x) (hl : i = 3 → (esS s).length = D.many x) : Nmd D s := fun j hj => by
  have e : j = i := Option.some.inj (hj.symm.trans hk)
  subst e
  rw [hn]
  exact ⟨hx, hl⟩
theorem stm_at {H : Hp} {S : List Addr} {v : V} {n : Nat} {s : Stm} (r : R H S v (Stm.toD (n + 1) s)) : ∃ a xs, v = .ref a ∧ H a = some (.tup (.str s.w :: .int s.k :: xs)) ∧ a ∉ S ∧ RA H S xs (s.fs ++ s.bs.map fun b => .list (b.map (Stm.toD n))) := by
  obtain ⟨a, xs, rfl, ha, na, ra⟩ := r.tuple
  obtain ⟨w0, xs1, rfl, rw0, ra1⟩ := ra.uncons
  obtain ⟨k0, xs2, rfl, rk0, ra2⟩ := ra1.uncons
  have e1 := rw0.str_inv
  have e2 := rk0.int_inv
  subst e1 e2
  exact ⟨a, xs2, rfl, ha, na, ra2⟩
theorem RA.of_nats {H : Hp} {S : List Addr} : ∀ {vs : List V} (l : List Nat), RA H S vs (l.map fun n : Nat => PyData.int (n : Int)) → vs = l.map fun n : Nat => V.int (n : Int)
  | _, [], h => h.nil_inv
  | _, n :: r, h => by
    obtain ⟨v, vs, rfl, r1, r2⟩ := RA.uncons h
    have e := r1.int_inv
    subst e
    rw [RA.of_nats r r2]
    rfl
theorem hand_at {H : Hp} {S : List Addr} {vs : List V} {hds : List Hd} {j : Nat} {y : V} (ra : RA H S vs (hds.map Hd.toD)) (hx : vs[j]? = some y) :
    ∃ (c : Hd) (a pn pb : Addr), hds[j]? = some c ∧ y = .ref a ∧ H a = some (.tup [.str c.x, .ref pn, .ref pb]) ∧ H pn = some (.lst (c.ps.map V.str)) ∧ R H S (.ref pb) (.list (c.b.map (Stm.toD 6))) ∧ R H S (.ref pn) (.list (c.ps.map PyData.str)) := by
  obtain ⟨d1, hd1, r'⟩ := ra.getV hx
  obtain ⟨c, hc, rfl⟩ := map_get hd1
  obtain ⟨a, xs, rfl, ha, _, ra1⟩ := r'.tuple
  obtain ⟨v1, xs1, rfl, r1, ra2⟩ := ra1.uncons
  obtain ⟨v2, xs2, rfl, r2, ra3⟩ := ra2.uncons
  obtain ⟨v3, xs3, rfl, r3, ra4⟩ := ra3.uncons
  have e1 := r1.str_inv
  have e4 := ra4.nil_inv
  subst e1 e4
  obtain ⟨pn, ns, rfl, hn, _, rn⟩ := id r2.list
  have e2 := rn.of_strs
  subst e2
  obtain ⟨pb, bs, rfl, hb, _, rb⟩ := id r3.list
  exact ⟨c, a, pn, pb, hc, rfl, ha, hn, r3, r2⟩
theorem many_le {D : Pg} (wf : D.Wf) (x : Str) : D.many x ≤ 3 := by
  have h : ∀ n ∈ D.manyL x, n ≤ 3 := fun n m => by
    unfold Pg.manyL at m
    obtain ⟨c, hc, rfl⟩ := List.mem_map.mp m
    exact (wf.ok c (List.mem_filter.mp hc).1).few
  unfold Pg.many
  revert h
  cases D.manyL x with
  | nil => exact fun _ => Nat.zero_le _
  | cons n r => exact fun h => h n (List.mem_cons_self ..)
theorem many_at (D : Pg) (x : Str) : (((D.manyL x).map fun n : Nat => V.int (n : Int)) ++ [V.int 0])[0]? = some (.int (D.many x : Nat)) := by
  unfold Pg.many
  cases D.manyL x <;> rfl
section
variable {P : Program} {w : World} {K : PySem.W.Frag} {mg : Str → Option Value} {base : Heap}
def sp_stmt : Sp := fun vs H Q _ => ∃ (v u : V) (h : Int) (n : Nat) (s : Stm) (D : Pg) (S : List Addr), vs = [v, u, .int h, .bl false] ∧ D.Wf ∧ Sb S H ∧ R H S u D.toD ∧ R H S v (s.toD (n + 1)) ∧ Form s ∧ s.bs = [] ∧ 0 ≤ s.k ∧
  ∀ v' H' s', Same H H' → R H' S v' (s'.toD (n + 1)) → s'.k = s.k → Form s' → s'.bs = [] → Nmd D s' → Q v' H'
theorem ok_stmt (d : Df K mg "_law_statement" s_stmt pp_stmt) (T : Tx mg) (g_stir : Ok P w K mg base 1 "_law_stir" pp_stir sp_stir) (g_menu : Ok P w K mg base 1 "_law_menu" pp_menu sp_menu) : Ok P w K mg base 2 "_law_statement" pp_stmt sp_stmt := by
  refine d.mk sc_stmt (fun vs H Q E h => ?_) (fun f cdv A outer s H vs Q E hr h => ?_)
  · obtain ⟨v, u, h, n, s, D, S, rfl, _⟩ := h; rfl
  obtain ⟨v, u, h, n, st, D, S, rfl, wf, b, ru, rv, fo, hbs, hk, q⟩ := h
  refine ⟨_, (pss_cons (ps_set (i := 4) sc_stmt.nd rfl (by first | exact .inl rfl | exact .inr rfl) (pcall g_stir hr (by omega) rfl (pa_cons (pv 2) (pa_cons (pe_op op_add pe_int (pe_ix (ix_tupK K rfl) (pv 0) pe_int (fun _ _ => rfl))) pa_nil))))
      (pss_cons (ps_set (i := 5) sc_stmt.nd rfl (by first | exact .inl rfl | exact .inr rfl) (pe_disp (pps_cons pe_str pe_int (pps_cons pe_str pe_int (pps_cons pe_str pe_int (pps_cons pe_str pe_int (pps_cons pe_str pe_int (pps_cons pe_str pe_int pps_nil)))))) (by rfl) (by rfl) (fun z => by cases z) (by decide)))
      (pss_cons (ps_if (pt_cmp (pc_dnotin (hu_of hr) (pe_ix (ix_tupK K rfl) (pv 0) pe_int (fun _ _ => rfl)) (pv 5)) (by rfl)) (pss_one (ps_ret (pv 0))) pss_nil)
      (pss_cons (ps_set (i := 6) sc_stmt.nd rfl (by first | exact .inl rfl | exact .inr rfl) (pe_and (pv 3) (pe_one (pe_cmpR op_eq (pe_op op_mod (pv 4) pe_int) pe_int (nomark _)))))
      (pss_cons (ps_set (i := 7) sc_stmt.nd rfl (by first | exact .inl rfl | exact .inr rfl) (pcall g_menu hr (by omega) rfl (pa_cons (pv 1) (pa_cons (pe_dget (hu_of hr) (pv 5) (pe_ix (ix_tupK K rfl) (pv 0) pe_int (fun _ _ => rfl)) (fun _ _ => rfl)) (pa_cons (pv 6) pa_nil)))))
      (pss_cons (ps_set (i := 8) sc_stmt.nd rfl (by first | exact .inl rfl | exact .inr rfl) (pe_ix (ix_listK K rfl) (pv 7) (pe_op op_mod (pe_op op_fdiv (pv 4) pe_int) (pe_callB (call_lenK K rfl) (by rfl) T.len PySem.boot_len (pa_cons (pv 7) pa_nil))) (fun _ _ => rfl)))
      (pss_cons (ps_if (pt_cmpR op_eq (pe_ix (ix_tupK K rfl) (pv 0) pe_int (fun _ _ => rfl)) pe_str (nomark _)) (pss_one (ps_ret (pe_tup (pa_cons (pe_ix (ix_tupK K rfl) (pv 0) pe_int (fun _ _ => rfl)) (pa_cons (pe_ix (ix_tupK K rfl) (pv 0) pe_int (fun _ _ => rfl)) (pa_cons (pe_ix (ix_tupK K rfl) (pv 0) pe_int (fun _ _ => rfl)) (pa_cons (pv 8) pa_nil))))))) pss_nil)
      (pss_cons (ps_if (pt_cmpR op_ne (pe_ix (ix_tupK K rfl) (pv 0) pe_int (fun _ _ => rfl)) pe_str (nomark _)) (pss_one (ps_ret (pe_tup (pa_cons (pe_ix (ix_tupK K rfl) (pv 0) pe_int (fun _ _ => rfl)) (pa_cons (pe_ix (ix_tupK K rfl) (pv 0) pe_int (fun _ _ => rfl)) (pa_cons (pv 8) (pa_cons (pe_ix (ix_tupK K rfl) (pv 0) pe_int (fun _ _ => rfl)) pa_nil))))))) pss_nil)
      (pss_cons (ps_set (i := 9) sc_stmt.nd rfl (by first | exact .inl rfl | exact .inr rfl) (pe_op op_cat (pe_lc (own := [("hand", 11), ("names", 12), ("body", 13)]) rfl sc_stmt.nd (pi_listK K rfl (pe_ix (ix_tupK K rfl) (pv 1) pe_int (fun _ _ => rfl))) (blkOk_by (own := [("hand", 11), ("names", 12), ("body", 13)]) (N := N_stmt) (sc := defScope s_stmt) (by decide +kernel)) (fun _ _ _ _ _ => (pg_tupK (n := 3) K rfl rfl (pgs_cons (pg_name (i := 11) sc_stmt.nd rfl (by first | exact .inl rfl | exact .inr rfl)) (pgs_cons (pg_name (i := 12) sc_stmt.nd rfl (by first | exact .inl rfl | exact .inr rfl)) (pgs_cons (pg_name (i := 13) sc_stmt.nd rfl (by first | exact .inl rfl | exact .inr rfl)) pgs_nil))))) (fun _ _ _ _ _ => (pts_one (pt_cmpR op_eq (pv 11) (pv 8) (nomark _)))) (fun _ _ _ _ _ => (pe_callB (call_lenK K rfl) (by rfl) T.len PySem.boot_len (pa_cons (pv 12) pa_nil)))) (pe_lst (pa_cons pe_int pa_nil))))
      (pss_cons (ps_set (i := 10) sc_stmt.nd rfl (by first | exact .inl rfl | exact .inr rfl) (pe_slice (sl_listK K rfl) (pe_op op_cat (pe_ix (ix_tupK K rfl) (pv 0) pe_int (fun _ _ => rfl)) (pe_lst (pa_cons (pe_tup (pa_cons pe_str pa_nil)) (pa_cons (pe_tup (pa_cons pe_str pa_nil)) (pa_cons (pe_tup (pa_cons pe_str (pa_cons pe_int pa_nil))) pa_nil))))) po_none (po_some (pe_ix (ix_listK K rfl) (pe_lst (pa_cons (pe_ix (ix_listK K rfl) (pv 9) pe_int (fun _ _ => rfl)) (pa_cons (pe_op op_mod (pe_op op_fdiv (pv 4) pe_int) pe_int) pa_nil))) (pe_callTy call_int1 (by rfl) T.int (by decide +kernel) (pa_cons (pv 6) pa_nil)) (fun _ _ => rfl)))))
      (pss_one (ps_ret (pe_tup (pa_cons (pe_ix (ix_tupK K rfl) (pv 0) pe_int (fun _ _ => rfl)) (pa_cons (pe_ix (ix_tupK K rfl) (pv 0) pe_int (fun _ _ => rfl)) (pa_cons (pv 8) (pa_cons (pv 10) pa_nil))))))))))))))))), ?_⟩
  obtain ⟨a, xs, rfl, ha, naS, ra⟩ := stm_at rv
  rw [hbs, List.map_nil, List.append_nil] at ra
  refine ⟨.int h, rfl, .ref a, rfl, a, _, _, .int st.k, rfl, rfl, SqT.of ha, at_of (j := 1) rfl rfl, _, _, rfl, rfl, h, 900 + st.k, rfl, by omega, ?_⟩
  generalize stirF h (900 + st.k) = m
  refine fun pd hpd => ⟨upd_same, plK, rfl, by decide, ?_⟩
  have s1 : Same H (upd (upd H pd (.dK [])) pd (.dK (mergeK [] plK))) := fun c o z => by
    rw [upd_ne (ne_of_none z hpd), upd_ne (ne_of_none z hpd)]
    exact z
  have hpl := pl_at st.w
  generalize hH1 : upd (upd H pd (.dK [])) pd (.dK (mergeK [] plK)) = H1 at s1
  have hd1 : H1 pd = some (.dK (mergeK [] plK)) := by rw [← hH1]; exact upd_same
  have ha1 := s1 _ _ ha
  refine ⟨.ref a, rfl, a, _, _, .str st.w, rfl, rfl, SqT.of ha1, at_of (j := 0) rfl rfl, .ref pd, rfl, pd, _, rfl, DGet.k (k := .inr st.w) hd1, _, rfl, ?_⟩
  cases hkd : kindS st.w with
  | none =>
    rw [hkd] at hpl
    rw [hpl]
    refine iteT ⟨.ref a, rfl, q _ _ st s1 (rv.mono s1) rfl fo hbs fun i hi => ?_⟩
    rw [hkd] at hi
    cases hi
  | some i =>
    rw [hkd] at hpl
    rw [hpl]
    have i4 := kind_lt hkd
    refine iteF ?_
    refine ⟨_, rfl, false, rfl, iteF ?_⟩
    refine ⟨u, rfl, .ref pd, rfl, .ref a, rfl, a, _, _, .str st.w, rfl, rfl, SqT.of ha1, at_of (j := 0) rfl rfl, pd, .int i, rfl, (by have z := DGet.k (k := .inr st.w) hd1; rw [hpl] at z; exact z), .bl false, rfl, u, i, D, S, rfl, i4, wf, b.same s1, ru.mono s1, fun p2 H2 s2 h2 => ?_⟩
    have mp := menu_pos D i
    have mp' : 0 < ((((menuF D i).map V.str).length : Nat) : Int) := by rw [List.length_map]; omega
    obtain ⟨v0, hv0, hat⟩ := atI_mem (xs := (menuF D i).map V.str) (i := m / 3 % ((((menuF D i).map V.str).length : Nat) : Int)) (Int.emod_nonneg _ (by omega)) (Int.emod_lt_of_pos _ mp')
    obtain ⟨x, hx, rfl⟩ := List.mem_map.mp hv0
    refine ⟨.ref p2, rfl, .int m, rfl, _, _, rfl, rfl, ⟨by decide, by decide⟩, .ref p2, rfl, p2, _, rfl, .inl (SqL.of h2), _, _, rfl, rfl, mp', p2, _, _, .str x, rfl, rfl, SqL.of h2, hat, ?_⟩
    have hxor := menu_or hx
    have hxo := menu_ok wf i4 hx
    have ha2 := s2 _ _ ha1
    have s12 := s1.trans s2
    have ra2 := ra.mono s12
    have b2 := b.same s12
    have ru2 := ru.mono s12
    have hk0 : st.k = st.k := rfl
    cases fo with
    | deed hw hs he =>
      rename_i w' k' nm' e'
      have nd : w' ≠ "draw" := fun e => by subst e; exact absurd hw (by decide +kernel)
      have ns : w' ≠ "start" := fun e => by subst e; exact absurd hw (by decide +kernel)
      obtain ⟨x1, ys1, rfl, rx1, ra3⟩ := ra2.uncons
      obtain ⟨x2, ys2, rfl, rx2, ra4⟩ := ra3.uncons
      refine ⟨.ref a, rfl, a, _, _, .str w', rfl, rfl, SqT.of ha2, at_of (j := 0) rfl rfl, rfl, _, rfl, ite2 (fun e => absurd (V.str.inj (of_decide_eq_true e)) nd) fun _ => ?_⟩
      refine ⟨.ref a, rfl, a, _, _, .str w', rfl, rfl, SqT.of ha2, at_of (j := 0) rfl rfl, rfl, _, rfl, ite2 (fun _ => ?_) fun e => absurd (by simpa using e) ns⟩
      refine ⟨.ref a, rfl, a, _, _, .str w', rfl, rfl, SqT.of ha2, at_of (j := 0) rfl rfl, .ref a, rfl, a, _, _, .int k', rfl, rfl, SqT.of ha2, at_of (j := 1) rfl rfl, .str x, rfl, .ref a, rfl, a, _, _, x2, rfl, rfl, SqT.of ha2, at_of (j := 3) rfl rfl, small5 (by simp), fun p3 hp3 => ?_⟩
      refine q (.ref p3) _ (.mk w' k' [.str x, e'] []) (s12.trans (nw hp3 _)) (R.newT b2 hp3 (.cons (.rstr _) (.cons (.rint _) (.cons (.rstr _) (.one rx2))))) rfl (.deed hw hxo he) rfl (nmd_of hkd hxor (if_neg nd) fun e3 => ?_)
      subst e3
      exact absurd (kind_start hkd) ns
    | wait he =>
      have : (none : Option Nat) = some i := hkd
      cases this
    | draw hv hr' =>
      rename_i k' v' r'
      have e2 : i = 2 := (Option.some.inj (show some 2 = some i from hkd)).symm
      subst e2
      obtain ⟨x1, ys1, rfl, rx1, ra3⟩ := ra2.uncons
      obtain ⟨x2, ys2, rfl, rx2, ra4⟩ := ra3.uncons
      refine ⟨.ref a, rfl, a, _, _, .str "draw", rfl, rfl, SqT.of ha2, at_of (j := 0) rfl rfl, rfl, _, rfl, iteT ?_⟩
      refine ⟨.ref a, rfl, a, _, _, .str "draw", rfl, rfl, SqT.of ha2, at_of (j := 0) rfl rfl, .ref a, rfl, a, _, _, .int k', rfl, rfl, SqT.of ha2, at_of (j := 1) rfl rfl, .ref a, rfl, a, _, _, x1, rfl, rfl, SqT.of ha2, at_of (j := 2) rfl rfl, .str x, rfl, small5 (by simp), fun p3 hp3 => ?_⟩
      exact q (.ref p3) _ (.mk "draw" k' [.str v', .str x] []) (s12.trans (nw hp3 _)) (R.newT b2 hp3 (.cons (.rstr _) (.cons (.rint _) (.cons rx1 (.one (.rstr _)))))) rfl (.draw hv hxo) rfl (nmd_of hkd hxor (if_pos rfl) fun e3 => nomatch e3)
    | start hn he hl =>
      rename_i k' nm' es'
      have e3 : i = 3 := (Option.some.inj (show some 3 = some i from hkd)).symm
      subst e3
      obtain ⟨x1, ys1, rfl, rx1, ra3⟩ := ra2.uncons
      obtain ⟨x2, ys2, rfl, rx2, ra4⟩ := ra3.uncons
      refine ⟨.ref a, rfl, a, _, _, .str "start", rfl, rfl, SqT.of ha2, at_of (j := 0) rfl rfl, rfl, _, rfl, iteF ?_⟩
      refine ⟨.ref a, rfl, a, _, _, .str "start", rfl, rfl, SqT.of ha2, at_of (j := 0) rfl rfl, rfl, _, rfl, iteF ?_⟩
      obtain ⟨pa, pxs, pb, hvs, rfl, hpa, _, hpx, hpb, npb, rhs⟩ := part_at ru2 i4
      obtain ⟨pe, exs, rfl, hpe, npe, rae⟩ := rx2.list
      refine ⟨.ref pa, rfl, pa, _, _, .ref pb, rfl, rfl, SqT.of hpa, at_of (j := 3) rfl hpx, pb, rfl, ⟨_, SqL.of hpb⟩, fun D1 nD => ?_⟩
      have lh := wf.few 3 (by decide)
      refine lc_gen (S := S) (os := D.hds.map fun c => if decide (c.x = x) = true then some (PyData.int (c.ps.length : Nat)) else none) (Src.list (SqL.of hpb)) nD b2 (by rw [List.length_map, rhs.length]; exact (List.length_map ..).symm) (by rw [rhs.length]; omega) (fun j y o H3 hy ho sm sb Q2 N2 hq hn => ?_) (fun H3 s3 r3 => ?_)
      · obtain ⟨c, a', pn', pb', hc, rfl, ha', hn', _, _⟩ := hand_at rhs hy
        obtain ⟨c', hc', rfl⟩ := map_get ho
        rw [hc] at hc'
        cases hc'
        refine ⟨a', _, rfl, SqT.of (sm _ _ ha'), rfl, .str c.x, _, rfl, .ref pn', _, rfl, .ref pb', _, rfl, rfl, rfl, .str c.x, rfl, .str x, rfl, rfl, _, rfl, ?_⟩
        refine ite2 (fun e => ?_) (fun e => ?_)
        · have e' : decide (c.x = x) = true := decide_eq_true (V.str.inj (of_decide_eq_true e))
          refine ⟨.ref pn', rfl, pn', _, rfl, .inl (SqL.of (sm _ _ hn')), ?_⟩
          rw [List.length_map]
          exact hq _ _ _ (if_pos e') (Same.refl _) (.rint _)
        · have e' : ¬ decide (c.x = x) = true := fun z => e (decide_eq_true (congrArg V.str (of_decide_eq_true z)))
          exact hn _ (if_neg e') (Same.refl _)
      obtain ⟨a3', xs3, e3', hx3, _, ra5⟩ := r3.list
      cases e3'
      rw [fm_if] at ra5
      have ex3 := RA.of_nats (D.manyL x) (by unfold Pg.manyL; rw [List.map_map]; exact ra5)
      subst ex3
      have ml : (D.manyL x).length ≤ 8 := by
        unfold Pg.manyL
        rw [List.length_map]
        have l1 := List.length_filter_le (fun c : Hd => decide (c.x = x)) D.hds
        have l2 : (D.part 3).length = D.hds.length := List.length_map ..
        omega
      have m3 := many_le wf x
      refine ⟨small5 (by simp), fun p3 hp3 => ⟨D1, p3, _, _, rfl, rfl, (nw hp3 _) _ _ hx3, upd_same, small5 (by rw [List.length_map]; show _ + 1 ≤ _; omega), fun p4 hp4 => ?_⟩⟩
      have s4 := s3.trans ((nw hp3 (.lst [V.int 0])).trans (nw hp4 (.lst (((D.manyL x).map fun n : Nat => V.int (n : Int)) ++ [V.int 0]))))
      have b4 := b2.same s4
      have rae4 := rae.mono s4
      refine ⟨.ref a, rfl, a, _, _, .ref pe, rfl, rfl, SqT.of (s4 _ _ ha2), at_of (j := 3) rfl rfl, ?_⟩
      refine ⟨small5 (by simp), fun q1 hq1 => ⟨small5 (by simp), fun q2 hq2 => ⟨small5 (by simp), fun q3 hq3 => ⟨small5 (by simp), fun q4 hq4 => ?_⟩⟩⟩⟩
      have t1 := nw hq1 (.tup [V.str "now"])
      have t2 := nw hq2 (.tup [V.str "own"])
      have t3 := nw hq3 (.tup [V.str "number", V.int 7])
      have t4 := nw hq4 (.lst [V.ref q1, V.ref q2, V.ref q3])
      have r1 := R.newT (S := S) (ds := [.str "now"]) b4 hq1 (.one (.rstr _))
      have r2 := R.newT (S := S) (ds := [.str "own"]) (b4.same t1) hq2 (.one (.rstr _))
      have r3' := R.newT (S := S) (ds := [.str "number", .int 7]) (b4.same (t1.trans t2)) hq3 (.cons (.rstr _) (.one (.rint _)))
      have t14 := t1.trans (t2.trans (t3.trans t4))
      have s5 := s4.trans t14
      have rall := (rae4.mono t14).append (.cons (r1.mono (t2.trans (t3.trans t4))) (.cons (r2.mono (t3.trans t4)) (.one (r3'.mono t4))))
      have le := rae.length
      refine ⟨pe, q4, _, _, rfl, rfl, s5 _ _ hpe, upd_same, small5 (by rw [le]; show es'.length + 3 ≤ _; omega), fun q5 hq5 => ?_⟩
      have s6 := s5.trans (nw hq5 (.lst (exs ++ [V.ref q1, V.ref q2, V.ref q3])))
      have rall6 := rall.mono (nw hq5 (.lst (exs ++ [V.ref q1, V.ref q2, V.ref q3])))
      refine ⟨.ref p4, rfl, p4, _, _, _, rfl, rfl, SqL.of ((nw hq5 _) _ _ (t14 _ _ upd_same)), at_of (j := 0) rfl (many_at D x), .int m, rfl, _, _, rfl, rfl, ⟨by decide, by decide⟩, _, _, rfl, rfl, (by show (0 : Int) < 4; decide), small5 (by simp), fun q6 hq6 => ?_⟩
      have t6 := nw hq6 (.lst [V.int (D.many x : Nat), V.int (m / 200 % 4)])
      refine ⟨.bl false, rfl, .inr ⟨false, rfl, q6, _, _, _, rfl, rfl, SqL.of upd_same, at_of (j := 0) rfl rfl, _, rfl, q5, _, rfl, SqL.of (t6 _ _ upd_same), fun q7 hq7 => ?_⟩⟩
      have s7 := s6.trans (t6.trans (nw hq7 (.lst (cutV (exs ++ [V.ref q1, V.ref q2, V.ref q3]) none (some ((D.many x : Nat) : Int))))))
      have r7 := R.newL ((b4.same t14).same ((nw hq5 _).trans t6)) hq7 ((rall6.mono t6).cut (lo := none) (hi := some ((D.many x : Nat) : Int)))
      rw [cutG_hi] at r7
      have ha7 := s7 _ _ ha2
      refine ⟨.ref a, rfl, a, _, _, .str "start", rfl, rfl, SqT.of ha7, at_of (j := 0) rfl rfl, .ref a, rfl, a, _, _, .int k', rfl, rfl, SqT.of ha7, at_of (j := 1) rfl rfl, .str x, rfl, .ref q7, rfl, small5 (by simp), fun q8 hq8 => ?_⟩
      have lt : ((es' ++ [PyData.tuple [.str "now"], .tuple [.str "own"], .tuple [.str "number", .int 7]]).take (D.many x)).length = D.many x := by
        rw [List.length_take, List.length_append]
        show min _ (_ + 3) = _
        omega
      refine q (.ref q8) _ (.mk "start" k' [.str x, .list ((es' ++ [PyData.tuple [.str "now"], .tuple [.str "own"], .tuple [.str "number", .int 7]]).take (D.many x))] []) (s12.trans (s7.trans (nw hq8 _))) (R.newT (b2.same s7) hq8 (.cons (.rstr _) (.cons (.rint _) (.cons (.rstr _) (.one r7))))) rfl (.start hxo (fun e me => ?_) (by rw [lt]; exact m3)) rfl (nmd_of hkd hxor (if_neg (show ¬ ("start" : Str) = "draw" by decide)) fun _ => lt)
      rcases List.mem_append.mp (List.mem_of_mem_take me) with z | z
      · exact he e z
      · simp only [List.mem_cons, List.not_mem_nil, or_false] at z
        rcases z with rfl | rfl | rfl
        · exact okd_tup (n := 3) fun d md => by rw [List.mem_singleton.mp md]; exact okd_str 3 (by decide +kernel)
        · exact okd_tup (n := 3) fun d md => by rw [List.mem_singleton.mp md]; exact okd_str 3 (by decide +kernel)
        · refine okd_tup (n := 3) fun d md => ?_
          rcases List.mem_cons.mp md with z | z
          · rw [z]; exact okd_str 3 (by decide +kernel)
          · rw [List.mem_singleton.mp z]; exact okd_int _ _
    | stop =>
      have : (none : Option Nat) = some i := hkd
      cases this
    | iff _ _ _ => exact absurd hbs (fun z => nomatch z)
    | whl _ _ _ => exact absurd hbs (fun z => nomatch z)
end
end K14
/-! ## K14S -/
namespace K14
open PySem PySem.Spec PyProof.Rows L2 KR TL
/-- [e for x in ..], of each item what is true of it, by its place -/
theorem lc_idx {J : L2.It} {n : Nat} {item : Nat → V → Prop} {Pd : Nat → PyData → Prop} {g : TG} {te : TE} {vs : List Nat} {σ : L2.St} {H1 : Hp} {D : Addr} {S : List Addr} {Qd : Hp → Prop}
    (src : Src J n item H1) (nD : H1 D = none) (b : Sb S H1) (small : n ≤ 100000)
    (hs : ∀ i x H, i < n → item i x → Same H1 H → Sb (D :: S) H → ∀ (Q : VK), (∀ y H' d, Pd i d → Same H H' → R H' (D :: S) y d → Q y H') →
      g x (wipe σ vs) H fun σ2 H2 => wipe σ2 vs = wipe σ vs ∧ te σ2 H2 Q)
    (hd : ∀ H ds, ds.length = n → (∀ i d, ds[i]? = some d → Pd i d) → Same H1 H → R H S (.ref D) (.list ds) → Qd H)
    (mono : ∀ x H (P Q : L2.St → Hp → Prop), (∀ σ2 H2, P σ2 H2 → Q σ2 H2) → g x (wipe σ vs) H P → g x (wipe σ vs) H Q) :
    ∃ W : Nat → Nat → Hp → Prop, (∃ m, W 0 m (upd H1 D (.lst []))) ∧ ∀ i m H, W i m H →
      (J.stop i H ∧ Qd H) ∨ (J.go i H ∧ ∃ Nx : Hp → Prop, (∀ H', Nx H' → ∃ m', m' < m ∧ W (i + 1) m' H') ∧ ∀ x H', J.yld i H x H' → g x (wipe σ vs) H' fun σ2 H2 => wipe σ2 vs = wipe σ vs ∧ tYes σ2 H2 fun b H3 =>
        if b = true then te σ2 H3 fun y H4 => ∃ acc, H4 D = some (.lst acc) ∧ acc.length < sizeLine ∧ Nx (upd H4 D (.lst (acc ++ [y]))) else Nx H3) := by
  let Pv : Nat → Hp → Prop := fun i H => ∃ acc ds, H D = some (.lst acc) ∧ ds.length = i ∧ (∀ j d, ds[j]? = some d → Pd j d) ∧ Same H1 H ∧ RA H (D :: S) acc ds
  refine ⟨fun i m H => m = n - i ∧ i ≤ n ∧ Pv i H, ⟨n, by simp, Nat.zero_le _, [], [], upd_same, rfl, (fun j d m => by simp at m), nw nD _, .nil⟩, ?_⟩
  rintro i m H ⟨rfl, hi, acc, ds, e, hlen, hP, sm, ra⟩
  by_cases hlt : i < n
  · refine .inr ⟨src.go i H sm hlt, Pv (i + 1), fun H' p' => ⟨n - (i + 1), by omega, rfl, hlt, p'⟩, fun x H' y => ?_⟩
    obtain ⟨e0, yi⟩ := src.yld i H x H' sm hlt y
    subst e0
    have la := ra.length
    refine mono _ _ _ _ (fun σ2 H2 p => ⟨p.1, show if true = true then te σ2 H2 _ else Pv (i + 1) H2 from iteT p.2⟩) (hs i x _ hlt yi sm ((b.same sm).cons e) _ fun y H'' d pd s r => ?_)
    refine ⟨acc, s _ _ e, Nat.lt_of_le_of_lt (m := 100000) (by omega) (by decide), acc ++ [y], ds ++ [d], upd_same, by simp [hlen], fun j z hz => ?_, fun c o z => ?_, ?_⟩
    · by_cases hj : j < ds.length
      · rw [List.getElem?_append_left hj] at hz
        exact hP j z hz
      · rw [List.getElem?_append_right (by omega)] at hz
        have hj2 : j - ds.length = 0 := by
          have := (List.getElem?_eq_some_iff.mp hz).1
          simp only [List.length_cons, List.length_nil] at this
          omega
        rw [hj2] at hz
        have ez : d = z := Option.some.inj hz
        rw [← ez, show j = i by omega]
        exact pd
    · rw [upd_ne (ne_of_none z nD)]
      exact s _ _ (sm _ _ z)
    · exact ((ra.mono s).updS _ (List.mem_cons_self ..)).append (.one (r.updS _ (List.mem_cons_self ..)))
  · have e0 : i = n := by omega
    subst e0
    exact .inl ⟨src.stop H sm, hd H ds hlen hP sm (.mkL e (b.out nD) ra.tl)⟩
/-! ### bodies -/
structure Bok (n : Nat) (b : List Stm) : Prop where
  val : ∀ s ∈ b, Val n s
  pos : ∀ k ∈ ksB n b, 0 ≤ k
  few : (fl n b).length ≤ 63
theorem fl_cons (n : Nat) (s : Stm) (b : List Stm) : fl (n + 1) (s :: b) = s :: (s.bs.flatMap (fl n) ++ fl (n + 1) b) := by
  show List.flatMap _ _ = _ :: (_ ++ List.flatMap _ _)
  rw [List.flatMap_cons]
  rfl
theorem fl_len (n : Nat) : ∀ b : List Stm, b.length ≤ (fl (n + 1) b).length
  | [] => Nat.zero_le _
  | s :: b => by
    have := fl_len n b
    rw [fl_cons, List.length_cons, List.length_cons, List.length_append]
    omega
theorem Bok.len {n : Nat} {b : List Stm} (h : Bok n b) : b.length ≤ 63 := by
  cases n with
  | zero =>
    cases b with
    | nil => exact Nat.zero_le _
    | cons s _ => exact absurd (h.val s (List.mem_cons_self ..)) id
  | succ n => exact Nat.le_trans (fl_len n b) h.few
theorem Bok.sub {n : Nat} {b c : List Stm} {s : Stm} (h : Bok (n + 1) b) (ms : s ∈ b) (mc : c ∈ s.bs) : Bok n c := by
  obtain ⟨l1, l2, rfl⟩ := List.append_of_mem ms
  obtain ⟨m1, m2, e⟩ := List.append_of_mem mc
  have key : fl (n + 1) (l1 ++ s :: l2) = fl (n + 1) l1 ++ s :: (m1.flatMap (fl n) ++ (fl n c ++ m2.flatMap (fl n)) ++ fl (n + 1) l2) := by
    rw [fl_append, fl_cons, e, List.flatMap_append, List.flatMap_cons]
  refine ⟨fun t mt => (h.val s ms).2 c mc t mt, fun k mk => h.pos k ?_, ?_⟩
  · unfold ksB at mk ⊢
    obtain ⟨t, mt, rfl⟩ := List.mem_map.mp mk
    refine List.mem_map.mpr ⟨t, ?_, rfl⟩
    rw [key]
    simp [mt]
  · have := h.few
    rw [key] at this
    simp only [List.length_append, List.length_cons] at this
    omega
theorem Bok.head {n : Nat} {b : List Stm} {s : Stm} (h : Bok (n + 1) b) (ms : s ∈ b) : 0 ≤ s.k := by
  refine h.pos _ ?_
  unfold ksB
  refine List.mem_map.mpr ⟨s, ?_, rfl⟩
  obtain ⟨l1, l2, rfl⟩ := List.append_of_mem ms
  rw [fl_append, fl_cons]
  simp
def ifwL : List Str := ["if", "while"]
/-- an if or a while in the heap -/
theorem ifw_at {H : Hp} {S : List Addr} {v : V} {n : Nat} {s : Stm} (r : R H S v (Stm.toD (n + 1) s)) (fo : Form s) (hw : s.w ∈ ifwL) :
    ∃ a xs, v = .ref a ∧ H a = some (.tup xs) ∧ 6 ≤ xs.length ∧ xs.length ≤ 7 ∧ xs[0]? = some (.str s.w) ∧ RA H S (xs.drop 5) (s.bs.map fun b => .list (b.map (Stm.toD n))) ∧ RA H S (xs.take 5) (.str s.w :: .int s.k :: s.fs) ∧ s.fs.length = 3 ∧ 1 ≤ s.bs.length ∧ s.bs.length ≤ 2 ∧
      ∀ bs' : List (List Stm), bs'.length = s.bs.length → Form (.mk s.w s.k s.fs bs') := by
  obtain ⟨a, xs, rfl, ha, _, ra⟩ := r.tuple
  have hd := ra.drop 5
  have ht := ra.take 5
  have hl := ra.length
  have h0 := ra.getV (i := 0) (v := xs[0]?.getD .non)
  cases fo with
  | deed h _ _ => exact absurd (show (_ : Str) ∈ ifwL from hw) (fun z => (by decide +kernel : ∀ x ∈ deedL, ¬ x ∈ ifwL) _ h z)
  | wait => exact absurd hw (show ¬ ("wait" : Str) ∈ ifwL by decide +kernel)
  | draw => exact absurd hw (show ¬ ("draw" : Str) ∈ ifwL by decide +kernel)
  | start => exact absurd hw (show ¬ ("start" : Str) ∈ ifwL by decide +kernel)
  | stop => exact absurd hw (show ¬ ("stop" : Str) ∈ ifwL by decide +kernel)
  | iff h1 h2 h3 =>
    obtain ⟨x0, ys, rfl, r0, _⟩ := ra.uncons
    have e0 := r0.str_inv
    subst e0
    exact ⟨a, _, rfl, ha, by rw [hl]; show 6 ≤ 7; decide, by rw [hl]; show 7 ≤ 7; decide, rfl, hd, ht, rfl, (by decide : 1 ≤ 2), (by decide : 2 ≤ 2), fun bs' e => by
      match bs', e with
      | [c1, c2], _ => exact .iff h1 h2 h3⟩
  | whl h1 h2 h3 =>
    obtain ⟨x0, ys, rfl, r0, _⟩ := ra.uncons
    have e0 := r0.str_inv
    subst e0
    exact ⟨a, _, rfl, ha, by rw [hl]; show 6 ≤ 6; decide, by rw [hl]; show 6 ≤ 7; decide, rfl, hd, ht, rfl, (by decide : 1 ≤ 1), (by decide : 1 ≤ 2), fun bs' e => by
      match bs', e with
      | [c1], _ => exact .whl h1 h2 h3⟩
theorem leaf_of {s : Stm} (fo : Form s) (hw : ¬ s.w ∈ ifwL) : s.bs = [] := by
  cases fo with
  | iff => exact absurd (show ("if" : Str) ∈ ifwL by decide +kernel) hw
  | whl => exact absurd (show ("while" : Str) ∈ ifwL by decide +kernel) hw
  | _ => rfl
theorem ifw_kind {w : Str} (hw : w ∈ ifwL) : kindS w = none := (by decide +kernel : ∀ x ∈ ifwL, kindS x = none) w hw
theorem pick_list {α β : Type} {f : α → β} : ∀ (ds : List β) {P : Nat → α → Prop}, (∀ i d, ds[i]? = some d → ∃ a, d = f a ∧ P i a) → ∃ as : List α, ds = as.map f ∧ ∀ i a, as[i]? = some a → P i a
  | [], _, _ => ⟨[], rfl, fun i a h => by simp at h⟩
  | d :: r, P, h => by
    obtain ⟨a, rfl, pa⟩ := h 0 d rfl
    obtain ⟨as, rfl, pas⟩ := pick_list (f := f) r (P := fun i => P (i + 1)) fun i d' e => h (i + 1) d' e
    refine ⟨a :: as, rfl, fun i b e => ?_⟩
    cases i with
    | zero =>
      have z : a = b := Option.some.inj e
      rw [← z]; exact pa
    | succ i => exact pas i b e
theorem flat_same {α β : Type} {f g : α → List β} : ∀ {as bs : List α}, as.length = bs.length → (∀ (i : Nat) (a b : α), as[i]? = some a → bs[i]? = some b → f a = g b) → as.flatMap f = bs.flatMap g
  | [], [], _, _ => rfl
  | a :: as, b :: bs, e, h => by
    rw [List.flatMap_cons, List.flatMap_cons, h 0 a b rfl rfl, flat_same (as := as) (bs := bs) (Nat.succ.inj e) fun i x y h1 h2 => h (i + 1) x y h1 h2]
theorem cut5 (xs : List V) : cutV xs (some 5) none = xs.drop 5 := cutG_lo xs 5
theorem cut5' (xs : List V) : cutV xs none (some 5) = xs.take 5 := cutG_hi xs 5
theorem whole5 {n : Nat} (h : 6 ≤ n) : ¬ (HT.sIx n 0 (some 5) = 0 ∧ HT.sIx n n none = n) := fun z => by
  have z1 : HT.sIx n 0 (some ((5 : Nat) : Int)) = 0 := z.1
  rw [HT.sIx_nat] at z1
  omega
theorem whole5' {n : Nat} (h : 6 ≤ n) : ¬ (HT.sIx n 0 none = 0 ∧ HT.sIx n n (some 5) = n) := fun z => by
  have z1 : HT.sIx n n (some ((5 : Nat) : Int)) = n := z.2
  rw [HT.sIx_nat] at z1
  omega
section
variable {P : Program} {w : World} {K : PySem.W.Frag} {mg : Str → Option Value} {base : Heap}
def sp_body (n : Nat) : Sp := fun vs H Q _ => ∃ (v u : V) (h : Int) (b : List Stm) (D : Pg) (S : List Addr) (m : Nat), vs = [v, u, .int h, .bl false] ∧ n = m + 1 ∧ D.Wf ∧ Sb S H ∧ R H S u D.toD ∧ R H S v (.list (b.map (Stm.toD m))) ∧ Bok m b ∧
  ∀ v' H' b', Same H H' → R H' S v' (.list (b'.map (Stm.toD m))) → (∀ s ∈ b', Val m s) → ksB m b' = ksB m b → (∀ s ∈ fl m b', Nmd D s) → Q v' H'
theorem ok_body (d : Df K mg "_law_body" s_body pp_body) (T : Tx mg) (g_stmt : Ok P w K mg base 2 "_law_statement" pp_stmt sp_stmt) : ∀ n : Nat, Ok P w K mg base (n + 2) "_law_body" pp_body (sp_body n)
  | 0 => none_left d fun vs H Q E ⟨_, _, _, _, _, _, _, _, h, _⟩ => absurd h (fun z => nomatch z)
  | n + 1 => by
    have g_body := ok_body d T g_stmt n
    refine d.mk sc_body (fun vs H Q E h => ?_) (fun f cdv A outer s H vs Q E hr h => ?_)
    · obtain ⟨v, u, h, b, D, S, m, rfl, _⟩ := h; rfl
    obtain ⟨v, u, h, b, D, S, m, rfl, hm, wf, sb, ru, rv, bo, q⟩ := h
    have hm : n = m := Nat.succ.inj hm
    subst hm
    refine ⟨_, (pss_cons (ps_set (i := 4) sc_body.nd rfl (by first | exact .inl rfl | exact .inr rfl) (pe_lst pa_nil))
      (pss_cons (ps_for PassesOwn.never rfl (pi_listK K rfl (pv 0)) (pg_name (i := 5) sc_body.nd rfl (by first | exact .inl rfl | exact .inr rfl)) (pss_one (ps_if (pt_cmpR (op_inK K rfl) (pe_ix (ix_tupK K rfl) (pv 5) pe_int (fun _ _ => rfl)) (pe_lst (pa_cons pe_str (pa_cons pe_str pa_nil))) (by rfl)) (pss_cons (ps_set (i := 6) sc_body.nd rfl (by first | exact .inl rfl | exact .inr rfl) (pe_callTy (call_tupleK K rfl) (by rfl) T.tuple (by decide +kernel) (pa_cons (pe_lc (own := [("part", 7)]) (g := gName 7) (tt := tYes) rfl sc_body.nd (pi_tupK K rfl (pe_slice (sl_tupK K rfl) (pv 5) (po_some pe_int) po_none)) (blkOk_by (own := [("part", 7)]) (N := N_body) (sc := defScope s_body) (by decide +kernel)) (fun _ _ _ _ _ => (pg_name (i := 7) sc_body.nd rfl (by first | exact .inl rfl | exact .inr rfl))) (fun _ _ _ _ _ => pts_nil) (fun _ _ _ _ _ => (pcall g_body hr (by omega) rfl (pa_cons (pv 7) (pa_cons (pv 1) (pa_cons (pv 2) (pa_cons (pv 3) pa_nil))))))) pa_nil)))
      (pss_one (ps_expr (pe_bm PySem.F.plainAttrs_list PySem.F.slot_list_append PySem.F.type_list_append mt_append (pv 4) (pa_cons (pe_op (op_catTK K rfl) (pe_slice (sl_tupK K rfl) (pv 5) po_none (po_some pe_int)) (pv 6)) pa_nil))))) (pss_one (ps_expr (pe_bm PySem.F.plainAttrs_list PySem.F.slot_list_append PySem.F.type_list_append mt_append (pv 4) (pa_cons (pcall g_stmt hr (by omega) rfl (pa_cons (pv 5) (pa_cons (pv 1) (pa_cons (pv 2) (pa_cons (pv 3) pa_nil))))) pa_nil)))))))
      (pss_one (ps_ret (pv 4))))), ?_⟩
    refine ⟨Nat.zero_le _, fun p hp => ?_⟩
    obtain ⟨pb, bvs, rfl, hb, nb, rb⟩ := rv.list
    have s1 := nw hp (.lst [])
    have hb1 := s1 _ _ hb
    have lb := rb.length
    rw [List.length_map] at lb
    have l63 := bo.len
    have ru1 : R (upd H p (.lst [])) (p :: S) u D.toD := ru.hide hp s1
    have rb1 : RA (upd H p (.lst [])) (p :: S) bvs (b.map (Stm.toD n)) := rb.hide hp s1
    refine ⟨.ref pb, rfl, pb, rfl, ⟨_, SqL.of hb1⟩, ?_⟩
    let J : Nat → L2.St → Hp → Prop := fun i σ H' => ∃ acc b' o5 o6 o7, σ = [some (.ref pb), some u, some (.int h), some (.bl false), some (.ref p), o5, o6, o7] ∧ Same H H' ∧ H' p = some (.lst acc) ∧ Same (hid (upd H p (.lst [])) (p :: S)) (hid H' (p :: S)) ∧ RA H' (p :: S) acc (b'.map (Stm.toD n)) ∧
      b'.length = i ∧ (∀ s ∈ b', Val n s) ∧ ksB n b' = ksB n (b.take i) ∧ (∀ s ∈ fl n b', Nmd D s)
    refine for_src (Hb := H) (Src.list (K := K) (SqL.of hb)) J ⟨[], [], none, none, none, rfl, s1, upd_same, Same.refl _, .nil, rfl, (fun _ m => nomatch m), rfl, fun s m => by rw [show fl n [] = [] by cases n <;> rfl] at m; exact nomatch m⟩ (fun i σ H' j => by obtain ⟨acc, b', o5, o6, o7, rfl, sm, _⟩ := j; exact sm) ?_ ?_
    · rintro i x σ H' hi hx ⟨acc, b', o5, o6, o7, rfl, sm, hacc, im, ra, hlen, hval, hks, hnm⟩
      obtain ⟨dx, hdx, rx1⟩ := rb1.getV hx
      obtain ⟨st, hst, rfl⟩ := map_get hdx
      have mst := List.mem_of_getElem? hst
      have vst := bo.val st mst
      have rx : R H' (p :: S) x (st.toD n) := Rp.mono im _ _ rx1
      have ru' : R H' (p :: S) u D.toD := Rp.mono im _ _ ru1
      have sb' : Sb (p :: S) H' := (sb.same sm).cons hacc
      have la := ra.length
      rw [List.length_map] at la
      have mp : p ∈ p :: S := List.mem_cons_self ..
      have fin : ∀ (y : V) (H2 : Hp) (s' : Stm) (o5 o6 o7 : Option V), Same H' H2 → R H2 (p :: S) y (s'.toD n) → Val n s' → ksB n [s'] = ksB n [st] → (∀ t ∈ fl n [s'], Nmd D t) →
          J (i + 1) [some (.ref pb), some u, some (.int h), some (.bl false), some (.ref p), o5, o6, o7] (upd H2 p (.lst (acc ++ [y]))) := by
        intro y H2 s' o5 o6 o7 s2 ry hv hk hn
        refine ⟨acc ++ [y], b' ++ [s'], o5, o6, o7, rfl, fun c o z => ?_, upd_same, ?_, ?_, ?_, fun t mt => ?_, ?_, fun t mt => ?_⟩
        · rw [upd_ne (ne_of_none z hp)]
          exact s2 _ _ (sm _ _ z)
        · rw [hid_upd (H := H2) _ mp]
          exact im.trans (hid_same _ s2)
        · rw [List.map_append]
          exact ((ra.mono s2).updS _ mp).append (.one (ry.updS _ mp))
        · rw [List.length_append, hlen]; rfl
        · rcases List.mem_append.mp mt with z | z
          · exact hval t z
          · rw [List.mem_singleton.mp z]; exact hv
        · rw [ksB_append, hks, hk, List.take_add_one, hst, ← ksB_append]
          rfl
        · rw [fl_append] at mt
          rcases List.mem_append.mp mt with z | z
          · exact hnm t z
          · exact hn t z
      cases n with
      | zero => exact absurd vst id
      | succ n =>
      obtain ⟨a, xs0, rfl, ha, naS, _⟩ := stm_at rx
      refine g_name ?_
      dsimp only
      refine if_r (b := decide (st.w ∈ ifwL)) (fun Q1 q1 => ?_) (fun hw H2 s2 => ?_) (fun hw H2 s2 => ?_)
      · exact ⟨.ref a, rfl, a, _, _, .str st.w, rfl, rfl, SqT.of ha, at_of (j := 0) rfl rfl, small5 (by simp), fun pl hpl => rin_f (L := ifwL) (SqL.of upd_same) ⟨_, rfl, q1 _ (nw hpl _)⟩⟩
      · have hw := of_decide_eq_true hw
        obtain ⟨a', xs, e, ha1, l6, l7, h0, rdrop, rtake, lfs, lb1, lb2, hform⟩ := ifw_at rx vst.1 hw
        cases e
        have ha2 := s2 _ _ ha1
        refine ⟨.ref a, rfl, 5, rfl, a, xs, rfl, SqT.of ha2, whole5 l6, fun pc hpc => ⟨pc, rfl, ⟨_, SqT.of upd_same⟩, fun D1 nD => ?_⟩⟩
        have hpc1 : (upd H2 pc (.tup (cutV xs (some 5) none))) pc = some (.tup (xs.drop 5)) := by rw [cut5]; exact upd_same
        have s3 := s2.trans (nw hpc (.tup (cutV xs (some 5) none)))
        refine lc_idx (S := p :: S) (Pd := fun j dd => ∃ c', dd = .list (c'.map (Stm.toD n)) ∧ ∀ c, st.bs[j]? = some c → (∀ t ∈ c', Val n t) ∧ ksB n c' = ksB n c ∧ ∀ t ∈ fl n c', Nmd D t) (Src.tup (SqT.of hpc1)) nD (sb'.same s3) (by rw [List.length_drop]; omega) (fun j y H4 hj hy sm4 sb4 Q2 q2 => ?_) (fun H5 ds hlen5 hP s5 r5 => ?_) (fun _ _ _ _ h p => h _ _ p)
        · obtain ⟨dd, hdd, ry⟩ := rdrop.getV hy
          obtain ⟨c, hc, rfl⟩ := map_get hdd
          have mc := List.mem_of_getElem? hc
          refine ⟨rfl, y, rfl, u, rfl, .int h, rfl, .bl false, rfl, y, u, h, c, D, D1 :: p :: S, n, rfl, rfl, wf, sb4, (ru'.mono s3).hide nD sm4, (ry.mono s3).hide nD sm4, bo.sub mst mc, fun v' H6 b'' s6 r6 hv hk hn => ?_⟩
          refine q2 v' H6 _ ⟨b'', rfl, fun c0 hc0 => ?_⟩ s6 r6
          rw [hc] at hc0
          cases hc0
          exact ⟨hv, hk, hn⟩
        obtain ⟨bs', rfl, hbs'⟩ := pick_list ds hP
        have lbs : bs'.length = st.bs.length := by
          have z := rdrop.length
          rw [List.length_map] at hlen5
          rw [hlen5, z, List.length_map]
        obtain ⟨a5, xs5, e5, h5, _, ra5⟩ := r5.list
        cases e5
        refine ⟨D1, xs5, rfl, .inl ⟨SqL.of h5, fun l hl => ?_⟩⟩
        have s6 := (s3.trans s5).trans (nw hl (.tup xs5))
        have hacc6 := s6 _ _ hacc
        refine ⟨.ref p, rfl, .inl ⟨rfl, _, SqL.of hacc6⟩, .ref a, rfl, 5, rfl, a, xs, rfl, SqT.of (s6 _ _ ha1), whole5' l6, fun p2 hp2 => ⟨.ref l, rfl, p2, l, _, _, rfl, rfl, SqT.of upd_same, SqT.of ((nw hp2 _) _ _ upd_same), fun z => ?_, small5 ?_, fun z => ?_, fun _ p3 hp3 => ⟨p, acc, .ref p3, rfl, rfl, (nw hp3 _) _ _ ((nw hp2 _) _ _ hacc6), lt5 (by omega), ?_⟩⟩⟩
        · rw [cut5'] at z
          have := congrArg List.length z
          rw [List.length_take] at this
          have z2 : min 5 xs.length = 0 := this
          omega
        · have l5 := ra5.length
          rw [List.length_map] at l5
          have := cutV_length xs none (some 5)
          omega
        · have l5 := ra5.length
          rw [List.length_map, z] at l5
          have l5 : 0 = bs'.length := l5
          omega
        have t2 := nw hp2 (.tup (cutV xs none (some 5)))
        have t3 := nw hp3 (.tup (cutV xs none (some 5) ++ xs5))
        have s7 := s6.trans t2
        have ra7 := (rtake.mono s7).append (ra5.mono ((nw hl (.tup xs5)).trans t2))
        rw [← cut5'] at ra7
        refine fin (.ref p3) _ (.mk st.w st.k st.fs bs') _ _ _ (s7.trans t3) (R.newT (sb'.same s7) hp3 ra7) ⟨hform bs' lbs, fun c mc t mt => ?_⟩ ?_ fun t mt => ?_
        · obtain ⟨j, hj⟩ := List.getElem?_of_mem mc
          have hjl : j < st.bs.length := by rw [← lbs]; exact (List.getElem?_eq_some_iff.mp hj).1
          exact (hbs' j c hj _ (List.getElem?_eq_getElem hjl)).1 t mt
        · rw [ksB_one, ksB_one]
          show st.k :: _ = _
          exact congrArg (st.k :: ·) (flat_same (f := ksB n) (g := ksB n) (as := bs') (bs := st.bs) lbs fun i a c ha hc => (hbs' i a ha c hc).2.1)
        · rw [fl_cons] at mt
          rcases List.mem_cons.mp mt with z | z
          · rw [z]
            intro j hj
            have : kindS st.w = some j := hj
            rw [ifw_kind hw] at this
            cases this
          · rw [show fl (n + 1) [] = [] from rfl, List.append_nil] at z
            obtain ⟨c, mc, z⟩ := List.mem_flatMap.mp z
            obtain ⟨j, hj⟩ := List.getElem?_of_mem mc
            have hjl : j < st.bs.length := by rw [← lbs]; exact (List.getElem?_eq_some_iff.mp hj).1
            exact (hbs' j c hj _ (List.getElem?_eq_getElem hjl)).2.2 t z
      · have hw : ¬ st.w ∈ ifwL := of_decide_eq_false hw
        have ra2 := ra.mono s2
        refine ⟨.ref p, rfl, .inl ⟨rfl, _, SqL.of (s2 _ _ hacc)⟩, .ref a, rfl, u, rfl, .int h, rfl, .bl false, rfl, .ref a, u, h, n, st, D, p :: S, rfl, wf, sb'.same s2, ru'.mono s2, rx.mono s2, vst.1, leaf_of vst.1 hw, bo.head mst, fun v' H3 s' s3 r3 hk fo' bs' hn => ?_⟩
        refine ⟨p, acc, v', rfl, rfl, s3 _ _ (s2 _ _ hacc), lt5 (by omega), ?_⟩
        refine fin v' H3 s' _ _ _ (s2.trans s3) r3 ⟨fo', fun c mc => by rw [bs'] at mc; exact nomatch mc⟩ ?_ fun t mt => ?_
        · rw [ksB_leaf n bs', ksB_leaf n (leaf_of vst.1 hw), hk]
        · rw [fl_cons, bs'] at mt
          rw [List.mem_singleton.mp mt]
          exact hn
    · rintro σ H' ⟨acc, b', o5, o6, o7, rfl, sm, hacc, im, ra, hlen, hval, hks, hnm⟩
      rw [lb, List.take_length] at hks
      refine ⟨.ref p, rfl, q _ _ b' sm (.mkL hacc (sb.out hp) ra.tl) hval hks hnm⟩
end
end K14
/-! ## K14T -/
namespace K14
open PySem PySem.Spec PyProof.Rows L2 KR TL
structure Nam (D D' : Pg) : Prop where
  g : D'.g = D.g
  len : D'.hds.length = D.hds.length
  at_ : ∀ (i : Nat) (c c' : Hd), D.hds[i]? = some c → D'.hds[i]? = some c' → c'.x = c.x ∧ c'.ps = c.ps ∧ (∀ s ∈ c'.b, Val 6 s) ∧ ksB 6 c'.b = ksB 6 c.b ∧ ∀ s ∈ fl 6 c'.b, Nmd D s
section
variable {P : Program} {w : World} {K : PySem.W.Frag} {mg : Str → Option Value} {base : Heap}
theorem cut3 (xs : List V) : cutV xs none (some 3) = xs.take 3 := cutG_hi xs 3
def sp_named : Sp := fun vs H Q _ => ∃ (u : V) (h : Int) (D : Pg) (S : List Addr), vs = [u, .int h, .bl false] ∧ D.Wf ∧ Sb S H ∧ R H S u D.toD ∧ (∀ c ∈ D.hds, Bok 6 c.b) ∧
  ∀ v H' D', Same H H' → R H' S v D'.toD → Nam D D' → Q v H'
theorem ok_named (d : Df K mg "_law_named" s_named pp_named) (T : Tx mg) (g_body : Ok P w K mg base 9 "_law_body" pp_body (sp_body 7)) : Ok P w K mg base 10 "_law_named" pp_named sp_named := by
  refine d.mk sc_named (fun vs H Q E h => ?_) (fun f cdv A outer s H vs Q E hr h => ?_)
  · obtain ⟨u, h, D, S, rfl, _⟩ := h; rfl
  obtain ⟨u, h, D, S, rfl, wf, sb, ru, bo, q⟩ := h
  refine ⟨_, (pss_cons (ps_setLc (i := 3) (own := [("name", 4), ("names", 5), ("body", 6)]) (tt := tYes) rfl sc_named.nd rfl rfl (sw_true rfl rfl rfl (by decide +kernel)) (pi_listK K rfl (pe_ix (ix_tupK K rfl) (pv 0) pe_int (fun _ _ => rfl))) (blkOk_by (own := [("name", 4), ("names", 5), ("body", 6)]) (N := N_named) (sc := defScope s_named) (by decide +kernel)) (fun _ _ _ _ _ => (pg_tupK (n := 3) K rfl rfl (pgs_cons (pg_name (i := 4) sc_named.nd rfl (by first | exact .inl rfl | exact .inr rfl)) (pgs_cons (pg_name (i := 5) sc_named.nd rfl (by first | exact .inl rfl | exact .inr rfl)) (pgs_cons (pg_name (i := 6) sc_named.nd rfl (by first | exact .inl rfl | exact .inr rfl)) pgs_nil))))) (fun _ _ _ _ _ => pts_nil) (fun _ _ _ _ _ => (pe_tup (pa_cons (pv 4) (pa_cons (pv 5) (pa_cons (pcall g_body hr (by omega) rfl (pa_cons (pv 6) (pa_cons (pv 0) (pa_cons (pv 1) (pa_cons (pv 2) pa_nil))))) pa_nil))))))
      (pss_one (ps_ret (pe_op (op_catTK K rfl) (pe_slice (sl_tupK K rfl) (pv 0) po_none (po_some pe_int)) (pe_tup (pa_cons (pv 3) pa_nil)))))), ?_⟩
  obtain ⟨pa, pxs, pb, hvs, rfl, hpa, lpx, hpx, hpb, npb, rhs⟩ := part_at ru (show 3 < 4 by decide)
  refine ⟨.ref pa, rfl, pa, _, _, .ref pb, rfl, rfl, SqT.of hpa, at_of (j := 3) rfl hpx, pb, rfl, ⟨_, SqL.of hpb⟩, fun D1 nD => ?_⟩
  have lh := wf.few 3 (by decide)
  have lhv := rhs.length
  refine lc_idx (S := S) (Pd := fun j dd => ∃ c' : Hd, dd = c'.toD ∧ ∀ c, D.hds[j]? = some c → c'.x = c.x ∧ c'.ps = c.ps ∧ (∀ s ∈ c'.b, Val 6 s) ∧ ksB 6 c'.b = ksB 6 c.b ∧ ∀ s ∈ fl 6 c'.b, Nmd D s) (Src.list (SqL.of hpb)) nD sb (by omega) (fun j y H3 hj hy sm sb3 Q2 q2 => ?_) (fun H3 ds hlen hP s3 r3 => ?_) (fun _ _ _ _ h p => by
    obtain ⟨a, xs, e1, h1, e2, y1, ys1, e3, y2, ys2, e4, y3, ys3, e5, e6, pp⟩ := p
    exact ⟨a, xs, e1, h1, e2, y1, ys1, e3, y2, ys2, e4, y3, ys3, e5, e6, h _ _ pp⟩)
  · obtain ⟨c, a', pn', pb', hc, rfl, ha', hn', rb', rn'⟩ := hand_at rhs hy
    have mc := List.mem_of_getElem? hc
    refine ⟨a', _, rfl, SqT.of (sm _ _ ha'), rfl, .str c.x, _, rfl, .ref pn', _, rfl, .ref pb', _, rfl, rfl, rfl, ?_⟩
    refine ⟨.str c.x, rfl, .ref pn', rfl, .ref pb', rfl, .ref pa, rfl, .int h, rfl, .bl false, rfl, .ref pb', .ref pa, h, c.b, D, D1 :: S, 6, rfl, rfl, wf, sb3, ru.hide nD sm, rb'.hide nD sm, bo c mc, fun v' H4 b' s4 r4 hv hk hn => ⟨small5 (by simp), fun p hp => ?_⟩⟩
    refine q2 (.ref p) _ _ ⟨⟨c.x, c.ps, b'⟩, rfl, fun c0 hc0 => ?_⟩ (s4.trans (nw hp _)) (R.newT (sb3.same s4) hp (.cons (.rstr _) (.cons ((rn'.hide nD sm).mono s4) (.one r4))))
    rw [hc] at hc0
    cases hc0
    exact ⟨rfl, rfl, hv, hk, hn⟩
  · obtain ⟨cs, rfl, hcs⟩ := pick_list ds hP
    refine ⟨.ref pa, rfl, 3, rfl, pa, pxs, rfl, SqT.of (s3 _ _ hpa), fun z => ?_, fun p2 hp2 => ⟨.ref D1, rfl, small5 (by simp), fun p3 hp3 => ⟨p2, p3, _, _, rfl, rfl, SqT.of ((nw hp3 _) _ _ upd_same), SqT.of upd_same, fun z => ?_, small5 ?_, (fun z => nomatch z), fun _ p4 hp4 => ?_⟩⟩⟩
    · have z1 : HT.sIx pxs.length pxs.length (some ((3 : Nat) : Int)) = pxs.length := z.2
      rw [HT.sIx_nat] at z1
      omega
    · rw [cut3] at z
      have := congrArg List.length z
      rw [List.length_take] at this
      have z2 : min 3 pxs.length = 0 := this
      omega
    · have := cutV_length pxs none (some 3)
      show _ + 1 ≤ 100000
      omega
    have t2 := nw hp2 (.tup (cutV pxs none (some 3)))
    have t3 := nw hp3 (.tup [V.ref D1])
    obtain ⟨pa', pxs', e, hpa', _, rpx⟩ := ru.tuple
    cases e
    rw [hpa] at hpa'
    cases hpa'
    have r2 := (rpx.take 3).mono (s3.trans (t2.trans t3))
    rw [← cut3] at r2
    refine q (.ref p4) _ ⟨D.g, cs⟩ (s3.trans (t2.trans (t3.trans (nw hp4 _)))) (R.newT (sb.same (s3.trans (t2.trans t3))) hp4 (r2.append (.one (r3.mono (t2.trans t3))))) ⟨rfl, ?_, fun i c c' hc hc' => hcs i c' hc' c hc⟩
    have z := rhs.length
    rw [List.length_map] at hlen
    show cs.length = _
    rw [hlen, z]
    exact List.length_map ..
end
end K14
/-! ## K14U -/
namespace K14
open PySem PySem.Spec PyProof.Rows L2 KR TL
/-! ### the statements in the text's order, with their depth -/
def flN : Nat → List Stm → List (Nat × Stm)
  | 0, _ => []
  | n + 1, b => b.flatMap fun s => (n, s) :: s.bs.flatMap (flN n)
def dN (p : Nat × Stm) : PyData := p.2.toD (p.1 + 1)
theorem flN_snd : ∀ (n : Nat) (b : List Stm), (flN n b).map Prod.snd = fl n b
  | 0, _ => rfl
  | n + 1, b => by
    show List.map Prod.snd (List.flatMap _ _) = List.flatMap _ _
    rw [List.map_flatMap]
    congr 1
    funext s
    rw [List.map_cons, List.map_flatMap]
    congr 2
    funext c
    exact flN_snd n c
def lv : Nat → List Stm → List (Nat × Stm)
  | 0, _ => []
  | m + 1, c => c.map fun s => (m, s)
theorem lv_data {n : Nat} {c : List Stm} (h : ∀ s ∈ c, Val n s) : c.map (Stm.toD n) = (lv n c).map dN := by
  cases n with
  | zero =>
    cases c with
    | nil => rfl
    | cons s _ => exact absurd (h s (List.mem_cons_self ..)) id
  | succ n =>
    show _ = (c.map _).map _
    rw [List.map_map]
    rfl
def flT (l : List (Nat × Stm)) : List (Nat × Stm) := l.flatMap fun p => flN (p.1 + 1) [p.2]
theorem flT_append (a b : List (Nat × Stm)) : flT (a ++ b) = flT a ++ flT b := List.flatMap_append
theorem flT_lv (n : Nat) (c : List Stm) : flT (lv n c) = flN n c := by
  cases n with
  | zero => rfl
  | succ n =>
    show List.flatMap _ (c.map _) = List.flatMap _ _
    rw [List.flatMap_map]
    congr 1
    funext s
    show List.flatMap _ [s] = _
    rw [List.flatMap_cons, List.flatMap_nil, List.append_nil]
theorem flT_cons (p : Nat × Stm) (r : List (Nat × Stm)) : flT (p :: r) = p :: (flT (p.2.bs.flatMap (lv p.1)) ++ flT r) := by
  show List.flatMap _ (p :: r) = _
  rw [List.flatMap_cons]
  show ([p.2].flatMap fun s => (p.1, s) :: s.bs.flatMap (flN p.1)) ++ flT r = _
  rw [List.flatMap_cons, List.flatMap_nil, List.append_nil]
  show p :: (p.2.bs.flatMap (flN p.1) ++ flT r) = _
  congr 2
  unfold flT
  rw [List.flatMap_assoc]
  congr 1
  funext c
  exact (flT_lv p.1 c).symm
/-- what stands behind the fifth -/
theorem drop5_at {H : Hp} {S : List Addr} {v : V} {n : Nat} {s : Stm} (r : R H S v (Stm.toD (n + 1) s)) (fo : Form s) :
    ∃ a xs, v = .ref a ∧ H a = some (.tup xs) ∧ 2 ≤ xs.length ∧ xs.length ≤ 7 ∧ RA H S (xs.drop 5) (s.bs.map fun b => .list (b.map (Stm.toD n))) := by
  obtain ⟨a, xs, rfl, ha, _, ra⟩ := r.tuple
  have hd := ra.drop 5
  have hl := ra.length
  refine ⟨a, xs, rfl, ha, ?_⟩
  cases fo with
  | deed => exact ⟨by rw [hl]; show 2 ≤ 4; decide, by rw [hl]; show 4 ≤ 7; decide, hd⟩
  | wait => exact ⟨by rw [hl]; show 2 ≤ 3; decide, by rw [hl]; show 3 ≤ 7; decide, hd⟩
  | draw => exact ⟨by rw [hl]; show 2 ≤ 4; decide, by rw [hl]; show 4 ≤ 7; decide, hd⟩
  | start => exact ⟨by rw [hl]; show 2 ≤ 4; decide, by rw [hl]; show 4 ≤ 7; decide, hd⟩
  | stop => exact ⟨by rw [hl]; show 2 ≤ 2; decide, by rw [hl]; show 2 ≤ 7; decide, hd⟩
  | iff => exact ⟨by rw [hl]; show 2 ≤ 7; decide, by rw [hl]; show 7 ≤ 7; decide, hd⟩
  | whl => exact ⟨by rw [hl]; show 2 ≤ 6; decide, by rw [hl]; show 6 ≤ 7; decide, hd⟩
theorem wholeT {n : Nat} (h : 2 ≤ n) : ¬ (HT.sIx n 0 (some 5) = 0 ∧ HT.sIx n n none = n) := fun z => by
  have z1 : HT.sIx n 0 (some ((5 : Nat) : Int)) = 0 := z.1
  rw [HT.sIx_nat] at z1
  omega
theorem bs_few {s : Stm} (fo : Form s) : s.bs.length ≤ 2 := by
  cases fo with
  | iff => exact (by decide : 2 ≤ 2)
  | whl => exact (by decide : 1 ≤ 2)
  | _ => exact (by decide : 0 ≤ 2)
theorem flT_len : ∀ l : List (Nat × Stm), l.length ≤ (flT l).length
  | [] => Nat.zero_le _
  | p :: r => by
    have := flT_len r
    rw [flT_cons, List.length_cons, List.length_cons, List.length_append]
    omega
theorem rev_part {α : Type} (l : List α) (i : Nat) : (l.reverse.drop i).reverse ++ (l.reverse.take i).reverse = l := by
  rw [← List.reverse_append, List.take_append_drop, List.reverse_reverse]
theorem rev_take {α : Type} {l : List α} {i : Nat} {c : α} (h : l[i]? = some c) : (l.take (i + 1)).reverse = c :: (l.take i).reverse := by
  rw [List.take_add_one, h, List.reverse_append]
  rfl
/-- one list more on the pile -/
theorem pile_push {K : PySem.W.Frag} {H : Hp} {pl pb : Addr} {tv bvs : List V} {x : V} {Q : VK} (hpl : H pl = some (.lst tv.reverse)) (ex : x = .ref pb) (hpb : H pb = some (.lst bvs)) (few : tv.length + bvs.length ≤ 100000)
    (q : ∀ pl' H', Same H H' → H pl' = none → H' pl' = some (.lst (bvs ++ tv).reverse) → Q (.ref pl') H') :
    ∃ (a : Addr) (xs : List V), x = .ref a ∧ (SqL K H a xs ∨ SqT K H a xs) ∧ ∀ q1, H q1 = none → rCat (.ref pl) (.ref q1) (upd H q1 (.lst xs.reverse)) Q := by
  subst ex
  refine ⟨pb, bvs, rfl, .inl (SqL.of hpb), fun q1 hq1 => ?_⟩
  refine ⟨pl, q1, _, _, rfl, rfl, (nw hq1 _) _ _ hpl, upd_same, small5 (by rw [List.length_reverse, List.length_reverse]; exact few), fun q2 hq2 => ?_⟩
  refine q q2 _ ((nw hq1 _).trans (nw hq2 _)) ((nw hq1 (.lst bvs.reverse)).free hq2) ?_
  rw [upd_same, List.reverse_append]
def Pg.all (D : Pg) : List (Nat × Stm) := D.hds.flatMap fun c => flN 6 c.b
section
variable {P : Program} {w : World} {K : PySem.W.Frag} {mg : Str → Option Value} {base : Heap}
def sp_order : Sp := fun vs H Q _ => ∃ (u : V) (D : Pg) (S : List Addr), vs = [u] ∧ D.Wf ∧ Sb S H ∧ R H S u D.toD ∧ D.all.length ≤ 63 ∧
  ∀ p H' ys, Same H H' → H' p = some (.lst ys) → p ∉ S → RA H' S ys (D.all.map dN) → Q (.ref p) H'
theorem ok_order (d : Df K mg "_law_in_order" s_order pp_order) (T : Tx mg) : Ok P w K mg base 1 "_law_in_order" pp_order sp_order := by
  refine d.mk sc_order (fun vs H Q E h => ?_) (fun f cdv A outer s H vs Q E hr h => ?_)
  · obtain ⟨u, D, S, rfl, _⟩ := h; rfl
  obtain ⟨u, D, S, rfl, wf, sb, ru, few, q⟩ := h
  refine ⟨_, (pss_cons (ps_set (i := 1) sc_order.nd rfl (by first | exact .inl rfl | exact .inr rfl) (pe_lst pa_nil))
      (pss_cons (ps_set (i := 2) sc_order.nd rfl (by first | exact .inl rfl | exact .inr rfl) (pe_lst pa_nil))
      (pss_cons (ps_for PassesOwn.never rfl (pi_listK K rfl (pe_listRev rfl (by rfl) T.list (by rfl) T.reversed (pe_ix (ix_tupK K rfl) (pv 0) pe_int (fun _ _ => rfl)))) (pg_tupK (n := 3) K rfl rfl (pgs_cons (pg_name (i := 3) sc_order.nd rfl (by first | exact .inl rfl | exact .inr rfl)) (pgs_cons (pg_name (i := 4) sc_order.nd rfl (by first | exact .inl rfl | exact .inr rfl)) (pgs_cons (pg_name (i := 5) sc_order.nd rfl (by first | exact .inl rfl | exact .inr rfl)) pgs_nil)))) (pss_one (ps_set (i := 2) sc_order.nd rfl (by first | exact .inl rfl | exact .inr rfl) (pe_op op_cat (pv 2) (pe_listRev rfl (by rfl) T.list (by rfl) T.reversed (pv 5))))))
      (pss_cons (ps_while PassesOwn.never (pt_cmpR (op_neNilK K rfl hr.units) (pv 2) (pe_lst pa_nil) (nomark _)) (pss_cons (ps_set (i := 6) sc_order.nd rfl (by first | exact .inl rfl | exact .inr rfl) (pe_bm0 PySem.F.plainAttrs_list PySem.F.slot_list_pop PySem.F.type_list_pop mt_pop (pv 2)))
      (pss_cons (ps_expr (pe_bm PySem.F.plainAttrs_list PySem.F.slot_list_append PySem.F.type_list_append mt_append (pv 1) (pa_cons (pv 6) pa_nil)))
      (pss_one (ps_for PassesOwn.never rfl (pi_listK K rfl (pe_listRev rfl (by rfl) T.list (by rfl) T.reversed (pe_slice (sl_tupK K rfl) (pv 6) (po_some pe_int) po_none))) (pg_name (i := 7) sc_order.nd rfl (by first | exact .inl rfl | exact .inr rfl)) (pss_one (ps_set (i := 2) sc_order.nd rfl (by first | exact .inl rfl | exact .inr rfl) (pe_op op_cat (pv 2) (pe_listRev rfl (by rfl) T.list (by rfl) T.reversed (pv 7))))))))))
      (pss_one (ps_ret (pv 1))))))), ?_⟩
  refine ⟨Nat.zero_le _, fun p hp => ⟨Nat.zero_le _, fun pl0 hpl0 => ?_⟩⟩
  have s1 := nw hp (.lst [])
  have s2 := nw hpl0 (.lst [])
  have np0 : p ≠ pl0 := ne_of_none upd_same hpl0
  have fp0 : H pl0 = none := s1.free hpl0
  obtain ⟨pa, pxs, pb, hvs, rfl, hpa, lpx, hpx, hpb, npb, rhs⟩ := part_at ru (show 3 < 4 by decide)
  have s12 := s1.trans s2
  refine ⟨.ref pa, rfl, pa, _, _, .ref pb, rfl, rfl, SqT.of (s12 _ _ hpa), at_of (j := 3) rfl hpx, pb, hvs, rfl, .inl (SqL.of (s12 _ _ hpb)), fun rq hrq => ⟨rq, rfl, ⟨_, SqL.of upd_same⟩, ?_⟩⟩
  have s3 := nw hrq (.lst hvs.reverse)
  have s123 := s12.trans s3
  generalize hH1 : upd (upd (upd H p (.lst [])) pl0 (.lst [])) rq (.lst hvs.reverse) = H1 at s3 s123
  have hrq1 : H1 rq = some (.lst hvs.reverse) := by rw [← hH1]; exact upd_same
  have hp1 : H1 p = some (.lst []) := s3 _ _ (s2 _ _ upd_same)
  have hpl1 : H1 pl0 = some (.lst []) := s3 _ _ upd_same
  have rrev := rhs.reverse
  have e3 : (D.part 3).reverse = D.hds.reverse.map Hd.toD := List.map_reverse.symm
  rw [e3] at rrev
  have lrev := rrev.length
  rw [List.length_map] at lrev
  let todo : Nat → List (Nat × Stm) := fun i => (D.hds.reverse.take i).reverse.flatMap fun c => lv 6 c.b
  have allE : ∀ i, ∃ pre, D.all = pre ++ flT (todo i) := fun i => by
    refine ⟨(D.hds.reverse.drop i).reverse.flatMap fun c => flN 6 c.b, ?_⟩
    have e : flT (todo i) = (D.hds.reverse.take i).reverse.flatMap fun c => flN 6 c.b := by
      show List.flatMap _ (List.flatMap _ _) = _
      rw [List.flatMap_assoc]
      congr 1
      funext c
      exact flT_lv 6 c.b
    rw [e, ← List.flatMap_append, rev_part]
    rfl
  have fewT : ∀ i, (todo i).length ≤ 63 := fun i => by
    obtain ⟨pre, e⟩ := allE i
    have := flT_len (todo i)
    have l := congrArg List.length e
    rw [List.length_append] at l
    omega
  refine for_src (Hb := H1) (Src.list (K := K) (SqL.of hrq1)) (fun i σ H' => ∃ pl tv o3 o4 o5, σ = [some (.ref pa), some (.ref p), some (.ref pl), o3, o4, o5, none, none] ∧ Same H1 H' ∧ H pl = none ∧ p ≠ pl ∧ H' pl = some (.lst tv.reverse) ∧ RA H S tv ((todo i).map dN))
    ⟨pl0, [], none, none, none, rfl, Same.refl _, fp0, np0, hpl1, .nil⟩ (fun i σ H' j => by obtain ⟨_, _, _, _, _, _, sm, _⟩ := j; exact sm) ?_ ?_
  · rintro i x σ H' hi hx ⟨pl, tv, o3, o4, o5, rfl, sm, fpl, npl, hpl, rtv⟩
    obtain ⟨c, a', pn', pb', hc, rfl, ha', hn', rb', rn'⟩ := hand_at rrev hx
    have sH := s123.trans sm
    obtain ⟨pb2, bvs, e, hb2, _, rbv⟩ := rb'.list
    cases e
    have vc := (wf.ok c (List.mem_reverse.mp (List.mem_of_getElem? hc))).val
    rw [lv_data vc] at rbv
    have lt := rtv.length
    have lb := rbv.length
    rw [List.length_map] at lt lb
    have f1 := fewT (i + 1)
    have et : todo (i + 1) = lv 6 c.b ++ todo i := by
      show List.flatMap _ _ = _ ++ List.flatMap _ _
      rw [rev_take hc, List.flatMap_cons]
    have f1 : (lv 6 c.b ++ todo i).length ≤ 63 := by rw [← et]; exact f1
    rw [List.length_append] at f1
    refine ⟨a', _, rfl, SqT.of (sH _ _ ha'), rfl, .str c.x, _, rfl, .ref pn', _, rfl, .ref pb', _, rfl, rfl, .ref pl, rfl, .ref pb', rfl, ?_⟩
    refine pile_push hpl rfl (sH _ _ hb2) (by omega) fun pl' H2 s4 fpl' hpl' => ?_
    refine ⟨pl', bvs ++ tv, _, _, _, rfl, sm.trans s4, (sH.free fpl'), (ne_of_none (sm _ _ hp1) fpl'), hpl', ?_⟩
    rw [et, List.map_append]
    exact rbv.append rtv
  · rintro σ H' ⟨pl, tv, o3, o4, o5, rfl, sm, fpl, npl, hpl, rtv⟩
    have eall : flT (todo hvs.reverse.length) = D.all := by
      have z : todo hvs.reverse.length = D.hds.flatMap fun c => lv 6 c.b := by
        show List.flatMap _ _ = _
        rw [lrev, List.take_length, List.reverse_reverse]
      rw [z]
      show List.flatMap _ (List.flatMap _ _) = _
      rw [List.flatMap_assoc]
      show List.flatMap _ _ = List.flatMap _ _
      congr 1
      funext c
      exact flT_lv 6 c.b
    have vall : ∀ p ∈ todo hvs.reverse.length, Val (p.1 + 1) p.2 := fun t mt => by
      obtain ⟨c, mc, mt⟩ := List.mem_flatMap.mp mt
      obtain ⟨t', mt', rfl⟩ := List.mem_map.mp mt
      exact (wf.ok c (List.mem_reverse.mp (List.mem_of_mem_take (List.mem_reverse.mp mc)))).val t' mt'
    generalize todo hvs.reverse.length = td at rtv eall vall
    refine ⟨fun m σ H' => ∃ (pl : Addr) (tv acc : List V) (td done : List (Nat × Stm)) (o3 o4 o5 o6 o7 : Option V), m = (flT td).length ∧ σ = [some (.ref pa), some (.ref p), some (.ref pl), o3, o4, o5, o6, o7] ∧ Same H H' ∧ H pl = none ∧ p ≠ pl ∧ H' p = some (.lst acc) ∧ H' pl = some (.lst tv.reverse) ∧
      RA H S tv (td.map dN) ∧ RA H S acc (done.map dN) ∧ done ++ flT td = D.all ∧ ∀ t ∈ td, Val (t.1 + 1) t.2, ⟨_, pl, tv, [], td, [], o3, o4, o5, none, none, rfl, rfl, s123.trans sm, fpl, npl, sm _ _ hp1, hpl, rtv, .nil, eall, vall⟩, ?_⟩
    rintro m σ H2 ⟨pl, tv, acc, td, done, o3, o4, o5, o6, o7, rfl, rfl, sH, fpl, npl, hacc, hpl, rtv, racc, eall, vall⟩
    refine ⟨.ref pl, rfl, Nat.zero_le _, fun pe hpe => ⟨pl, pe, tv.reverse, rfl, rfl, SqL.of ((nw hpe _) _ _ hpl), SqL.of upd_same, _, rfl, ?_⟩⟩
    have se := nw hpe (.lst [])
    cases td with
    | nil =>
      have etv := rtv.nil_inv
      subst etv
      refine iteF ⟨.ref p, rfl, q p _ acc (sH.trans se) (se _ _ hacc) (sb.out hp) ?_⟩
      have e : done = D.all := by rw [← eall]; exact (List.append_nil _).symm
      rw [← e]
      exact RA.mono (sH.trans se) racc
    | cons t td =>
      obtain ⟨v0, tv', rfl, rv0, rtv'⟩ := rtv.uncons
      have hne : (!(v0 :: tv').reverse.isEmpty) = true := by simp
      refine ite2 (fun _ => ?_) (fun z => absurd hne z)
      refine ⟨fun σ' H' => ∃ m', m' < _ ∧ _, fun σ' H' z => z, ?_⟩
      have e1 : (v0 :: tv').reverse = tv'.reverse ++ [v0] := List.reverse_cons
      have hlast : (v0 :: tv').reverse[(v0 :: tv').reverse.length - 1]? = some v0 := by
        rw [e1, List.length_append]
        show (tv'.reverse ++ [v0])[tv'.reverse.length + 1 - 1]? = _
        rw [Nat.add_sub_cancel, List.getElem?_append_right (Nat.le_refl _), Nat.sub_self]
        rfl
      have hdl : (v0 :: tv').reverse.dropLast = tv'.reverse := by rw [e1, List.dropLast_concat]
      refine ⟨.ref pl, rfl, .inl ⟨rfl, _, SqL.of (se _ _ hpl)⟩, pl, _, v0, rfl, rfl, se _ _ hpl, hlast, ?_⟩
      rw [hdl]
      have sH3 : Same H (upd (upd H2 pe (.lst [])) pl (.lst tv'.reverse)) := fun c o z => by
        rw [upd_ne (ne_of_none z fpl)]
        exact se _ _ (sH _ _ z)
      have hacc3 : (upd (upd H2 pe (.lst [])) pl (.lst tv'.reverse)) p = some (.lst acc) := by
        rw [upd_ne npl]
        exact se _ _ hacc
      have hpl3 : (upd (upd H2 pe (.lst [])) pl (.lst tv'.reverse)) pl = some (.lst tv'.reverse) := upd_same
      generalize upd (upd H2 pe (.lst [])) pl (.lst tv'.reverse) = H3 at sH3 hacc3 hpl3
      have la := racc.length
      rw [List.length_map] at la
      have lall := congrArg List.length eall
      rw [List.length_append, flT_cons, List.length_cons, List.length_append] at lall
      refine ⟨.ref p, rfl, .inl ⟨rfl, _, SqL.of hacc3⟩, v0, rfl, p, acc, v0, rfl, rfl, hacc3, lt5 (by omega), ?_⟩
      have sH4 : Same H (upd H3 p (.lst (acc ++ [v0]))) := fun c o z => by
        rw [upd_ne (ne_of_none z hp)]
        exact sH3 _ _ z
      have hacc4 : (upd H3 p (.lst (acc ++ [v0]))) p = some (.lst (acc ++ [v0])) := upd_same
      have hpl4 : (upd H3 p (.lst (acc ++ [v0]))) pl = some (.lst tv'.reverse) := by
        rw [upd_ne npl.symm]
        exact hpl3
      generalize upd H3 p (.lst (acc ++ [v0])) = H4 at sH4 hacc4 hpl4
      have vt := vall t (List.mem_cons_self ..)
      obtain ⟨a, xs, rfl, ha, l2, l7, rdrop⟩ := drop5_at rv0 vt.1
      refine ⟨.ref a, rfl, 5, rfl, a, xs, rfl, SqT.of (sH4 _ _ ha), wholeT l2, fun p5 hp5 => ⟨p5, xs.drop 5, rfl, .inr (SqT.of (by rw [cut5]; exact upd_same)), fun rq2 hrq2 => ⟨rq2, rfl, ⟨_, SqL.of upd_same⟩, ?_⟩⟩⟩
      have s5 := (nw hp5 (.tup (cutV xs (some 5) none))).trans (nw hrq2 (.lst (xs.drop 5).reverse))
      have hrq5 : (upd (upd H4 p5 (.tup (cutV xs (some 5) none))) rq2 (.lst (xs.drop 5).reverse)) rq2 = some (.lst (xs.drop 5).reverse) := upd_same
      generalize upd (upd H4 p5 (.tup (cutV xs (some 5) none))) rq2 (.lst (xs.drop 5).reverse) = H5 at s5 hrq5
      have sH5 := sH4.trans s5
      have hacc5 := s5 _ _ hacc4
      have hpl5 := s5 _ _ hpl4
      have rrev := rdrop.reverse
      rw [← List.map_reverse] at rrev
      have lrev := rrev.length
      rw [List.length_map] at lrev
      have ltd := flT_len td
      have lfl : (t.2.bs.flatMap (lv t.1)).length ≤ (flT (t.2.bs.flatMap (lv t.1))).length := flT_len _
      let todo2 : Nat → List (Nat × Stm) := fun j => (t.2.bs.reverse.take j).reverse.flatMap (lv t.1) ++ td
      have few2 : ∀ j, (todo2 j).length ≤ 63 := fun j => by
        show (_ ++ td).length ≤ 63
        have e := congrArg (fun l : List (List Stm) => (l.flatMap (lv t.1)).length) (rev_part t.2.bs j)
        simp only [List.flatMap_append, List.length_append] at e
        rw [List.length_append]
        omega
      refine for_src (Hb := H5) (Src.list (K := K) (SqL.of hrq5)) (fun j σ H' => ∃ pl tv o7, σ = [some (.ref pa), some (.ref p), some (.ref pl), o3, o4, o5, some (.ref a), o7] ∧ Same H5 H' ∧ H pl = none ∧ p ≠ pl ∧ H' pl = some (.lst tv.reverse) ∧ RA H S tv ((todo2 j).map dN))
        ⟨pl, tv', o7, rfl, Same.refl _, fpl, npl, hpl5, rtv'⟩ (fun j σ H' z => by obtain ⟨_, _, _, _, sm, _⟩ := z; exact sm) ?_ ?_
      · rintro j x σ H' hj hx ⟨pl, tv, o7, rfl, sm, fpl, npl, hpl, rtv⟩
        obtain ⟨dd, hdd, rx⟩ := rrev.getV hx
        obtain ⟨c, hc, rfl⟩ := map_get hdd
        obtain ⟨pb2, bvs, rfl, hb2, _, rbv⟩ := rx.list
        have mc : c ∈ t.2.bs := List.mem_reverse.mp (List.mem_of_getElem? hc)
        rw [lv_data (vt.2 c mc)] at rbv
        have f1 := few2 (j + 1)
        have et : todo2 (j + 1) = lv t.1 c ++ todo2 j := by
          show List.flatMap _ _ ++ td = _ ++ (List.flatMap _ _ ++ td)
          rw [rev_take hc, List.flatMap_cons, List.append_assoc]
        have f1 : (lv t.1 c ++ todo2 j).length ≤ 63 := by rw [← et]; exact f1
        rw [List.length_append] at f1
        have lt := rtv.length
        have lb := rbv.length
        rw [List.length_map] at lt lb
        have sHH := sH5.trans sm
        refine ⟨.ref pl, rfl, .ref pb2, rfl, ?_⟩
        refine pile_push hpl rfl (sHH _ _ hb2) (by omega) fun pl' H6 s6 fpl' hpl' => ?_
        refine ⟨pl', bvs ++ tv, _, rfl, sm.trans s6, sHH.free fpl', ne_of_none (sm _ _ hacc5) fpl', hpl', ?_⟩
        rw [et, List.map_append]
        exact rbv.append rtv
      · rintro σ H' ⟨pl, tv, o7, rfl, sm, fpl, npl, hpl, rtv⟩
        have ez : todo2 (xs.drop 5).reverse.length = t.2.bs.flatMap (lv t.1) ++ td := by
          show List.flatMap _ _ ++ td = _
          rw [lrev, List.take_length, List.reverse_reverse]
        rw [ez] at rtv
        refine ⟨(flT (t.2.bs.flatMap (lv t.1) ++ td)).length, ?_, pl, tv, acc ++ [.ref a], t.2.bs.flatMap (lv t.1) ++ td, done ++ [t], o3, o4, o5, some (.ref a), o7, rfl, rfl, sH5.trans sm, fpl, npl, sm _ _ hacc5, hpl, rtv, ?_, ?_, fun u mu => ?_⟩
        · rw [flT_append, flT_cons, List.length_cons]
          exact Nat.lt_succ_self _
        · rw [List.map_append]
          exact racc.append (.one rv0)
        · rw [← eall, flT_append, flT_cons, List.append_assoc]
          rfl
        · rcases List.mem_append.mp mu with z | z
          · obtain ⟨c, mc, z⟩ := List.mem_flatMap.mp z
            have vc := vt.2 c mc
            revert z
            generalize t.1 = n at vc
            intro z
            cases n with
            | zero => exact nomatch z
            | succ n =>
              obtain ⟨t', mt', rfl⟩ := List.mem_map.mp z
              exact vc t' mt'
          · exact vall u (List.mem_cons_of_mem _ z)
end
end K14
/-! ## K14V -/
namespace K14
open PySem PySem.Spec PyProof.Rows L2 KR TL
/-! ### methods -/
def MDf (K : PySem.W.Frag) (C : Addr) (m qual : Str) (st : Stmt) (ps : List Str) : Prop := ∃ f fd, Fun K m qual st f fd ∧ Binds K fd ps [] ∧ Meth K C m f
def MOk (P : Program) (w : World) (K : PySem.W.Frag) (mg : Str → Option Value) (base : Heap) (C : Addr) (k : Nat) (m : Str) (ps : List Str) (sp : Sp) : Prop := ∃ f fd, Meth K C m f ∧ Binds K fd ps [] ∧ FnOk P w K mg base CX0 k f fd ps sp
def KDf (K : PySem.W.Frag) (C : Addr) (qual : Str) (st : Stmt) (ps : List Str) : Prop := ∃ f fd, Fun K "__init__" qual st f fd ∧ Binds K fd ps [] ∧ Mk K C f
def KOk (P : Program) (w : World) (K : PySem.W.Frag) (mg : Str → Option Value) (base : Heap) (C : Addr) (k : Nat) (ps : List Str) (sp : Sp) : Prop := ∃ f fd, Mk K C f ∧ Binds K fd ps [] ∧ FnOk P w K mg base CX0 k f fd ps sp
structure Kls (K : PySem.W.Frag) (mg : Str → Option Value) (C : Addr) : Prop where
  cls : Cls K C
  kn : NoAttr K C "known"
  mn : NoAttr K C "many"
  cm : mg "Looker" = some (.ref C)
section
variable {P : Program} {w : World} {K : PySem.W.Frag} {mg : Str → Option Value} {base : Heap}
theorem MDf.mk {C : Addr} {m qual : Str} {st : Stmt} {N ps : List Str} {k : Nat} {sp : Sp} (d : MDf K C m qual st ps) (S : FnScope N ps (defScope st)) (len : ∀ vs H Q E, sp vs H Q E → vs.length = ps.length)
    (hbody : ∀ (f : Addr) (cdv : Value) (A : Around) (outer : List Env) (s : Shared) (H : Hp) (vs : List V) (Q : VK) (E : XK), Room k (A.deeper (envOfC qual (defScope st) s.heap.objs.size f cdv)) → sp vs H Q E →
      ∃ t, PSs (cxOf CX0 P w K mg base N qual (defScope st) f cdv A outer s H E).nox (defBody st) t ∧ t { nx := fun _ H' => Q .non H', rt := Q } (start N vs) H) : MOk P w K mg base C (k + 1) m ps sp := by
  obtain ⟨f, fd, F, b, M⟩ := d
  exact ⟨f, fd, M, b, F.ok S len fun cdv A outer s H vs Q E hr h => hbody f cdv A outer s H vs Q E hr h⟩
theorem KDf.mk {C : Addr} {qual : Str} {st : Stmt} {N ps : List Str} {k : Nat} {sp : Sp} (d : KDf K C qual st ps) (S : FnScope N ps (defScope st)) (len : ∀ vs H Q E, sp vs H Q E → vs.length = ps.length)
    (hbody : ∀ (f : Addr) (cdv : Value) (A : Around) (outer : List Env) (s : Shared) (H : Hp) (vs : List V) (Q : VK) (E : XK), Room k (A.deeper (envOfC qual (defScope st) s.heap.objs.size f cdv)) → sp vs H Q E →
      ∃ t, PSs (cxOf CX0 P w K mg base N qual (defScope st) f cdv A outer s H E).nox (defBody st) t ∧ t { nx := fun _ H' => Q .non H', rt := Q } (start N vs) H) : KOk P w K mg base C (k + 1) ps sp := by
  obtain ⟨f, fd, F, b, M⟩ := d
  exact ⟨f, fd, M, b, F.ok S len fun cdv A outer s H vs Q E hr h => hbody f cdv A outer s H vs Q E hr h⟩
end
section
variable {X : Cx} {k j : Nat} {ps : List Str} {sp : Sp} {x m : Str} {p apos pos : Pos} {o e : Expr} {es : List Expr} {t : TA} {ta : TE} {C : Addr}
theorem pmeth {pl : Sem Bool} (G : MOk X.prog X.w X.K X.mg X.base C j m ps sp) (c : Cls X.K C) (hr : Room k X.A) (hk : j ≤ k) (he : PE X o ta) (ha : PA X (e :: es) t)
    (hst : starEach (e :: es) X.env = (false, eval e X.env) :: starEach es X.env := by rfl) (hpl : (backTo pos (starEach es X.env)).any (·.1) = false := by rfl)
    (ht : eval (.Call (.Attribute o m apos) (e :: es) [] pos) X.env = (do
      let ov ← eval o X.env
      standAt apos.atName
      let (f, first) ← holding [ov] (getMethod ov m pl)
      callWith pos f first (backTo pos (starEach (e :: es) X.env)) (backToKw pos (keywordEach [] X.env))) := by rfl) :
    PE X (.Call (.Attribute o m apos) (e :: es) [] pos) (tMeth C m sp [] E0 ta t) := by
  obtain ⟨f, fd, M, b, F⟩ := G
  exact pe_meth (pl := pl) he c M F (hr.mono hk) b .nil pass0 ha hst hpl ht
theorem pmake (G : KOk X.prog X.w X.K X.mg X.base C j ps sp) (hm : X.mg x = some (.ref C)) (hr : Room k X.A) (hk : j + 1 ≤ k) (hg : Gl X x) (ha : PA X (e :: es) t) (hdb : (x == ("__debug__" : Str)) = false := by decide)
    (he : starEach (e :: es) X.env = (false, eval e X.env) :: starEach es X.env := by rfl) (hpl : (backTo pos (starEach es X.env)).any (·.1) = false := by rfl) :
    PE X (.Call (.Name x p) (e :: es) [] pos) (tMake C sp [] E0 t) := by
  obtain ⟨f, fd, M, b, F⟩ := G
  exact pe_make M F (hr.mono hk) hg hm b .nil pass0 ha hdb he hpl
end
/-! ### the looker -/
def kNm : Nat → Str
  | 0 => "tool" | 1 => "store" | 2 => "row" | _ => "hand"
def ftD (a : Str) (k : Int) (x : Str) : PyData := .tuple [.str a, .int k, .str x]
def lookF (D : Pg) (s : Stm) : List PyData := match kindS s.w with
  | none => []
  | some i => if nameS s ∈ D.nm i then (if i = 3 ∧ D.many (nameS s) ≠ (esS s).length then [ftD "numbers" s.k (nameS s)] else []) else [ftD (kNm i) s.k (nameS s)]
theorem lookF_le (D : Pg) (s : Stm) : (lookF D s).length ≤ 1 := by
  unfold lookF
  split
  · exact Nat.zero_le _
  · split
    · split
      · exact Nat.le_refl _
      · exact Nat.zero_le _
    · exact Nat.le_refl _
theorem k_is0 (w : Str) : w ∈ [("take" : Str), "give"] ↔ kindS w = some 0 := by
  unfold kindS
  by_cases h1 : w = "take"
  · subst h1; decide +kernel
  by_cases h2 : w = "give"
  · subst h2; decide +kernel
  by_cases h3 : w = "put"
  · subst h3; decide +kernel
  by_cases h4 : w = "get"
  · subst h4; decide +kernel
  by_cases h5 : w = "draw"
  · subst h5; decide +kernel
  by_cases h6 : w = "start"
  · subst h6; decide +kernel
  simp [h1, h2, h3, h4, h5, h6]
theorem k_is1 (w : Str) : w ∈ [("put" : Str), "get"] ↔ kindS w = some 1 := by
  unfold kindS
  by_cases h1 : w = "take"
  · subst h1; decide +kernel
  by_cases h2 : w = "give"
  · subst h2; decide +kernel
  by_cases h3 : w = "put"
  · subst h3; decide +kernel
  by_cases h4 : w = "get"
  · subst h4; decide +kernel
  by_cases h5 : w = "draw"
  · subst h5; decide +kernel
  by_cases h6 : w = "start"
  · subst h6; decide +kernel
  simp [h1, h2, h3, h4, h5, h6]
theorem k_is2 (w : Str) : w = "draw" ↔ kindS w = some 2 := by
  unfold kindS
  by_cases h1 : w = "take"
  · subst h1; decide +kernel
  by_cases h2 : w = "give"
  · subst h2; decide +kernel
  by_cases h3 : w = "put"
  · subst h3; decide +kernel
  by_cases h4 : w = "get"
  · subst h4; decide +kernel
  by_cases h5 : w = "draw"
  · subst h5; decide +kernel
  by_cases h6 : w = "start"
  · subst h6; decide +kernel
  simp [h1, h2, h3, h4, h5, h6]
theorem k_is3 (w : Str) : w = "start" ↔ kindS w = some 3 := by
  unfold kindS
  by_cases h1 : w = "take"
  · subst h1; decide +kernel
  by_cases h2 : w = "give"
  · subst h2; decide +kernel
  by_cases h3 : w = "put"
  · subst h3; decide +kernel
  by_cases h4 : w = "get"
  · subst h4; decide +kernel
  by_cases h5 : w = "draw"
  · subst h5; decide +kernel
  by_cases h6 : w = "start"
  · subst h6; decide +kernel
  simp [h1, h2, h3, h4, h5, h6]
theorem look_lack {D : Pg} {s : Stm} {i : Nat} (h : kindS s.w = some i) (h3 : i ≠ 3) : lookF D s = if nameS s ∈ D.nm i then [] else [ftD (kNm i) s.k (nameS s)] := by
  unfold lookF
  rw [h]
  by_cases c : nameS s ∈ D.nm i
  · show (if nameS s ∈ D.nm i then (if i = 3 ∧ _ then _ else []) else _) = _
    rw [if_pos c, if_pos c, if_neg fun z => h3 z.1]
  · show (if nameS s ∈ D.nm i then (if i = 3 ∧ _ then _ else []) else _) = _
    rw [if_neg c, if_neg c]
theorem look_none {D : Pg} {s : Stm} (h : kindS s.w = none) : lookF D s = [] := by
  unfold lookF
  rw [h]
/-- a statement in the heap: word, row, name, expressions -/
theorem name_at {H : Hp} {S : List Addr} {v : V} {n : Nat} {s : Stm} (r : R H S v (Stm.toD (n + 1) s)) (fo : Form s) :
    ∃ a xs, v = .ref a ∧ H a = some (.tup xs) ∧ xs[0]? = some (.str s.w) ∧ xs[1]? = some (.int s.k) ∧ (∀ i, kindS s.w = some i → xs[if i = 2 then 3 else 2]? = some (.str (nameS s))) ∧
      (kindS s.w = some 3 → ∃ pe es, xs[3]? = some (.ref pe) ∧ H pe = some (.lst es) ∧ RA H S es (esS s)) := by
  obtain ⟨a, xs, rfl, ha, _, ra⟩ := stm_at r
  refine ⟨a, _, rfl, ha, rfl, rfl, ?_⟩
  cases fo with
  | deed hw hn he =>
    rename_i w' k' nm' e'
    obtain ⟨x1, ys1, rfl, rx1, ra3⟩ := ra.uncons
    have e1 := rx1.str_inv
    subst e1
    have hd : ¬ w' = "draw" := fun z => by subst z; exact absurd hw (by decide +kernel)
    have hs : ¬ w' = "start" := fun z => by subst z; exact absurd hw (by decide +kernel)
    refine ⟨fun i hi => ?_, fun z => absurd ((k_is3 w').mpr z) hs⟩
    have hi2 : i ≠ 2 := fun z => hd ((k_is2 w').mpr (z ▸ hi))
    rw [if_neg hi2]
    have en : nameS (.mk w' k' [.str nm', e'] []) = nm' := if_neg hd
    rw [en]
    rfl
  | wait he => exact ⟨fun i hi => (by have z : (none : Option Nat) = some i := hi; cases z), fun z => (by have z : (none : Option Nat) = some 3 := z; cases z)⟩
  | draw hv hr =>
    obtain ⟨x1, ys1, rfl, rx1, ra3⟩ := ra.uncons
    obtain ⟨x2, ys2, rfl, rx2, ra4⟩ := ra3.uncons
    have e2 := rx2.str_inv
    subst e2
    refine ⟨fun i hi => ?_, fun z => by have z : some 2 = some 3 := z; cases z⟩
    have z : some 2 = some i := hi
    cases z
    rfl
  | start hn he hl =>
    obtain ⟨x1, ys1, rfl, rx1, ra3⟩ := ra.uncons
    obtain ⟨x2, ys2, rfl, rx2, ra4⟩ := ra3.uncons
    have e1 := rx1.str_inv
    subst e1
    obtain ⟨pe, es, rfl, he', _, rae⟩ := rx2.list
    refine ⟨fun i hi => ?_, fun z => ⟨pe, es, rfl, he', rae⟩⟩
    have z : some 3 = some i := hi
    cases z
    rfl
  | stop => exact ⟨fun i hi => (by have z : (none : Option Nat) = some i := hi; cases z), fun z => (by have z : (none : Option Nat) = some 3 := z; cases z)⟩
  | iff => exact ⟨fun i hi => (by have z : (none : Option Nat) = some i := hi; cases z), fun z => (by have z : (none : Option Nat) = some 3 := z; cases z)⟩
  | whl => exact ⟨fun i hi => (by have z : (none : Option Nat) = some i := hi; cases z), fun z => (by have z : (none : Option Nat) = some 3 := z; cases z)⟩
def lf (kd md : Addr) : List (Str × V) := putF "many" (.ref md) (putF "known" (.ref kd) [])
theorem lf_known (kd md : Addr) : (lf kd md).lookup ("known" : Str) = some (.ref kd) := by
  unfold lf
  rw [lookup_putF, if_neg (by decide +kernel), lookup_putF, if_pos rfl]
theorem lf_many (kd md : Addr) : (lf kd md).lookup ("many" : Str) = some (.ref md) := by
  unfold lf
  rw [lookup_putF, if_pos rfl]
theorem lf_no (kd md : Addr) {m : Str} (h1 : ¬ m = "many") (h2 : ¬ m = "known") : (lf kd md).lookup m = none := by
  unfold lf
  rw [lookup_putF, if_neg h1, lookup_putF, if_neg h2]
  all_goals rfl
structure LookAt (C : Addr) (H : Hp) (p : Addr) (D : Pg) : Prop where
  ob : ∃ dx kd md kk mm, H p = some (.ins C dx (lf kd md)) ∧ H kd = some (.dK kk) ∧ H md = some (.dK mm) ∧ (∀ i, i < 4 → ∃ l, valV kk (.inr (kNm i)) = some (.ref l) ∧ H l = some (.lst ((D.nm i).map V.str))) ∧ (∀ x ∈ D.nm 3, valV mm (.inr x) = some (.int (D.many x : Nat)))
theorem LookAt.same {C : Addr} {H H' : Hp} {p : Addr} {D : Pg} (s : Same H H') (h : LookAt C H p D) : LookAt C H' p D := by
  obtain ⟨dx, kd, md, kk, mm, h1, h2, h3, h4, h5⟩ := h.ob
  refine ⟨dx, kd, md, kk, mm, s _ _ h1, s _ _ h2, s _ _ h3, fun i hi => ?_, h5⟩
  obtain ⟨l, a, b⟩ := h4 i hi
  exact ⟨l, a, s _ _ b⟩
section
variable {P : Program} {w : World} {K : PySem.W.Frag} {mg : Str → Option Value} {base : Heap}
def sp_lack (C : Addr) : Sp := fun vs H Q _ => ∃ (p : Addr) (i : Nat) (k : Int) (x : Str) (D : Pg) (S : List Addr), vs = [.ref p, .str (kNm i), .int k, .str x] ∧ i < 4 ∧ LookAt C H p D ∧ Sb S H ∧
  ∀ l H' ys, Same H H' → H l = none → H' l = some (.lst ys) → RA H' S ys (if x ∈ D.nm i then [] else [ftD (kNm i) k x]) → Q (.ref l) H'
theorem ok_lack {C : Addr} (d : MDf K C "lack" "Looker.lack" s_lack pp_lack) (kl : Kls K mg C) : MOk P w K mg base C 1 "lack" pp_lack (sp_lack C) := by
  refine d.mk sc_lack (fun vs H Q E h => ?_) (fun f cdv A outer s H vs Q E hr h => ?_)
  · obtain ⟨p, i, k, x, D, S, rfl, _⟩ := h; rfl
  obtain ⟨p, i, k, x, D, S, rfl, hi, hL, sb, q⟩ := h
  obtain ⟨dx, kd, md, kk, mm, h1, h2, h3, h4, h5⟩ := hL.ob
  obtain ⟨l, hl, hl'⟩ := h4 i hi
  refine ⟨_, (pss_cons (ps_if (pt_cmpR (op_inK K rfl) (pv 3) (pe_dget (hu_of hr) (pe_fld (pv 0) rfl) (pv 1) (fun _ _ => rfl)) (by rfl)) (pss_one (ps_ret (pe_lst pa_nil))) pss_nil)
      (pss_one (ps_ret (pe_lst (pa_cons (pe_tup (pa_cons (pv 1) (pa_cons (pv 2) (pa_cons (pv 3) pa_nil)))) pa_nil))))), ?_⟩
  refine if_r (b := decide (x ∈ D.nm i)) (fun Q1 q1 => ?_) (fun hw H2 s2 => ?_) (fun hw H2 s2 => ?_)
  · refine ⟨.str x, rfl, .ref p, rfl, p, C, dx, _, .ref kd, rfl, h1, kl.cls, kl.kn, lf_known _ _, .str (kNm i), rfl, kd, .ref l, rfl, (by have z := DGet.k (k := .inr (kNm i)) h2; rw [hl] at z; exact z), rin_f (SqL.of hl') ⟨_, rfl, q1 _ (Same.refl _)⟩⟩
  · refine ⟨Nat.zero_le _, fun p2 hp2 => q p2 _ [] (s2.trans (nw hp2 _)) (s2.free hp2) upd_same ?_⟩
    rw [if_pos (of_decide_eq_true hw)]
    exact .nil
  · refine ⟨.str (kNm i), rfl, .int k, rfl, .str x, rfl, small5 (by simp), fun p1 hp1 => ⟨small5 (by simp), fun p2 hp2 => ?_⟩⟩
    refine q p2 _ [.ref p1] (s2.trans ((nw hp1 _).trans (nw hp2 _))) ((s2.trans (nw hp1 _)).free hp2) upd_same ?_
    rw [if_neg (of_decide_eq_false hw)]
    exact .one ((R.newT (sb.same s2) hp1 (.cons (.rstr _) (.cons (.rint _) (.one (.rstr _))))).mono (nw hp2 _))
def sp_look (C : Addr) : Sp := fun vs H Q _ => ∃ (p : Addr) (v : V) (n : Nat) (s : Stm) (D : Pg) (S : List Addr), vs = [.ref p, v] ∧ LookAt C H p D ∧ Sb S H ∧ R H S v (s.toD (n + 1)) ∧ Form s ∧
  ∀ l H' ys, Same H H' → H l = none → H' l = some (.lst ys) → RA H' S ys (lookF D s) → Q (.ref l) H'
theorem ok_look {C : Addr} (d : MDf K C "look" "Looker.look" s_look pp_look) (T : Tx mg) (kl : Kls K mg C) (g_lack : MOk P w K mg base C 1 "lack" pp_lack (sp_lack C)) : MOk P w K mg base C 2 "look" pp_look (sp_look C) := by
  refine d.mk sc_look (fun vs H Q E h => ?_) (fun f cdv A outer s H vs Q E hr h => ?_)
  · obtain ⟨p, v, n, s, D, S, rfl, _⟩ := h; rfl
  obtain ⟨p, v, n, st, D, S, rfl, hL, sb, rv, fo, q⟩ := h
  refine ⟨_, (pss_cons (ps_set (i := 2) sc_look.nd rfl (by first | exact .inl rfl | exact .inr rfl) (pe_ix (ix_tupK K rfl) (pv 1) pe_int (fun _ _ => rfl)))
      (pss_cons (ps_if (pt_cmpR (op_inK K rfl) (pv 2) (pe_tup (pa_cons pe_str (pa_cons pe_str pa_nil))) (by rfl)) (pss_one (ps_ret (pmeth g_lack kl.cls hr (by omega) (pv 0) (pa_cons pe_str (pa_cons (pe_ix (ix_tupK K rfl) (pv 1) pe_int (fun _ _ => rfl)) (pa_cons (pe_ix (ix_tupK K rfl) (pv 1) pe_int (fun _ _ => rfl)) pa_nil)))))) pss_nil)
      (pss_cons (ps_if (pt_cmpR (op_inK K rfl) (pv 2) (pe_tup (pa_cons pe_str (pa_cons pe_str pa_nil))) (by rfl)) (pss_one (ps_ret (pmeth g_lack kl.cls hr (by omega) (pv 0) (pa_cons pe_str (pa_cons (pe_ix (ix_tupK K rfl) (pv 1) pe_int (fun _ _ => rfl)) (pa_cons (pe_ix (ix_tupK K rfl) (pv 1) pe_int (fun _ _ => rfl)) pa_nil)))))) pss_nil)
      (pss_cons (ps_if (pt_cmpR op_eq (pv 2) pe_str (nomark _)) (pss_one (ps_ret (pmeth g_lack kl.cls hr (by omega) (pv 0) (pa_cons pe_str (pa_cons (pe_ix (ix_tupK K rfl) (pv 1) pe_int (fun _ _ => rfl)) (pa_cons (pe_ix (ix_tupK K rfl) (pv 1) pe_int (fun _ _ => rfl)) pa_nil)))))) pss_nil)
      (pss_cons (ps_if (pt_cmpR op_ne (pv 2) pe_str (nomark _)) (pss_one (ps_ret (pe_lst pa_nil))) pss_nil)
      (pss_cons (ps_set (i := 3) sc_look.nd rfl (by first | exact .inl rfl | exact .inr rfl) (pmeth g_lack kl.cls hr (by omega) (pv 0) (pa_cons pe_str (pa_cons (pe_ix (ix_tupK K rfl) (pv 1) pe_int (fun _ _ => rfl)) (pa_cons (pe_ix (ix_tupK K rfl) (pv 1) pe_int (fun _ _ => rfl)) pa_nil)))))
      (C8.pss_cut (ps_if (PW.pt (pw_and (pt_cmpR (op_eqNilK K rfl hr.units) (pv 3) (pe_lst pa_nil) (nomark _)) (pw_and1 (pt_cmpR op_ne (pe_dget (hu_of hr) (pe_fld (pv 0) rfl) (pe_ix (ix_tupK K rfl) (pv 1) pe_int (fun _ _ => rfl)) (fun _ _ => rfl)) (pe_callB (call_lenK K rfl) (by rfl) T.len PySem.boot_len (pa_cons (pe_ix (ix_tupK K rfl) (pv 1) pe_int (fun _ _ => rfl)) pa_nil)) (nomark _))))) (pss_one (ps_set (i := 3) sc_look.nd rfl (by first | exact .inl rfl | exact .inr rfl) (pe_lst (pa_cons (pe_tup (pa_cons pe_str (pa_cons (pe_ix (ix_tupK K rfl) (pv 1) pe_int (fun _ _ => rfl)) (pa_cons (pe_ix (ix_tupK K rfl) (pv 1) pe_int (fun _ _ => rfl)) pa_nil)))) pa_nil)))) pss_nil)
      (pss_one (ps_ret (pv 3)))))))))), ?_⟩
  obtain ⟨a, xs, rfl, ha, x0, x1, hnm, hes⟩ := name_at rv fo
  obtain ⟨dx, kd, md, kk, mm, h1, h2, h3, h4, h5⟩ := hL.ob
  have no : ∀ kd md, (lf kd md).lookup ("lack" : Str) = none := fun kd md => lf_no kd md (by decide +kernel) (by decide +kernel)
  refine ⟨.ref a, rfl, a, xs, _, .str st.w, rfl, rfl, SqT.of ha, at_of (j := 0) rfl x0, ?_⟩
  refine g_name ?_
  dsimp only
  refine s_seq ?_
  refine if_r (b := decide (st.w ∈ [("take" : Str), "give"])) (fun Q1 q1 => ⟨.str st.w, rfl, small5 (by simp), fun pt hpt => rin_ft (L := [("take" : Str), "give"]) (SqT.of upd_same) ⟨_, rfl, q1 _ (nw hpt _)⟩⟩) (fun hw H2 s2 => ?_) (fun hw0 H2 s2 => ?_)
  · have hk := (k_is0 _).mp (of_decide_eq_true hw)
    have x2 := hnm 0 hk
    refine ⟨.ref p, rfl, p, dx, _, rfl, s2 _ _ h1, no _ _, .ref a, rfl, a, xs, _, .int st.k, rfl, rfl, SqT.of (s2 _ _ ha), at_of (j := 1) rfl x1, .ref a, rfl, a, xs, _, .str (nameS st), rfl, rfl, SqT.of (s2 _ _ ha), at_of (j := 2) rfl x2, ?_⟩
    exact ⟨p, 0, st.k, nameS st, D, S, rfl, by decide, hL.same s2, sb.same s2, fun l H3 ys s3 fl hl ra => q l H3 ys (s2.trans s3) (s2.free fl) hl (by rw [look_lack hk (by decide)]; exact ra)⟩
  refine t_next ?_
  dsimp only
  refine s_seq ?_
  refine if_r (b := decide (st.w ∈ [("put" : Str), "get"])) (fun Q1 q1 => ⟨.str st.w, rfl, small5 (by simp), fun pt hpt => rin_ft (L := [("put" : Str), "get"]) (SqT.of upd_same) ⟨_, rfl, q1 _ (nw hpt _)⟩⟩) (fun hw H3 s3 => ?_) (fun hw1 H3 s3 => ?_)
  · have hk := (k_is1 _).mp (of_decide_eq_true hw)
    have x2 := hnm 1 hk
    have s23 := s2.trans s3
    refine ⟨.ref p, rfl, p, dx, _, rfl, s23 _ _ h1, no _ _, .ref a, rfl, a, xs, _, .int st.k, rfl, rfl, SqT.of (s23 _ _ ha), at_of (j := 1) rfl x1, .ref a, rfl, a, xs, _, .str (nameS st), rfl, rfl, SqT.of (s23 _ _ ha), at_of (j := 2) rfl x2, ?_⟩
    exact ⟨p, 1, st.k, nameS st, D, S, rfl, by decide, hL.same s23, sb.same s23, fun l H4 ys s4 fl hl ra => q l H4 ys (s23.trans s4) (s23.free fl) hl (by rw [look_lack hk (by decide)]; exact ra)⟩
  have s23 := s2.trans s3
  refine ⟨.str st.w, rfl, rfl, _, rfl, ite2 (fun hw => ?_) (fun hw2 => ?_)⟩
  · have hk := (k_is2 _).mp (V.str.inj (of_decide_eq_true hw))
    have x2 := hnm 2 hk
    refine ⟨.ref p, rfl, p, dx, _, rfl, s23 _ _ h1, no _ _, .ref a, rfl, a, xs, _, .int st.k, rfl, rfl, SqT.of (s23 _ _ ha), at_of (j := 1) rfl x1, .ref a, rfl, a, xs, _, .str (nameS st), rfl, rfl, SqT.of (s23 _ _ ha), at_of (j := 3) rfl x2, ?_⟩
    exact ⟨p, 2, st.k, nameS st, D, S, rfl, by decide, hL.same s23, sb.same s23, fun l H4 ys s4 fl hl ra => q l H4 ys (s23.trans s4) (s23.free fl) hl (by rw [look_lack hk (by decide)]; exact ra)⟩
  refine ⟨.str st.w, rfl, rfl, _, rfl, ite2 (fun hw => ?_) (fun hw3 => ?_)⟩
  · have hk : kindS st.w = none := by
      cases hk : kindS st.w with
      | none => rfl
      | some i =>
        have i4 := kind_lt hk
        match i, i4, hk with
        | 0, _, hk => exact absurd ((k_is0 _).mpr hk) (of_decide_eq_false hw0)
        | 1, _, hk => exact absurd ((k_is1 _).mpr hk) (of_decide_eq_false hw1)
        | 2, _, hk => exact absurd (decide_eq_true (congrArg V.str ((k_is2 _).mpr hk))) hw2
        | 3, _, hk => exact absurd ((k_is3 _).mpr hk) (by simpa using hw)
    refine ⟨Nat.zero_le _, fun p2 hp2 => q p2 _ [] (s23.trans (nw hp2 _)) (s23.free hp2) upd_same ?_⟩
    rw [look_none hk]
    exact .nil
  · have ew : st.w = "start" := by simpa using hw3
    have hk := (k_is3 _).mp ew
    have x2 := hnm 3 hk
    obtain ⟨pe, es, x3, hpe, rae⟩ := hes hk
    have le := rae.length
    refine ⟨.ref p, rfl, p, dx, _, rfl, s23 _ _ h1, no _ _, .ref a, rfl, a, xs, _, .int st.k, rfl, rfl, SqT.of (s23 _ _ ha), at_of (j := 1) rfl x1, .ref a, rfl, a, xs, _, .str (nameS st), rfl, rfl, SqT.of (s23 _ _ ha), at_of (j := 2) rfl x2, ?_⟩
    refine ⟨p, 3, st.k, nameS st, D, S, rfl, by decide, hL.same s23, sb.same s23, fun l H4 ys s4 fl hl ra => ?_⟩
    have s24 := s23.trans s4
    have fl0 := s23.free fl
    have elook : lookF D st = if nameS st ∈ D.nm 3 then (if 3 = 3 ∧ D.many (nameS st) ≠ (esS st).length then [ftD "numbers" st.k (nameS st)] else []) else [ftD (kNm 3) st.k (nameS st)] := by
      unfold lookF
      rw [hk]
    refine ⟨fun σ' H' => ∃ l ys, σ' = [some (.ref p), some (.ref a), some (.str st.w), some (.ref l)] ∧ Same H H' ∧ H l = none ∧ H' l = some (.lst ys) ∧ RA H' S ys (lookF D st), ?_, ?_⟩
    · refine if_r (b := ys.isEmpty && (!decide (V.int (D.many (nameS st) : Nat) = V.int (es.length : Nat)))) (tst_and (fun Q1 q1 => ?_) fun hb H5 s5 Q1 q1 => ?_) (fun hb H5 s5 => ?_) (fun hb H5 s5 => ?_)
      · exact ⟨.ref l, rfl, Nat.zero_le _, fun pe' hpe' => ⟨l, pe', ys, rfl, rfl, SqL.of ((nw hpe' _) _ _ hl), SqL.of upd_same, _, rfl, q1 _ (nw hpe' _)⟩⟩
      · have hin : nameS st ∈ D.nm 3 := by
          refine Decidable.byContradiction fun z => ?_
          rw [if_neg z] at ra
          have := ra.length
          have e0 : ys = [] := List.isEmpty_iff.mp hb
          rw [e0] at this
          cases this
        have s25 := s24.trans s5
        refine ⟨.ref p, rfl, p, C, dx, _, .ref md, rfl, s25 _ _ h1, kl.cls, kl.mn, lf_many _ _, .ref a, rfl, a, xs, _, .str (nameS st), rfl, rfl, SqT.of (s25 _ _ ha), at_of (j := 2) rfl x2, md, .int (D.many (nameS st) : Nat), rfl, (by have z := DGet.k (k := .inr (nameS st)) (s25 _ _ h3); rw [h5 _ hin] at z; exact z), ?_⟩
        exact ⟨.ref a, rfl, a, xs, _, .ref pe, rfl, rfl, SqT.of (s25 _ _ ha), at_of (j := 3) rfl x3, pe, es, rfl, .inl (SqL.of (s25 _ _ hpe)), rfl, _, rfl, q1 _ (Same.refl _)⟩
      · have hb' := (Bool.and_eq_true _ _ ▸ hb : ys.isEmpty = true ∧ _)
        have hin : nameS st ∈ D.nm 3 := by
          refine Decidable.byContradiction fun z => ?_
          rw [if_neg z] at ra
          have := ra.length
          have e0 : ys = [] := List.isEmpty_iff.mp hb'.1
          rw [e0] at this
          cases this
        have hne : D.many (nameS st) ≠ (esS st).length := fun z => by
          have := hb'.2
          rw [z, le] at this
          simp at this
        have s25 := s24.trans s5
        refine ⟨.ref a, rfl, a, xs, _, .int st.k, rfl, rfl, SqT.of (s25 _ _ ha), at_of (j := 1) rfl x1, .ref a, rfl, a, xs, _, .str (nameS st), rfl, rfl, SqT.of (s25 _ _ ha), at_of (j := 2) rfl x2, small5 (by simp), fun p1 hp1 => ⟨small5 (by simp), fun p2 hp2 => ?_⟩⟩
        refine ⟨p2, [.ref p1], rfl, s25.trans ((nw hp1 _).trans (nw hp2 _)), (s25.trans (nw hp1 _)).free hp2, upd_same, ?_⟩
        rw [elook, if_pos hin, if_pos ⟨rfl, hne⟩]
        exact .one ((R.newT (sb.same s25) hp1 (.cons (.rstr _) (.cons (.rint _) (.one (.rstr _))))).mono (nw hp2 _))
      · refine ⟨l, ys, rfl, s24.trans s5, fl0, s5 _ _ hl, ?_⟩
        by_cases hin : nameS st ∈ D.nm 3
        · rw [if_pos hin] at ra
          have e0 := ra.nil_inv
          subst e0
          have he : D.many (nameS st) = (esS st).length := by
            have z : (!decide (V.int (D.many (nameS st) : Nat) = V.int (es.length : Nat))) = false := hb
            have z := V.int.inj (of_decide_eq_true (by simpa using z))
            omega
          rw [elook, if_pos hin, if_neg fun z => z.2 he]
          exact .nil
        · rw [if_neg hin] at ra
          rw [elook, if_neg hin]
          exact ra.mono s5
    · rintro σ' H' ⟨l, ys, rfl, s9, f9, h9, r9⟩
      exact ⟨.ref l, rfl, q l H' ys s9 f9 h9 r9⟩
end
end K14
/-! ## K14W -/
namespace K14
open PySem PySem.Spec PyProof.Rows L2 KR TL
theorem flN_append (n : Nat) (b c : List Stm) : flN n (b ++ c) = flN n b ++ flN n c := by
  cases n with
  | zero => rfl
  | succ n => exact List.flatMap_append
theorem flN_one (n : Nat) (s : Stm) : flN (n + 1) [s] = (n, s) :: s.bs.flatMap (flN n) := by
  show List.flatMap _ [s] = _
  rw [List.flatMap_cons, List.flatMap_nil, List.append_nil]
theorem split_at {α : Type} {l : List α} {i : Nat} {a : α} (h : l[i]? = some a) : l = l.take i ++ a :: l.drop (i + 1) := by
  obtain ⟨hi, e⟩ := List.getElem?_eq_some_iff.mp h
  have z := List.take_append_drop i l
  rw [List.drop_eq_getElem_cons hi, e] at z
  exact z.symm
section
variable {P : Program} {w : World} {K : PySem.W.Frag} {mg : Str → Option Value} {base : Heap}
def sp_inner : Sp := fun vs H Q _ => ∃ (G : Hp) (v : V) (n : Nat) (s : Stm) (S : List Addr), vs = [v] ∧ Same G H ∧ R G S v (s.toD (n + 1)) ∧ Form s ∧
  ∀ p H' ys, Same H H' → H p = none → H' p = some (.lst ys) → RA G S ys (s.bs.map fun b => .list (b.map (Stm.toD n))) → Q (.ref p) H'
theorem ok_inner (d : Df K mg "inner_bodies" s_inner pp_inner) : Ok P w K mg base 1 "inner_bodies" pp_inner sp_inner := by
  refine d.mk sc_inner (fun vs H Q E h => ?_) (fun f cdv A outer s H vs Q E hr h => ?_)
  · obtain ⟨G, v, n, s, S, rfl, _⟩ := h; rfl
  obtain ⟨G, v, n, st, S, rfl, sG, rv, fo, q⟩ := h
  refine ⟨_, (pss_cons (ps_if (pt_cmpR op_eq (pe_ix (ix_tupK K rfl) (pv 0) pe_int (fun _ _ => rfl)) pe_str (nomark _)) (pss_one (ps_ret (pe_lst (pa_cons (pe_ix (ix_tupK K rfl) (pv 0) pe_int (fun _ _ => rfl)) (pa_cons (pe_ix (ix_tupK K rfl) (pv 0) pe_int (fun _ _ => rfl)) pa_nil))))) pss_nil)
      (pss_cons (ps_if (pt_cmpR op_eq (pe_ix (ix_tupK K rfl) (pv 0) pe_int (fun _ _ => rfl)) pe_str (nomark _)) (pss_one (ps_ret (pe_lst (pa_cons (pe_ix (ix_tupK K rfl) (pv 0) pe_int (fun _ _ => rfl)) pa_nil)))) pss_nil)
      (pss_one (ps_ret (pe_lst pa_nil))))), ?_⟩
  obtain ⟨a, xs, rfl, ha, x0, _, _, _⟩ := name_at rv fo
  obtain ⟨a', xs', e, ha', l2, l7, rdrop⟩ := drop5_at rv fo
  cases e
  rw [ha] at ha'
  cases ha'
  have ha := sG _ _ ha
  have g5 : ∀ j, xs[5 + j]? = (xs.drop 5)[j]? := fun j => List.getElem?_drop.symm
  refine ⟨.ref a, rfl, a, xs, _, .str st.w, rfl, rfl, SqT.of ha, at_of (j := 0) rfl x0, rfl, _, rfl, ite2 (fun e => ?_) (fun e1 => ?_)⟩
  · have ew : st.w = "if" := V.str.inj (of_decide_eq_true e)
    cases fo with
    | iff =>
      generalize xs.drop 5 = ds at rdrop g5
      obtain ⟨y1, ys1, rfl, r1, ra1⟩ := rdrop.uncons
      obtain ⟨y2, ys2, rfl, r2, ra2⟩ := ra1.uncons
      have e0 := ra2.nil_inv
      subst e0
      exact ⟨.ref a, rfl, a, xs, _, y1, rfl, rfl, SqT.of ha, at_of (j := 5) rfl (g5 0), .ref a, rfl, a, xs, _, y2, rfl, rfl, SqT.of ha, at_of (j := 6) rfl (g5 1), small5 (by simp), fun p hp => q p _ _ (nw hp _) hp upd_same (.cons r1 (.one r2))⟩
    | deed hw => exact absurd ew ((by decide +kernel : ∀ x ∈ deedL, x ≠ ("if" : Str)) _ hw)
    | wait => exact absurd ew (show ¬ ("wait" : Str) = "if" by decide +kernel)
    | draw => exact absurd ew (show ¬ ("draw" : Str) = "if" by decide +kernel)
    | start => exact absurd ew (show ¬ ("start" : Str) = "if" by decide +kernel)
    | stop => exact absurd ew (show ¬ ("stop" : Str) = "if" by decide +kernel)
    | whl => exact absurd ew (show ¬ ("while" : Str) = "if" by decide +kernel)
  refine ⟨.ref a, rfl, a, xs, _, .str st.w, rfl, rfl, SqT.of ha, at_of (j := 0) rfl x0, rfl, _, rfl, ite2 (fun e => ?_) (fun e2 => ?_)⟩
  · have ew : st.w = "while" := V.str.inj (of_decide_eq_true e)
    cases fo with
    | whl =>
      generalize xs.drop 5 = ds at rdrop g5
      obtain ⟨y1, ys1, rfl, r1, ra1⟩ := rdrop.uncons
      have e0 := ra1.nil_inv
      subst e0
      exact ⟨.ref a, rfl, a, xs, _, y1, rfl, rfl, SqT.of ha, at_of (j := 5) rfl (g5 0), small5 (by simp), fun p hp => q p _ _ (nw hp _) hp upd_same (.one r1)⟩
    | deed hw => exact absurd ew ((by decide +kernel : ∀ x ∈ deedL, x ≠ ("while" : Str)) _ hw)
    | wait => exact absurd ew (show ¬ ("wait" : Str) = "while" by decide +kernel)
    | draw => exact absurd ew (show ¬ ("draw" : Str) = "while" by decide +kernel)
    | start => exact absurd ew (show ¬ ("start" : Str) = "while" by decide +kernel)
    | stop => exact absurd ew (show ¬ ("stop" : Str) = "while" by decide +kernel)
    | iff => exact absurd ew (show ¬ ("if" : Str) = "while" by decide +kernel)
  · have eb : st.bs = [] := leaf_of fo fun z => by
      unfold ifwL at z
      simp only [List.mem_cons, List.not_mem_nil, or_false] at z
      rcases z with z | z
      · exact e1 (decide_eq_true (congrArg V.str z))
      · exact e2 (decide_eq_true (congrArg V.str z))
    refine ⟨Nat.zero_le _, fun p hp => q p _ [] (nw hp _) hp upd_same ?_⟩
    rw [eb]
    exact .nil
def sp_allst (n : Nat) : Sp := fun vs H Q _ => ∃ (G : Hp) (v : V) (b : List Stm) (S : List Addr) (m : Nat), vs = [v] ∧ n = m + 1 ∧ Same G H ∧ R G S v (.list (b.map (Stm.toD m))) ∧ (∀ s ∈ b, Val m s) ∧ (flN m b).length ≤ 63 ∧
  ∀ p H' ys, Same H H' → H p = none → H' p = some (.lst ys) → RA G S ys ((flN m b).map dN) → Q (.ref p) H'
theorem ok_allst (d : Df K mg "all_statements" s_allst pp_allst) (g_inner : Ok P w K mg base 1 "inner_bodies" pp_inner sp_inner) : ∀ n : Nat, Ok P w K mg base (n + 1) "all_statements" pp_allst (sp_allst n)
  | 0 => none_left d fun vs H Q E ⟨_, _, _, _, _, _, h, _⟩ => absurd h (fun z => nomatch z)
  | n + 1 => by
    have g_allst := ok_allst d g_inner n
    refine d.mk sc_allst (fun vs H Q E h => ?_) (fun f cdv A outer s H vs Q E hr h => ?_)
    · obtain ⟨G, v, b, S, m, rfl, _⟩ := h; rfl
    obtain ⟨G, v, b, S, m, rfl, hm, sG, rv, hv, few, q⟩ := h
    have hm : n = m := Nat.succ.inj hm
    subst hm
    refine ⟨_, (pss_cons (ps_set (i := 1) sc_allst.nd rfl (by first | exact .inl rfl | exact .inr rfl) (pe_lst pa_nil))
      (pss_cons (ps_for PassesOwn.never rfl (pi_listK K rfl (pv 0)) (pg_name (i := 2) sc_allst.nd rfl (by first | exact .inl rfl | exact .inr rfl)) (pss_cons (ps_expr (pe_bm PySem.F.plainAttrs_list PySem.F.slot_list_append PySem.F.type_list_append mt_append (pv 1) (pa_cons (pv 2) pa_nil)))
      (pss_one (ps_for PassesOwn.never rfl (pi_listK K rfl (pcall g_inner hr (by omega) rfl (pa_cons (pv 2) pa_nil))) (pg_name (i := 3) sc_allst.nd rfl (by first | exact .inl rfl | exact .inr rfl)) (pss_one (ps_expr (pe_bm PySem.F.plainAttrs_list PySem.F.slot_list_extend PySem.F.type_list_extend mt_extend (pv 1) (pa_cons (pcall g_allst hr (by omega) rfl (pa_cons (pv 3) pa_nil)) pa_nil))))))))
      (pss_one (ps_ret (pv 1))))), ?_⟩
    refine ⟨Nat.zero_le _, fun p hp => ?_⟩
    have s1 := nw hp (.lst [])
    obtain ⟨pb, bvs, rfl, hb, nb, rb⟩ := rv.list
    have lb := rb.length
    rw [List.length_map] at lb
    have hb := sG _ _ hb
    let J : Nat → L2.St → Hp → Prop := fun i σ H' => ∃ acc o2 o3, σ = [some (.ref pb), some (.ref p), o2, o3] ∧ Same H H' ∧ H' p = some (.lst acc) ∧ RA G S acc ((flN n (b.take i)).map dN)
    refine ⟨.ref pb, rfl, pb, rfl, ⟨_, SqL.of (s1 _ _ hb)⟩, for_src (Hb := H) (Src.list (K := K) (SqL.of hb)) J ⟨[], none, none, rfl, s1, upd_same, ?_⟩ (fun i σ H' j => by obtain ⟨_, _, _, _, sm, _⟩ := j; exact sm) ?_ ?_⟩
    · have e : flN n (b.take 0) = [] := by cases n <;> rfl
      rw [e]
      exact .nil
    · rintro i x σ H' hi hx ⟨acc, o2, o3, rfl, sm, hacc, ra⟩
      obtain ⟨dd, hdd, rx⟩ := rb.getV hx
      obtain ⟨st, hst, rfl⟩ := map_get hdd
      have vst := hv st (List.mem_of_getElem? hst)
      cases n with
      | zero => exact absurd vst id
      | succ n =>
      have eb := congrArg (flN (n + 1)) (split_at hst)
      rw [flN_append, show st :: b.drop (i + 1) = [st] ++ b.drop (i + 1) from rfl, flN_append, flN_one] at eb
      have le := congrArg List.length eb
      simp only [List.length_append, List.length_cons] at le
      have la := ra.length
      rw [List.length_map] at la
      refine ⟨.ref p, rfl, .inl ⟨rfl, _, SqL.of hacc⟩, x, rfl, p, acc, x, rfl, rfl, hacc, lt5 (by omega), ?_⟩
      have sH2 : Same H (upd H' p (.lst (acc ++ [x]))) := fun c o z => by
        rw [upd_ne (ne_of_none z hp)]
        exact sm _ _ z
      have hacc2 : (upd H' p (.lst (acc ++ [x]))) p = some (.lst (acc ++ [x])) := upd_same
      generalize upd H' p (.lst (acc ++ [x])) = H2 at sH2 hacc2
      refine ⟨x, rfl, G, x, n, st, S, rfl, sG.trans sH2, rx, vst.1, fun q1 H3 ys s3 fq hq rq => ?_⟩
      have sH3 := sH2.trans s3
      have npq : p ≠ q1 := ne_of_none hacc2 fq
      refine ⟨q1, rfl, ⟨_, SqL.of hq⟩, ?_⟩
      have lq := rq.length
      rw [List.length_map] at lq
      refine for_src (Hb := upd (fun _ => none) q1 (.lst ys)) (Src.list (K := K) (SqL.of upd_same)) (fun j σ H' => ∃ acc o3, σ = [some (.ref pb), some (.ref p), some x, o3] ∧ Same H H' ∧ H' q1 = some (.lst ys) ∧ H' p = some (.lst acc) ∧
          RA G S acc ((flN (n + 1) (b.take i) ++ (n, st) :: (st.bs.take j).flatMap (flN n)).map dN))
        ⟨acc ++ [x], o3, rfl, sH3, hq, s3 _ _ hacc2, ?_⟩ (fun j σ H' z c o e => by
          obtain ⟨_, _, _, _, hq', _⟩ := z
          by_cases ec : c = q1
          · subst ec
            rw [upd_same] at e
            rw [hq', e]
          · rw [upd_ne ec] at e
            cases e) ?_ ?_
      · rw [List.map_append]
        exact ra.append (.one rx)
      · rintro j y σ H4 hj hy ⟨acc2, o3, rfl, s4, hq4, hacc4, ra4⟩
        obtain ⟨dd2, hdd2, ry⟩ := rq.getV hy
        obtain ⟨c, hc, rfl⟩ := map_get hdd2
        have ec := congrArg (List.flatMap (flN n)) (split_at hc)
        rw [List.flatMap_append, List.flatMap_cons] at ec
        have lc := congrArg List.length ec
        simp only [List.length_append] at lc
        have l4 := ra4.length
        simp only [List.length_map, List.length_append, List.length_cons] at l4
        refine ⟨.ref p, rfl, .inl ⟨rfl, _, SqL.of hacc4⟩, y, rfl, G, y, c, S, n, rfl, rfl, sG.trans s4, ry, vst.2 c (List.mem_of_getElem? hc), by omega, fun q2 H5 zs s5 fq2 hq2 rz => ?_⟩
        have lz := rz.length
        rw [List.length_map] at lz
        have hacc5 := s5 _ _ hacc4
        have npq2 : p ≠ q2 := ne_of_none hacc4 fq2
        refine ⟨p, q2, acc2, zs, rfl, rfl, hacc5, hq2, small5 (by omega), acc2 ++ zs, some y, rfl, fun c o z => ?_, ?_, upd_same, ?_⟩
        · rw [upd_ne (ne_of_none z hp)]
          exact s5 _ _ (s4 _ _ z)
        · rw [upd_ne npq.symm]
          exact s5 _ _ hq4
        · rw [List.take_add_one, hc, List.flatMap_append]
          show RA G S _ ((_ ++ (n, st) :: (_ ++ List.flatMap (flN n) [c])).map dN)
          rw [List.flatMap_cons, List.flatMap_nil, List.append_nil, ← List.cons_append, ← List.append_assoc, List.map_append]
          exact ra4.append rz
      · rintro σ H4 ⟨acc2, o3, rfl, s4, hq4, hacc4, ra4⟩
        refine ⟨acc2, some x, o3, rfl, s4, hacc4, ?_⟩
        rw [lq, List.take_length] at ra4
        rw [List.take_add_one, hst, flN_append]
        show RA G S acc2 ((_ ++ flN (n + 1) [st]).map dN)
        rw [flN_one]
        exact ra4
    · rintro σ H' ⟨acc, o2, o3, rfl, sm, hacc, ra⟩
      rw [lb, List.take_length] at ra
      exact ⟨.ref p, rfl, q p _ acc sm hp hacc ra⟩
end
end K14
/-! ## K14X -/
namespace K14
open PySem PySem.Spec PyProof.Rows L2 KR TL
theorem many_aux (x : Str) : ∀ (hds : List Hd), (hds.map Hd.x).Nodup → ∀ c ∈ hds, c.x = x → (((hds.filter fun c : Hd => decide (c.x = x)).map fun c : Hd => c.ps.length) ++ [0]).headD 0 = c.ps.length
  | [], _, c, m, _ => nomatch m
  | a :: r, nd, c, m, e => by
    have nd' := List.nodup_cons.mp (show (a.x :: r.map Hd.x).Nodup from nd)
    rw [List.filter_cons]
    rcases List.mem_cons.mp m with z | z
    · subst z
      rw [if_pos (decide_eq_true e)]
      rfl
    · have hn : ¬ a.x = x := fun q => nd'.1 (by rw [q, ← e]; exact List.mem_map.mpr ⟨c, z, rfl⟩)
      rw [if_neg (by simpa using hn)]
      exact many_aux x r nd'.2 c z e
theorem many_of {D : Pg} (wf : D.Wf) {c : Hd} (m : c ∈ D.hds) : D.many c.x = c.ps.length := many_aux c.x D.hds wf.nd c m rfl
section
variable {P : Program} {w : World} {K : PySem.W.Frag} {mg : Str → Option Value} {base : Heap}
def sp_init (C : Addr) : Sp := fun vs H Q _ => ∃ (p dx : Addr) (u : V) (D : Pg) (S : List Addr), vs = [.ref p, u] ∧ H p = some (.ins C dx []) ∧ D.Wf ∧ Sb (p :: S) H ∧ R H (p :: S) u D.toD ∧
  ∀ H', LookAt C H' p D → (∀ b o, H b = some o → b ≠ p → H' b = some o) → Q .non H'
theorem ok_init {C : Addr} (d : KDf K C "Looker.__init__" s_init pp_init) (T : Tx mg) (kl : Kls K mg C) : KOk P w K mg base C 1 pp_init (sp_init C) := by
  refine d.mk sc_init (fun vs H Q E h => ?_) (fun f cdv A outer s H vs Q E hr h => ?_)
  · obtain ⟨p, dx, u, D, S, rfl, _⟩ := h; rfl
  obtain ⟨p, dx, u, D, S, rfl, hp, wf, sb, ru, q⟩ := h
  refine ⟨_, (pss_cons (ps_asg (pv 1) (pg_tupK (n := 4) K rfl rfl (pgs_cons (pg_name (i := 2) sc_init.nd rfl (by first | exact .inl rfl | exact .inr rfl)) (pgs_cons (pg_name (i := 3) sc_init.nd rfl (by first | exact .inl rfl | exact .inr rfl)) (pgs_cons (pg_name (i := 4) sc_init.nd rfl (by first | exact .inl rfl | exact .inr rfl)) (pgs_cons (pg_name (i := 5) sc_init.nd rfl (by first | exact .inl rfl | exact .inr rfl)) pgs_nil))))))
      (pss_cons (ps_fld (pv 0) (pe_disp (pps_cons pe_str (pe_lc (own := [("one", 9)]) (g := gName 9) (tt := tYes) rfl sc_init.nd (pi_listK K rfl (pv 2)) (blkOk_by (own := [("one", 9)]) (N := N_init) (sc := defScope s_init) (by decide +kernel)) (fun _ _ _ _ _ => (pg_name (i := 9) sc_init.nd rfl (by first | exact .inl rfl | exact .inr rfl))) (fun _ _ _ _ _ => pts_nil) (fun _ _ _ _ _ => (pe_ix (ix_tupK K rfl) (pv 9) pe_int (fun _ _ => rfl)))) (pps_cons pe_str (pe_lc (own := [("one", 9)]) (g := gName 9) (tt := tYes) rfl sc_init.nd (pi_listK K rfl (pv 3)) (blkOk_by (own := [("one", 9)]) (N := N_init) (sc := defScope s_init) (by decide +kernel)) (fun _ _ _ _ _ => (pg_name (i := 9) sc_init.nd rfl (by first | exact .inl rfl | exact .inr rfl))) (fun _ _ _ _ _ => pts_nil) (fun _ _ _ _ _ => (pe_ix (ix_tupK K rfl) (pv 9) pe_int (fun _ _ => rfl)))) (pps_cons pe_str (pe_lc (own := [("one", 9)]) (g := gName 9) (tt := tYes) rfl sc_init.nd (pi_listK K rfl (pv 4)) (blkOk_by (own := [("one", 9)]) (N := N_init) (sc := defScope s_init) (by decide +kernel)) (fun _ _ _ _ _ => (pg_name (i := 9) sc_init.nd rfl (by first | exact .inl rfl | exact .inr rfl))) (fun _ _ _ _ _ => pts_nil) (fun _ _ _ _ _ => (pe_ix (ix_tupK K rfl) (pv 9) pe_int (fun _ _ => rfl)))) (pps_cons pe_str (pe_lc (own := [("one", 9)]) (g := gName 9) (tt := tYes) rfl sc_init.nd (pi_listK K rfl (pv 5)) (blkOk_by (own := [("one", 9)]) (N := N_init) (sc := defScope s_init) (by decide +kernel)) (fun _ _ _ _ _ => (pg_name (i := 9) sc_init.nd rfl (by first | exact .inl rfl | exact .inr rfl))) (fun _ _ _ _ _ => pts_nil) (fun _ _ _ _ _ => (pe_ix (ix_tupK K rfl) (pv 9) pe_int (fun _ _ => rfl)))) pps_nil)))) (by rfl) (by rfl) (fun z => by cases z) (by decide)) rfl)
      (pss_cons (ps_fld (pv 0) pe_dnewK rfl)
      (pss_one (ps_for PassesOwn.never rfl (pi_listK K rfl (pv 5)) (pg_tupK (n := 3) K rfl rfl (pgs_cons (pg_name (i := 6) sc_init.nd rfl (by first | exact .inl rfl | exact .inr rfl)) (pgs_cons (pg_name (i := 7) sc_init.nd rfl (by first | exact .inl rfl | exact .inr rfl)) (pgs_cons (pg_name (i := 8) sc_init.nd rfl (by first | exact .inl rfl | exact .inr rfl)) pgs_nil)))) (pss_one (ps_dput (hu_of hr) (pe_fld (pv 0) rfl) (pv 6) (pe_callB (call_lenK K rfl) (by rfl) T.len PySem.boot_len (pa_cons (pv 7) pa_nil)) rfl))))))), ?_⟩
  obtain ⟨pa, xs, rfl, hpa, _, ra⟩ := ru.tuple
  obtain ⟨v0, xs0, rfl, r0, ra0⟩ := ra.uncons
  obtain ⟨v1, xs1, rfl, r1, ra1⟩ := ra0.uncons
  obtain ⟨v2, xs2, rfl, r2, ra2⟩ := ra1.uncons
  obtain ⟨v3, xs3, rfl, r3, ra3⟩ := ra2.uncons
  have e3 := ra3.nil_inv
  subst e3
  obtain ⟨b0, ys0, rfl, h0, _, y0⟩ := r0.list
  obtain ⟨b1, ys1, rfl, h1, _, y1⟩ := r1.list
  obtain ⟨b2, ys2, rfl, h2, _, y2⟩ := r2.list
  obtain ⟨b3, ys3, rfl, h3, _, y3⟩ := r3.list
  refine ⟨.ref pa, rfl, pa, _, rfl, SqT.of hpa, rfl, .ref b0, _, rfl, .ref b1, _, rfl, .ref b2, _, rfl, .ref b3, _, rfl, rfl, ?_⟩
  have comp : ∀ (i : Nat) (te : TE) (b : Addr) (ys : List V) (H1 : Hp) (Q1 : VK), i < 4 → (∀ H Q, Q (.ref b) H → te [some (.ref p), some (.ref pa), some (.ref b0), some (.ref b1), some (.ref b2), some (.ref b3), none, none, none, none] H Q) → Same H H1 → H b = some (.lst ys) → RA H (p :: S) ys (D.part i) →
      (∀ l H', Same H1 H' → H' l = some (.lst ((D.nm i).map V.str)) → Q1 (.ref l) H') → tLc (iList K te) (gName 9) tYes (tOp (rIxT K) (tVar 9) (tC (.int 0))) [9] [some (.ref p), some (.ref pa), some (.ref b0), some (.ref b1), some (.ref b2), some (.ref b3), none, none, none, none] H1 Q1 := by
    intro i te b ys H1 Q1 hi hte s1 hb rb q1
    refine hte _ _ ⟨b, rfl, ⟨_, SqL.of (s1 _ _ hb)⟩, fun D1 nD => ?_⟩
    have l8 := wf.few i hi
    refine lc_data (S := p :: S) (ds := ((D.part i).map nmD).map PyData.str) (Src.list (SqL.of (s1 _ _ hb))) nD (sb.same s1) (by rw [List.length_map, List.length_map, rb.length]) (by rw [rb.length]; omega) (fun j x dd H2 hx hd sm sb2 Q2 q2 => ?_) (fun H2 s2 r2 => ?_) (fun _ _ _ _ h p => h _ _ p)
    · obtain ⟨c, y, zs, rfl, hc, rfl⟩ := first_at rb (wf.fd i hi) hx hd
      exact ⟨rfl, .ref c, rfl, c, _, _, .str y, rfl, rfl, SqT.of (sm _ _ (s1 _ _ hc)), at_of (j := 0) rfl rfl, q2 _ _ (Same.refl _) (.rstr _)⟩
    · obtain ⟨a1, xs1, e1, h1, _, ra1⟩ := r2.list
      cases e1
      have ex := ra1.of_strs
      subst ex
      exact q1 _ _ s2 h1
  intro kd hkd
  have sk := nw hkd (.dK [])
  dsimp only [tPairs, tC]
  refine comp 0 _ b0 ys0 _ _ (by decide) (fun H Q q => ⟨_, rfl, q⟩) sk h0 y0 fun l0 H0 t0 g0 => ?_
  refine comp 1 _ b1 ys1 _ _ (by decide) (fun H Q q => ⟨_, rfl, q⟩) (sk.trans t0) h1 y1 fun l1 H1 t1 g1 => ?_
  refine comp 2 _ b2 ys2 _ _ (by decide) (fun H Q q => ⟨_, rfl, q⟩) (sk.trans (t0.trans t1)) h2 y2 fun l2 H2 t2 g2 => ?_
  refine comp 3 _ b3 ys3 _ _ (by decide) (fun H Q q => ⟨_, rfl, q⟩) (sk.trans (t0.trans (t1.trans t2))) h3 y3 fun l3 H3 t3 g3 => ?_
  have t03 := t0.trans (t1.trans (t2.trans t3))
  have s3 := sk.trans t03
  refine ⟨t03 _ _ upd_same, [(.inr "tool", .ref l0), (.inr "store", .ref l1), (.inr "row", .ref l2), (.inr "hand", .ref l3)], rfl, (by show 4 ≤ 15; decide), ?_⟩
  have hkd3 : H3 kd = some (.dK []) := t03 _ _ upd_same
  have hp3 := s3 _ _ hp
  have nkp : p ≠ kd := ne_of_none hp hkd
  generalize hkk : mergeK [] [((.inr "tool" : Key), V.ref l0), (.inr "store", .ref l1), (.inr "row", .ref l2), (.inr "hand", .ref l3)] = kk
  have hkv : ∀ i, i < 4 → valV kk (.inr (kNm i)) = some (.ref ([l0, l1, l2, l3].getD i l0)) := fun i hi => by
    rw [← hkk]
    match i, hi with
    | 0, _ => rfl
    | 1, _ => rfl
    | 2, _ => rfl
    | 3, _ => rfl
  refine ⟨.ref p, rfl, p, C, dx, [], rfl, (by rw [upd_ne nkp]; exact hp3), kl.cls, kl.kn, (by show 0 < 1000; decide), ?_⟩
  intro md hmd
  have npm : p ≠ md := ne_of_none upd_same hmd
  refine ⟨.ref p, rfl, p, C, dx, _, rfl, (by rw [upd_ne npm]; exact upd_same), kl.cls, kl.mn, (by show 1 < 1000; decide), ?_⟩
  have elf : putF ("many" : Str) (V.ref md) (putF ("known" : Str) (V.ref kd) []) = lf kd md := rfl
  rw [elf]
  have nkm : kd ≠ md := ne_of_none (show upd (upd H3 kd (.dK kk)) p (.ins C dx (putF "known" (V.ref kd) [])) kd = some (.dK kk) by rw [upd_ne nkp.symm]; exact upd_same) hmd
  have f5 : ∀ b o, H3 b = some o → b ≠ p → b ≠ kd → upd (upd (upd (upd H3 kd (.dK kk)) p (.ins C dx (putF "known" (V.ref kd) []))) md (.dK [])) p (.ins C dx (lf kd md)) b = some o := fun b o z n1 n2 => by
    have z4 : upd (upd H3 kd (.dK kk)) p (.ins C dx (putF "known" (V.ref kd) [])) b = some o := by rw [upd_ne n1, upd_ne n2]; exact z
    rw [upd_ne n1, upd_ne (ne_of_none z4 hmd)]
    exact z4
  have p5 : upd (upd (upd (upd H3 kd (.dK kk)) p (.ins C dx (putF "known" (V.ref kd) []))) md (.dK [])) p (.ins C dx (lf kd md)) p = some (.ins C dx (lf kd md)) := upd_same
  have k5 : upd (upd (upd (upd H3 kd (.dK kk)) p (.ins C dx (putF "known" (V.ref kd) []))) md (.dK [])) p (.ins C dx (lf kd md)) kd = some (.dK kk) := by
    rw [upd_ne nkp.symm, upd_ne nkm, upd_ne nkp.symm]; exact upd_same
  have m5 : upd (upd (upd (upd H3 kd (.dK kk)) p (.ins C dx (putF "known" (V.ref kd) []))) md (.dK [])) p (.ins C dx (lf kd md)) md = some (.dK []) := by
    rw [upd_ne npm.symm]; exact upd_same
  generalize upd (upd (upd (upd H3 kd (.dK kk)) p (.ins C dx (putF "known" (V.ref kd) []))) md (.dK [])) p (.ins C dx (lf kd md)) = H5 at f5 p5 k5 m5
  have fH : ∀ b o, H b = some o → b ≠ p → H5 b = some o := fun b o z n => f5 b o (s3 _ _ z) n (ne_of_none z hkd)
  have lall : ∀ i, i < 4 → H5 ([l0, l1, l2, l3].getD i l0) = some (.lst ((D.nm i).map V.str)) := fun i hi => by
    have nl : ∀ {l : Addr} {L : List V}, H3 l = some (.lst L) → H5 l = some (.lst L) := fun z => f5 _ _ z (ne_of z hp3 (fun e => by cases e)) (ne_of z hkd3 (fun e => by cases e))
    match i, hi with
    | 0, _ => exact nl (t3 _ _ (t2 _ _ (t1 _ _ g0)))
    | 1, _ => exact nl (t3 _ _ (t2 _ _ g1))
    | 2, _ => exact nl (t3 _ _ g2)
    | 3, _ => exact nl g3
  have nb3 : b3 ≠ p := ne_of h3 hp (fun e => by cases e)
  have hmdH : H md = none := by
    cases e : H md with
    | none => rfl
    | some o =>
      have z4 : upd (upd H3 kd (.dK kk)) p (.ins C dx (putF "known" (V.ref kd) [])) md = some o := by rw [upd_ne npm.symm, upd_ne nkm.symm]; exact s3 _ _ e
      rw [z4] at hmd
      cases hmd
  have h35 := fH b3 _ h3 nb3
  have n3m : b3 ≠ md := ne_of_none h3 hmdH
  have l3' := y3.length
  have lpart : (D.part 3).length = D.hds.length := List.length_map ..
  have few := wf.few 3 (by decide)
  refine ⟨.ref b3, rfl, b3, rfl, ⟨_, SqL.of h35⟩, for_src (Hb := upd (fun _ => none) b3 (.lst ys3)) (Src.list (K := K) (SqL.of upd_same)) (fun i σ H' => ∃ mm o6 o7 o8, σ = [some (.ref p), some (.ref pa), some (.ref b0), some (.ref b1), some (.ref b2), some (.ref b3), o6, o7, o8, none] ∧ (∀ b o, H5 b = some o → b ≠ md → H' b = some o) ∧ H' md = some (.dK mm) ∧ mm.length ≤ i ∧
      ∀ (j : Nat) (c : Hd), j < i → D.hds[j]? = some c → valV mm (.inr c.x) = some (.int (c.ps.length : Nat)))
    ⟨[], none, none, none, rfl, fun b o z _ => z, m5, Nat.le_refl _, fun j c z => absurd z (Nat.not_lt_zero _)⟩ (fun j σ H' z c o e => by
      obtain ⟨_, _, _, _, _, kp, _⟩ := z
      by_cases ec : c = b3
      · subst ec
        rw [upd_same] at e
        rw [kp _ _ h35 n3m, e]
      · rw [upd_ne ec] at e
        cases e) ?_ ?_⟩
  · rintro i x σ H' hi hx ⟨mm, o6, o7, o8, rfl, kp, hmm, lmm, hval⟩
    obtain ⟨c, a', pn', pb', hc, rfl, ha', hn', _, _⟩ := hand_at y3 hx
    have up : ∀ b o, H b = some o → (∀ C' dx' fs, o ≠ .ins C' dx' fs) → H' b = some o := fun b o z no => kp b o (fH b o z (ne_of z hp (no _ _ _))) (ne_of_none z hmdH)
    have ha2 := up _ _ ha' (fun _ _ _ e => by cases e)
    have hn2 := up _ _ hn' (fun _ _ _ e => by cases e)
    refine ⟨a', _, rfl, SqT.of ha2, rfl, .str c.x, _, rfl, .ref pn', _, rfl, .ref pb', _, rfl, rfl, .ref pn', rfl, pn', _, rfl, .inl (SqL.of hn2), .ref p, rfl, p, C, dx, _, .ref md, rfl, kp _ _ p5 npm, kl.cls, kl.mn, lf_many _ _, .str c.x, rfl, md, _, rfl, DPut.k (k := .inr c.x) hmm (Nat.lt_of_le_of_lt (m := 100) (by omega) (by decide)), ?_⟩
    refine ⟨putK mm (.inr c.x) (.int (c.ps.map V.str).length), _, _, _, rfl, fun b o z n => by rw [upd_ne n]; exact kp b o z n, upd_same, ?_, fun j c2 hj hc2 => ?_⟩
    · have := length_putK mm (.inr c.x) (.int (c.ps.map V.str).length)
      omega
    · rw [valV_put]
      by_cases e : c2.x = c.x
      · rw [if_pos (congrArg Sum.inr e), List.length_map]
        have z1 := many_of wf (List.mem_of_getElem? hc)
        have z2 := many_of wf (List.mem_of_getElem? hc2)
        rw [e] at z2
        rw [← z1, z2]
      · rw [if_neg fun z => e (Sum.inr.inj z)]
        have hne : j ≠ i := fun z => by
          rw [z, hc] at hc2
          cases hc2
          exact e rfl
        exact hval j c2 (by omega) hc2
  · rintro σ H' ⟨mm, o6, o7, o8, rfl, kp, hmm, lmm, hval⟩
    refine q H' ⟨dx, kd, md, kk, mm, kp _ _ p5 npm, kp _ _ k5 nkm, hmm, fun i hi => ⟨_, hkv i hi, kp _ _ (lall i hi) (ne_of (lall i hi) m5 (fun e => by cases e))⟩, fun x mx => ?_⟩ fun b o z n => kp b o (fH b o z n) (ne_of_none z hmdH)
    rw [Pg.nm3] at mx
    obtain ⟨c, mc, rfl⟩ := List.mem_map.mp mx
    obtain ⟨j, hj⟩ := List.getElem?_of_mem mc
    rw [many_of wf mc]
    exact hval j c (by have := (List.getElem?_eq_some_iff.mp hj).1; omega) hj
end
end K14
/-! ## K14Y -/
namespace K14
open PySem PySem.Spec PyProof.Rows L2 KR TL
def lookL (D : Pg) (l : List (Nat × Stm)) : List PyData := l.flatMap fun p => lookF D p.2
def Pg.faults (D : Pg) : List PyData := lookL D D.all
theorem lookL_le (D : Pg) : ∀ l : List (Nat × Stm), (lookL D l).length ≤ l.length
  | [] => Nat.zero_le _
  | p :: r => by
    have h1 := lookF_le D p.2
    have h2 := lookL_le D r
    show (List.flatMap _ (p :: r)).length ≤ _
    rw [List.flatMap_cons, List.length_append, List.length_cons]
    unfold lookL at h2
    omega
theorem lookL_append (D : Pg) (a b : List (Nat × Stm)) : lookL D (a ++ b) = lookL D a ++ lookL D b := List.flatMap_append
def allP (hds : List Hd) : List (Nat × Stm) := hds.flatMap fun c => flN 6 c.b
theorem all_split {D : Pg} {i : Nat} {c : Hd} (hc : D.hds[i]? = some c) : allP (D.hds.take (i + 1)) = allP (D.hds.take i) ++ flN 6 c.b := by
  unfold allP
  rw [List.take_add_one, hc, List.flatMap_append]
  show _ ++ List.flatMap _ [c] = _
  rw [List.flatMap_cons, List.flatMap_nil, List.append_nil]
theorem all_len {D : Pg} {i : Nat} {c : Hd} (hc : D.hds[i]? = some c) : (allP (D.hds.take i)).length + (flN 6 c.b).length ≤ D.all.length := by
  have e := congrArg allP (split_at hc)
  have l := congrArg List.length e
  unfold allP at l
  rw [List.flatMap_append, List.flatMap_cons] at l
  simp only [List.length_append] at l
  show (List.flatMap _ _).length + _ ≤ (List.flatMap _ _).length
  omega
section
variable {P : Program} {w : World} {K : PySem.W.Frag} {mg : Str → Option Value} {base : Heap}
theorem flN_val : ∀ (n : Nat) (b : List Stm), (∀ s ∈ b, Val n s) → ∀ p ∈ flN n b, Val (p.1 + 1) p.2
  | 0, _, _, p, m => nomatch m
  | n + 1, b, h, p, m => by
    obtain ⟨s, ms, m⟩ := List.mem_flatMap.mp m
    rcases List.mem_cons.mp m with z | z
    · rw [z]; exact h s ms
    · obtain ⟨c, mc, m⟩ := List.mem_flatMap.mp z
      exact flN_val n c ((h s ms).2 c mc) p m
def sp_faults : Sp := fun vs H Q _ => ∃ (u : V) (D : Pg) (S : List Addr), vs = [u] ∧ D.Wf ∧ Sb S H ∧ R H S u D.toD ∧ D.all.length ≤ 63 ∧
  ∀ p H' ys, Same H H' → H p = none → H' p = some (.lst ys) → RA H' S ys D.faults → Q (.ref p) H'
theorem ok_faults {C : Addr} (d : Df K mg "faults" s_faults pp_faults) (T : Tx mg) (kl : Kls K mg C) (g_init : KOk P w K mg base C 1 pp_init (sp_init C)) (g_look : MOk P w K mg base C 2 "look" pp_look (sp_look C))
    (g_allst : Ok P w K mg base 8 "all_statements" pp_allst (sp_allst 7)) : Ok P w K mg base 9 "faults" pp_faults sp_faults := by
  refine d.mk sc_faults (fun vs H Q E h => ?_) (fun f cdv A outer s H vs Q E hr h => ?_)
  · obtain ⟨u, D, S, rfl, _⟩ := h; rfl
  obtain ⟨u, D, S, rfl, wf, sb, ru, few, q⟩ := h
  refine ⟨_, (pss_cons (ps_set (i := 1) sc_faults.nd rfl (by first | exact .inl rfl | exact .inr rfl) (pmake g_init kl.cm hr (by omega) (by rfl) (pa_cons (pv 0) pa_nil)))
      (pss_cons (ps_set (i := 2) sc_faults.nd rfl (by first | exact .inl rfl | exact .inr rfl) (pe_lst pa_nil))
      (pss_cons (ps_for PassesOwn.never rfl (pi_listK K rfl (pe_ix (ix_tupK K rfl) (pv 0) pe_int (fun _ _ => rfl))) (pg_tupK (n := 3) K rfl rfl (pgs_cons (pg_name (i := 3) sc_faults.nd rfl (by first | exact .inl rfl | exact .inr rfl)) (pgs_cons (pg_name (i := 4) sc_faults.nd rfl (by first | exact .inl rfl | exact .inr rfl)) (pgs_cons (pg_name (i := 5) sc_faults.nd rfl (by first | exact .inl rfl | exact .inr rfl)) pgs_nil)))) (pss_one (ps_for PassesOwn.never rfl (pi_listK K rfl (pcall g_allst hr (by omega) rfl (pa_cons (pv 5) pa_nil))) (pg_name (i := 6) sc_faults.nd rfl (by first | exact .inl rfl | exact .inr rfl)) (pss_one (ps_expr (pe_bm PySem.F.plainAttrs_list PySem.F.slot_list_extend PySem.F.type_list_extend mt_extend (pv 2) (pa_cons (pmeth g_look kl.cls hr (by omega) (pv 1) (pa_cons (pv 6) pa_nil)) pa_nil)))))))
      (pss_one (ps_ret (pv 2)))))), ?_⟩
  refine ⟨u, rfl, fun x dx nx ndx nex => ?_⟩
  have s0 : Same H (upd (upd H dx (.own x)) x (.ins C dx [])) := fun b o e => by
    rw [upd_ne (ne_of_none e nx), upd_ne (ne_of_none e ndx)]
    exact e
  refine ⟨x, dx, u, D, S, rfl, upd_same, wf, (sb.same s0).cons upd_same, ru.hide nx s0, fun H1 hL kp => ⟨rfl, ?_⟩⟩
  have s1 : Same H H1 := fun b o e => kp b o (s0 b o e) (ne_of_none e nx)
  refine ⟨Nat.zero_le _, fun p hp => ?_⟩
  have s2 := nw hp (.lst [])
  obtain ⟨pa, pxs, pb, hvs, rfl, hpa, lpx, hpx, hpb, npb, rhs⟩ := part_at ru (show 3 < 4 by decide)
  have sb1 := sb.same s1
  have rhs1 := rhs.mono s1
  have hpb1 := s1 _ _ hpb
  have no : ∀ kd md, (lf kd md).lookup ("look" : Str) = none := fun kd md => lf_no kd md (by decide +kernel) (by decide +kernel)
  have lh : hvs.length = D.hds.length := by rw [rhs.length]; exact List.length_map ..
  have hpm : p ∈ p :: S := List.mem_cons_self ..
  refine ⟨.ref pa, rfl, pa, _, _, .ref pb, rfl, rfl, SqT.of (s2 _ _ (s1 _ _ hpa)), at_of (j := 3) rfl hpx, pb, rfl, ⟨_, SqL.of (s2 _ _ hpb1)⟩, ?_⟩
  refine for_src (Hb := H1) (Src.list (K := K) (SqL.of hpb1)) (fun i σ H' => ∃ acc o3 o4 o5 o6, σ = [some (.ref pa), some (.ref x), some (.ref p), o3, o4, o5, o6] ∧ Same H1 H' ∧ H' p = some (.lst acc) ∧ RA H' (p :: S) acc (lookL D (allP (D.hds.take i))))
    ⟨[], none, none, none, none, rfl, s2, upd_same, .nil⟩ (fun i σ H' j => by obtain ⟨_, _, _, _, _, _, sm, _⟩ := j; exact sm) ?_ ?_
  · rintro i y σ H' hi hy ⟨acc, o3, o4, o5, o6, rfl, sm, hacc, ra⟩
    obtain ⟨c, a', pn', pb', hc, rfl, ha', hn', rb', _⟩ := hand_at rhs1 hy
    have la := ra.length
    have ll := lookL_le D (allP (D.hds.take i))
    have al := all_len hc
    have vc := (wf.ok c (List.mem_of_getElem? hc)).val
    refine ⟨a', _, rfl, SqT.of (sm _ _ ha'), rfl, .str c.x, _, rfl, .ref pn', _, rfl, .ref pb', _, rfl, rfl, .ref pb', rfl, ?_⟩
    refine ⟨H1, .ref pb', c.b, S, 6, rfl, rfl, sm, rb', vc, by omega, fun q1 H2 ys s3 fq hq rq => ⟨q1, rfl, ⟨_, SqL.of hq⟩, ?_⟩⟩
    have lq := rq.length
    rw [List.length_map] at lq
    have npq : p ≠ q1 := ne_of_none hacc fq
    refine for_src (Hb := upd (fun _ => none) q1 (.lst ys)) (Src.list (K := K) (SqL.of upd_same)) (fun j σ H' => ∃ acc o6, σ = [some (.ref pa), some (.ref x), some (.ref p), some (.str c.x), some (.ref pn'), some (.ref pb'), o6] ∧ Same H1 H' ∧ H' q1 = some (.lst ys) ∧ H' p = some (.lst acc) ∧
        RA H' (p :: S) acc (lookL D (allP (D.hds.take i) ++ (flN 6 c.b).take j)))
      ⟨acc, o6, rfl, sm.trans s3, hq, s3 _ _ hacc, ?_⟩ (fun j σ H' z c o e => by
        obtain ⟨_, _, _, _, hq', _⟩ := z
        by_cases ec : c = q1
        · subst ec
          rw [upd_same] at e
          rw [hq', e]
        · rw [upd_ne ec] at e
          cases e) ?_ ?_
    · rw [List.take_zero, List.append_nil]
      exact ra.mono s3
    · rintro j z σ H3 hj hz ⟨acc2, o6, rfl, s4, hq4, hacc4, ra4⟩
      obtain ⟨dd, hdd, rz⟩ := rq.getV hz
      obtain ⟨t, ht, rfl⟩ := map_get hdd
      have vt := flN_val 6 c.b vc t (List.mem_of_getElem? ht)
      have sb4 : Sb (p :: S) H3 := (sb1.same s4).cons hacc4
      have hL4 := hL.same s4
      obtain ⟨dx4, kd, md, kk, mm, g1, _⟩ := hL4.ob
      have l4 := ra4.length
      have ll4 := lookL_le D (allP (D.hds.take i) ++ (flN 6 c.b).take j)
      rw [List.length_append, List.length_take] at ll4
      refine ⟨.ref p, rfl, .inl ⟨rfl, _, SqL.of hacc4⟩, .ref x, rfl, x, dx4, _, rfl, g1, no _ _, z, rfl, x, z, t.1, t.2, D, p :: S, rfl, hL4, sb4, rz.hide hp s4, vt.1, fun l H4 zs s5 fl hl rl => ?_⟩
      have lz := rl.length
      have lzz := lookF_le D t.2
      have hacc5 := s5 _ _ hacc4
      refine ⟨p, l, acc2, zs, rfl, rfl, hacc5, hl, small5 (by omega), acc2 ++ zs, some z, rfl, fun c o e => ?_, ?_, upd_same, ?_⟩
      · rw [upd_ne (ne_of_none e hp)]
        exact s5 _ _ (s4 _ _ e)
      · rw [upd_ne npq.symm]
        exact s5 _ _ hq4
      · rw [List.take_add_one, ht, ← List.append_assoc, lookL_append]
        show RA _ _ _ (_ ++ List.flatMap _ [t])
        rw [List.flatMap_cons, List.flatMap_nil, List.append_nil]
        exact ((ra4.mono s5).updS _ hpm).append (rl.updS _ hpm)
    · rintro σ H3 ⟨acc2, o6, rfl, s4, hq4, hacc4, ra4⟩
      rw [lq, List.take_length, ← all_split hc] at ra4
      exact ⟨acc2, _, _, _, o6, rfl, s4, hacc4, ra4⟩
  · rintro σ H' ⟨acc, o3, o4, o5, o6, rfl, sm, hacc, ra⟩
    rw [lh, List.take_length] at ra
    exact ⟨.ref p, rfl, q p H' acc (s1.trans sm) (s1.free hp) hacc ra.tl⟩
def sp_sound : Sp := fun vs H Q _ => ∃ (u : V) (D : Pg) (S : List Addr), vs = [u] ∧ D.Wf ∧ Sb S H ∧ R H S u D.toD ∧ D.all.length ≤ 63 ∧
  ∀ H', Same H H' → Q (.bl D.faults.isEmpty) H'
theorem ok_sound (d : Df K mg "sound" s_sound pp_sound) (T : Tx mg) (g_faults : Ok P w K mg base 9 "faults" pp_faults sp_faults) : Ok P w K mg base 10 "sound" pp_sound sp_sound := by
  refine d.mk sc_sound (fun vs H Q E h => ?_) (fun f cdv A outer s H vs Q E hr h => ?_)
  · obtain ⟨u, D, S, rfl, _⟩ := h; rfl
  obtain ⟨u, D, S, rfl, wf, sb, ru, few, q⟩ := h
  refine ⟨_, (pss_one (ps_ret (pe_cmpR (op_eqNilK K rfl hr.units) (pcall g_faults hr (by omega) rfl (pa_cons (pv 0) pa_nil)) (pe_lst pa_nil) (nomark _)))), ?_⟩
  refine ⟨u, rfl, u, D, S, rfl, wf, sb, ru, few, fun p H1 ys s1 fp h1 ra => ⟨Nat.zero_le _, fun pe hpe => ⟨p, pe, ys, rfl, rfl, SqL.of ((nw hpe _) _ _ h1), SqL.of upd_same, ?_⟩⟩⟩
  have e : ys.isEmpty = D.faults.isEmpty := by
    have := ra.length
    cases ys with
    | nil => cases hd : D.faults with
      | nil => rfl
      | cons _ _ => rw [hd] at this; cases this
    | cons _ _ => cases hd : D.faults with
      | nil => rw [hd] at this; cases this
      | cons _ _ => rfl
  rw [e]
  exact q _ (s1.trans (nw hpe _))
end
end K14
/-! ## K14Z -/
namespace K14
open PySem PySem.Spec PyProof.Rows L2 KR TL
abbrev sx_due : Scope := { kind := ScopeKind.function, names := [(".0", NameKind.local), ("part", NameKind.local)], isGenerator := false, isCoroutine := false }
section
variable {P : Program} {w : World} {K : PySem.W.Frag} {mg : Str → Option Value} {base : Heap}
def sp_due : Sp := fun vs H Q _ => ∃ (u : V) (D : Pg) (S : List Addr), vs = [u] ∧ D.Wf ∧ Sb S H ∧ R H S u D.toD ∧ D.all.length ≤ 63 ∧
  ∀ p H' ys, Same H H' → H p = none → H' p = some (.lst ys) → RA H' S ys D.faults → Q (.ref p) H'
theorem ok_due (d : Df K mg "_law_due" s_due pp_due) (T : Tx mg) (g_order : Ok P w K mg base 1 "_law_in_order" pp_order sp_order) : Ok P w K mg base 2 "_law_due" pp_due sp_due := by
  refine d.mk sc_due (fun vs H Q E h => ?_) (fun f cdv A outer s H vs Q E hr h => ?_)
  · obtain ⟨u, D, S, rfl, _⟩ := h; rfl
  obtain ⟨u, D, S, rfl, wf, sb, ru, few, q⟩ := h
  refine ⟨_, (pss_cons (ps_set (i := 1) sc_due.nd rfl (by first | exact .inl rfl | exact .inr rfl) (pe_lst pa_nil))
      (pss_cons (ps_asg (pe_lc (own := [("part", 11)]) (g := gName 11) (tt := tYes) rfl sc_due.nd (pi_tupK K rfl (pv 0)) (blkOk_by (own := [("part", 11)]) (N := N_due) (sc := defScope s_due) (by decide +kernel)) (fun _ _ _ _ _ => (pg_name (i := 11) sc_due.nd rfl (by first | exact .inl rfl | exact .inr rfl))) (fun _ _ _ _ _ => pts_nil) (fun _ _ _ _ _ => (pe_lc (own := [("one", 12)]) (g := gName 12) (tt := tYes) rfl sc_due.nd (pi_listK K rfl (pv 11)) (blkOk_by (own := [("one", 12)]) (N := N_due) (sc := sx_due) (by decide +kernel)) (fun _ _ _ _ _ => (pg_name (i := 12) sc_due.nd rfl (by first | exact .inl rfl | exact .inr rfl))) (fun _ _ _ _ _ => pts_nil) (fun _ _ _ _ _ => (pe_ix (ix_tupK K rfl) (pv 12) pe_int (fun _ _ => rfl)))))) (pg_unlK (n := 4) K rfl rfl (pgs_cons (pg_name (i := 4) sc_due.nd rfl (by first | exact .inl rfl | exact .inr rfl)) (pgs_cons (pg_name (i := 5) sc_due.nd rfl (by first | exact .inl rfl | exact .inr rfl)) (pgs_cons (pg_name (i := 6) sc_due.nd rfl (by first | exact .inl rfl | exact .inr rfl)) (pgs_cons (pg_name (i := 7) sc_due.nd rfl (by first | exact .inl rfl | exact .inr rfl)) pgs_nil))))))
      (pss_cons (ps_set (i := 2) sc_due.nd rfl (by first | exact .inl rfl | exact .inr rfl) pe_dnewK)
      (pss_cons (ps_for PassesOwn.never rfl (pi_listK K rfl (pe_ix (ix_tupK K rfl) (pv 0) pe_int (fun _ _ => rfl))) (pg_tupK (n := 3) K rfl rfl (pgs_cons (pg_name (i := 8) sc_due.nd rfl (by first | exact .inl rfl | exact .inr rfl)) (pgs_cons (pg_name (i := 9) sc_due.nd rfl (by first | exact .inl rfl | exact .inr rfl)) (pgs_cons (pg_name (i := 10) sc_due.nd rfl (by first | exact .inl rfl | exact .inr rfl)) pgs_nil)))) (pss_one (ps_dput (hu_of hr) (pv 2) (pv 8) (pe_callB (call_lenK K rfl) (by rfl) T.len PySem.boot_len (pa_cons (pv 9) pa_nil)) rfl)))
      (pss_cons (ps_for PassesOwn.never rfl (pi_listK K rfl (pcall g_order hr (by omega) rfl (pa_cons (pv 0) pa_nil))) (pg_name (i := 3) sc_due.nd rfl (by first | exact .inl rfl | exact .inr rfl)) (C8.pss_cut (ps_if (PW.pt (pw_and (pt_cmpR (op_inK K rfl) (pe_ix (ix_tupK K rfl) (pv 3) pe_int (fun _ _ => rfl)) (pe_lst (pa_cons pe_str (pa_cons pe_str pa_nil))) (by rfl)) (pw_and1 (pt_cmpR (op_notInK K rfl) (pe_ix (ix_tupK K rfl) (pv 3) pe_int (fun _ _ => rfl)) (pv 4) (by rfl))))) (pss_one (ps_expr (pe_bm PySem.F.plainAttrs_list PySem.F.slot_list_append PySem.F.type_list_append mt_append (pv 1) (pa_cons (pe_tup (pa_cons pe_str (pa_cons (pe_ix (ix_tupK K rfl) (pv 3) pe_int (fun _ _ => rfl)) (pa_cons (pe_ix (ix_tupK K rfl) (pv 3) pe_int (fun _ _ => rfl)) pa_nil)))) pa_nil)))) pss_nil)
      (C8.pss_cut (ps_if (PW.pt (pw_and (pt_cmpR (op_inK K rfl) (pe_ix (ix_tupK K rfl) (pv 3) pe_int (fun _ _ => rfl)) (pe_lst (pa_cons pe_str (pa_cons pe_str pa_nil))) (by rfl)) (pw_and1 (pt_cmpR (op_notInK K rfl) (pe_ix (ix_tupK K rfl) (pv 3) pe_int (fun _ _ => rfl)) (pv 5) (by rfl))))) (pss_one (ps_expr (pe_bm PySem.F.plainAttrs_list PySem.F.slot_list_append PySem.F.type_list_append mt_append (pv 1) (pa_cons (pe_tup (pa_cons pe_str (pa_cons (pe_ix (ix_tupK K rfl) (pv 3) pe_int (fun _ _ => rfl)) (pa_cons (pe_ix (ix_tupK K rfl) (pv 3) pe_int (fun _ _ => rfl)) pa_nil)))) pa_nil)))) pss_nil)
      (C8.pss_cut (ps_if (PW.pt (pw_and (pt_cmpR op_eq (pe_ix (ix_tupK K rfl) (pv 3) pe_int (fun _ _ => rfl)) pe_str (nomark _)) (pw_and1 (pt_cmpR (op_notInK K rfl) (pe_ix (ix_tupK K rfl) (pv 3) pe_int (fun _ _ => rfl)) (pv 6) (by rfl))))) (pss_one (ps_expr (pe_bm PySem.F.plainAttrs_list PySem.F.slot_list_append PySem.F.type_list_append mt_append (pv 1) (pa_cons (pe_tup (pa_cons pe_str (pa_cons (pe_ix (ix_tupK K rfl) (pv 3) pe_int (fun _ _ => rfl)) (pa_cons (pe_ix (ix_tupK K rfl) (pv 3) pe_int (fun _ _ => rfl)) pa_nil)))) pa_nil)))) pss_nil)
      (pss_one (ps_if (PW.pt (pw_and (pt_cmpR op_eq (pe_ix (ix_tupK K rfl) (pv 3) pe_int (fun _ _ => rfl)) pe_str (nomark _)) (pw_and1 (pt_cmpR (op_notInK K rfl) (pe_ix (ix_tupK K rfl) (pv 3) pe_int (fun _ _ => rfl)) (pv 7) (by rfl))))) (pss_one (ps_expr (pe_bm PySem.F.plainAttrs_list PySem.F.slot_list_append PySem.F.type_list_append mt_append (pv 1) (pa_cons (pe_tup (pa_cons pe_str (pa_cons (pe_ix (ix_tupK K rfl) (pv 3) pe_int (fun _ _ => rfl)) (pa_cons (pe_ix (ix_tupK K rfl) (pv 3) pe_int (fun _ _ => rfl)) pa_nil)))) pa_nil)))) (pss_one (ps_if (PW.pt (pw_and (pt_cmpR op_eq (pe_ix (ix_tupK K rfl) (pv 3) pe_int (fun _ _ => rfl)) pe_str (nomark _)) (pw_and1 (pt_cmpR op_ne (pe_dget (hu_of hr) (pv 2) (pe_ix (ix_tupK K rfl) (pv 3) pe_int (fun _ _ => rfl)) (fun _ _ => rfl)) (pe_callB (call_lenK K rfl) (by rfl) T.len PySem.boot_len (pa_cons (pe_ix (ix_tupK K rfl) (pv 3) pe_int (fun _ _ => rfl)) pa_nil)) (nomark _))))) (pss_one (ps_expr (pe_bm PySem.F.plainAttrs_list PySem.F.slot_list_append PySem.F.type_list_append mt_append (pv 1) (pa_cons (pe_tup (pa_cons pe_str (pa_cons (pe_ix (ix_tupK K rfl) (pv 3) pe_int (fun _ _ => rfl)) (pa_cons (pe_ix (ix_tupK K rfl) (pv 3) pe_int (fun _ _ => rfl)) pa_nil)))) pa_nil)))) pss_nil))))))))
      (pss_one (ps_ret (pv 1)))))))), ?_⟩
  obtain ⟨pa, pxs, rfl, hpa, _, rpx⟩ := ru.tuple
  have lpx : pxs.length = 4 := rpx.length
  refine ⟨Nat.zero_le _, fun p hp => ?_⟩
  have s1 := nw hp (.lst [])
  have sb1 := sb.same s1
  refine ⟨.ref pa, rfl, pa, rfl, ⟨_, SqT.of (s1 _ _ hpa)⟩, fun D1 nD => ?_⟩
  refine lc_data (S := p :: S) (ds := [PyData.list ((D.nm 0).map PyData.str), .list ((D.nm 1).map PyData.str), .list ((D.nm 2).map PyData.str), .list ((D.nm 3).map PyData.str)]) (Src.tup (SqT.of (s1 _ _ hpa))) nD (sb1.cons upd_same) lpx.symm (by omega) (fun i y dd H1 hy hd sm sbD Q2 q2 => ?_) (fun H1 s2 r1 => ?_) (fun _ _ _ _ h p => h _ _ p)
  · have hi : i < 4 := (List.getElem?_eq_some_iff.mp hd).1
    obtain ⟨d2, hd2, ry⟩ := rpx.getV hy
    have ed2 : d2 = .list (D.part i) := by
      match i, hi, hd2 with
      | 0, _, h => exact (Option.some.inj h).symm
      | 1, _, h => exact (Option.some.inj h).symm
      | 2, _, h => exact (Option.some.inj h).symm
      | 3, _, h => exact (Option.some.inj h).symm
    have edd : dd = .list ((D.nm i).map PyData.str) := by
      match i, hi, hd with
      | 0, _, h => exact (Option.some.inj h).symm
      | 1, _, h => exact (Option.some.inj h).symm
      | 2, _, h => exact (Option.some.inj h).symm
      | 3, _, h => exact (Option.some.inj h).symm
    subst ed2 edd
    obtain ⟨b, ys, rfl, hb, _, rb⟩ := ry.list
    have sH1 := s1.trans sm
    have l8 := wf.few i hi
    refine ⟨rfl, .ref b, rfl, b, rfl, ⟨_, SqL.of (sH1 _ _ hb)⟩, fun D2 nD2 => ?_⟩
    refine lc_data (S := D1 :: p :: S) (ds := ((D.part i).map nmD).map PyData.str) (Src.list (SqL.of (sH1 _ _ hb))) nD2 sbD (by rw [List.length_map, List.length_map, rb.length]) (by rw [rb.length]; omega) (fun j x dd H2 hx hd sm2 sb2 Q3 q3 => ?_) (fun H2 s3 r2 => q2 _ _ s3 r2) (fun _ _ _ _ h p => h _ _ p)
    obtain ⟨c, y, zs, rfl, hc, rfl⟩ := first_at rb (wf.fd i hi) hx hd
    exact ⟨rfl, .ref c, rfl, c, _, _, .str y, rfl, rfl, SqT.of (sm2 _ _ (sH1 _ _ hc)), at_of (j := 0) rfl rfl, q3 _ _ (Same.refl _) (.rstr _)⟩
  obtain ⟨a1, ys1, e1, hD1, _, ra1⟩ := r1.list
  cases e1
  obtain ⟨v0, ys2, rfl, r0, ra2⟩ := ra1.uncons
  obtain ⟨v1, ys3, rfl, r1', ra3⟩ := ra2.uncons
  obtain ⟨v2, ys4, rfl, r2, ra4⟩ := ra3.uncons
  obtain ⟨v3, ys5, rfl, r3, ra5⟩ := ra4.uncons
  have e5 := ra5.nil_inv
  subst e5
  obtain ⟨l0, xs0, rfl, h0, m0, q0⟩ := r0.list
  obtain ⟨l1, xs1, rfl, h1, m1, q1⟩ := r1'.list
  obtain ⟨l2, xs2, rfl, h2, m2, q2⟩ := r2.list
  obtain ⟨l3, xs3, rfl, h3, m3, q3⟩ := r3.list
  have f0 := q0.of_strs
  have f1 := q1.of_strs
  have f2 := q2.of_strs
  have f3 := q3.of_strs
  subst f0 f1 f2 f3
  refine ⟨D1, _, rfl, SqL.of hD1, rfl, .ref l0, _, rfl, .ref l1, _, rfl, .ref l2, _, rfl, .ref l3, _, rfl, rfl, ?_⟩
  intro md hmd
  have s12 := s1.trans s2
  have hp1 : H1 p = some (.lst []) := s2 _ _ upd_same
  have ru1 : R H1 (p :: S) (.ref pa) D.toD := (ru.hide hp s1).mono s2
  obtain ⟨pa', pxs', pb, hvs, e, hpa', lpx', hpx, hpb, npb, rhs⟩ := part_at ru1 (show 3 < 4 by decide)
  cases e
  have sm0 := nw hmd (.dK [])
  have few3 := wf.few 3 (by decide)
  have lh : hvs.length = D.hds.length := by rw [rhs.length]; exact List.length_map ..
  have lpart : (D.part 3).length = D.hds.length := List.length_map ..
  refine ⟨.ref pa, rfl, pa, _, _, .ref pb, rfl, rfl, SqT.of (sm0 _ _ hpa'), at_of (j := 3) rfl hpx, pb, rfl, ⟨_, SqL.of (sm0 _ _ hpb)⟩, ?_⟩
  refine for_src (Hb := H1) (Src.list (K := K) (SqL.of hpb)) (fun i σ H' => ∃ mm o8 o9 o10, σ = [some (.ref pa), some (.ref p), some (.ref md), none, some (.ref l0), some (.ref l1), some (.ref l2), some (.ref l3), o8, o9, o10, none, none] ∧ Same H1 H' ∧ H' md = some (.dK mm) ∧ mm.length ≤ i ∧
      ∀ (j : Nat) (c : Hd), j < i → D.hds[j]? = some c → valV mm (.inr c.x) = some (.int (c.ps.length : Nat)))
    ⟨[], none, none, none, rfl, sm0, upd_same, Nat.le_refl _, fun j c z => absurd z (Nat.not_lt_zero _)⟩ (fun j σ H' z => by obtain ⟨_, _, _, _, _, sm, _⟩ := z; exact sm) ?_ ?_
  · rintro i x σ H' hi hx ⟨mm, o8, o9, o10, rfl, sm, hmm, lmm, hval⟩
    obtain ⟨c, a', pn', pb', hc, rfl, ha', hn', _, _⟩ := hand_at rhs hx
    refine ⟨a', _, rfl, SqT.of (sm _ _ ha'), rfl, .str c.x, _, rfl, .ref pn', _, rfl, .ref pb', _, rfl, rfl, .ref pn', rfl, pn', _, rfl, .inl (SqL.of (sm _ _ hn')), .ref md, rfl, .str c.x, rfl, md, _, rfl, DPut.k (k := .inr c.x) hmm (Nat.lt_of_le_of_lt (m := 100) (by omega) (by decide)), ?_⟩
    refine ⟨putK mm (.inr c.x) (.int (c.ps.map V.str).length), _, _, _, rfl, fun b o z => by rw [upd_ne (ne_of_none z hmd)]; exact sm b o z, upd_same, ?_, fun j c2 hj hc2 => ?_⟩
    · have := length_putK mm (.inr c.x) (.int (c.ps.map V.str).length)
      omega
    · rw [valV_put]
      by_cases e : c2.x = c.x
      · rw [if_pos (congrArg Sum.inr e), List.length_map]
        have z1 := many_of wf (List.mem_of_getElem? hc)
        have z2 := many_of wf (List.mem_of_getElem? hc2)
        rw [e] at z2
        rw [← z1, z2]
      · rw [if_neg fun z => e (Sum.inr.inj z)]
        have hne : j ≠ i := fun z => by
          rw [z, hc] at hc2
          cases hc2
          exact e rfl
        exact hval j c2 (by omega) hc2
  rintro σ H4 ⟨mm, o8, o9, o10, rfl, sm4, hmm, lmm, hval⟩
  have hmany : ∀ x ∈ D.nm 3, valV mm (.inr x) = some (.int (D.many x : Nat)) := fun x mx => by
    rw [Pg.nm3] at mx
    obtain ⟨c, mc, rfl⟩ := List.mem_map.mp mx
    obtain ⟨j, hj⟩ := List.getElem?_of_mem mc
    rw [many_of wf mc]
    exact hval j c (by have := (List.getElem?_eq_some_iff.mp hj).1; omega) hj
  have sb4 : Sb (p :: S) H4 := ((sb.same s12).cons hp1).same sm4
  refine ⟨.ref pa, rfl, .ref pa, D, p :: S, rfl, wf, sb4, ru1.mono sm4, few, fun q1 H5 ys s5 hq1 nq1 ra => ?_⟩
  have s45 := sm4.trans s5
  have hp5 := s45 _ _ hp1
  have lq := ra.length
  rw [List.length_map] at lq
  have hpm : p ∈ p :: S := List.mem_cons_self ..
  have npq : q1 ≠ p := fun e => nq1 (by rw [e]; exact hpm)
  refine ⟨q1, rfl, ⟨_, SqL.of hq1⟩, ?_⟩
  -- the state while a statement is looked at
  let Mid : V → List PyData → L2.St → Hp → Prop := fun z L σ H' => σ = [some (.ref pa), some (.ref p), some (.ref md), some z, some (.ref l0), some (.ref l1), some (.ref l2), some (.ref l3), o8, o9, o10, none, none] ∧ (∀ b o, H5 b = some o → b ≠ p → H' b = some o) ∧ ∃ acc, H' p = some (.lst acc) ∧ RA H' (p :: S) acc L
  have midS : ∀ {z L σ H' H2}, Mid z L σ H' → Same H' H2 → Mid z L σ H2 := fun ⟨e, kp, acc, ha, r⟩ s => ⟨e, fun b o h n => s _ _ (kp b o h n), acc, s _ _ ha, r.mono s⟩
  refine for_src (Hb := upd (fun _ => none) q1 (.lst ys)) (Src.list (K := K) (SqL.of upd_same)) (fun i σ H' => ∃ o3, σ = [some (.ref pa), some (.ref p), some (.ref md), o3, some (.ref l0), some (.ref l1), some (.ref l2), some (.ref l3), o8, o9, o10, none, none] ∧ (∀ b o, H5 b = some o → b ≠ p → H' b = some o) ∧ ∃ acc, H' p = some (.lst acc) ∧ RA H' (p :: S) acc (lookL D (D.all.take i)))
    ⟨none, rfl, fun b o z _ => z, [], hp5, .nil⟩ (fun j σ H' z c o e => by
      obtain ⟨_, _, kp, _⟩ := z
      by_cases ec : c = q1
      · subst ec
        rw [upd_same] at e
        rw [kp _ _ hq1 npq, e]
      · rw [upd_ne ec] at e
        cases e) ?_ ?_
  · rintro i z σ H' hi hz ⟨o3, rfl, kp, acc, hacc, racc⟩
    obtain ⟨dd, hdd, rz5⟩ := ra.getV hz
    obtain ⟨t, ht, rfl⟩ := map_get hdd
    have vt : Form t.2 := by
      obtain ⟨c, mc, m⟩ := List.mem_flatMap.mp (List.mem_of_getElem? ht)
      exact (flN_val 6 c.b (wf.ok c mc).val t m).1
    have toH : ∀ {H2 : Hp} {v d}, (∀ b o, H5 b = some o → b ≠ p → H2 b = some o) → R H5 (p :: S) v d → R H2 (p :: S) v d := fun k r => Rp.mono (fun b o e => by
      obtain ⟨e1, n1⟩ := of_hid e
      rw [hid_out n1]
      exact k b o e1 fun q => n1 (by rw [q]; exact hpm)) _ _ r
    generalize hst : t.2 = st at vt
    have rz5' : R H5 (p :: S) z (st.toD (t.1 + 1)) := by rw [← hst]; exact rz5
    obtain ⟨a, xs, rfl, ha5, x0, x1, hnm, hes⟩ := name_at rz5' vt
    have nap : a ≠ p := fun e => by
      obtain ⟨a', xs', e', _, na', _⟩ := R.tuple rz5'
      cases e'
      exact na' (by rw [e]; exact hpm)
    have up : ∀ {L : List PyData} {σ : L2.St} {H2 : Hp}, Mid (.ref a) L σ H2 → H2 a = some (.tup xs) := fun m => m.2.1 _ _ ha5 nap
    have upl : ∀ {l : Addr} {N : List V} {L : List PyData} {σ : L2.St} {H2 : Hp}, H1 l = some (.lst N) → l ≠ p → Mid (.ref a) L σ H2 → H2 l = some (.lst N) := fun h n m => m.2.1 _ _ (s45 _ _ h) n
    have n0 : l0 ≠ p := fun e => m0 (by rw [e]; exact hpm)
    have n1 : l1 ≠ p := fun e => m1 (by rw [e]; exact hpm)
    have n2 : l2 ≠ p := fun e => m2 (by rw [e]; exact hpm)
    have n3 : l3 ≠ p := fun e => m3 (by rw [e]; exact hpm)
    have lB := lookL_le D (D.all.take i)
    rw [List.length_take] at lB
    have eB : lookL D (D.all.take (i + 1)) = lookL D (D.all.take i) ++ lookF D st := by
      rw [List.take_add_one, ht, lookL_append]
      show _ ++ List.flatMap _ [t] = _
      rw [List.flatMap_cons, List.flatMap_nil, List.append_nil, hst]
    generalize lookL D (D.all.take i) = B at racc lB eB
    have app : ∀ (kd : Str) (j : Nat) (x : Str) (L : List PyData) (D' : Ends) (H2 : Hp), xs[j]? = some (.str x) → L.length ≤ 63 → Mid (.ref a) L [some (.ref pa), some (.ref p), some (.ref md), some (.ref a), some (.ref l0), some (.ref l1), some (.ref l2), some (.ref l3), o8, o9, o10, none, none] H2 →
        (∀ σ H3, Mid (.ref a) (L ++ [ftD kd st.k x]) σ H3 → D'.nx σ H3) → tDrop (tBM K "list" rAppend (tVar 1) (tCons (tTup (tCons (tC (.str kd)) (tCons (tOp (rIxT K) (tVar 3) (tC (.int 1))) (tCons (tOp (rIxT K) (tVar 3) (tC (.int (j : Nat)))) tNil)))) tNil)) D'
          [some (.ref pa), some (.ref p), some (.ref md), some (.ref a), some (.ref l0), some (.ref l1), some (.ref l2), some (.ref l3), o8, o9, o10, none, none] H2 := by
      intro kd j x L D' H2 hxj lL m hnx
      obtain ⟨_, kp2, acc2, hacc2, racc2⟩ := id m
      have la2 := racc2.length
      have sb2 : Sb (p :: S) H2 := fun b mb => by
        rcases List.mem_cons.mp mb with e | e
        · rw [e, hacc2]; exact fun z => nomatch z
        · cases hb : H5 b with
          | none => exact absurd hb ((sb4.same s5) b mb)
          | some o =>
            by_cases ep : b = p
            · rw [ep, hacc2]; exact fun z => nomatch z
            · rw [kp2 b o hb ep]; exact fun z => nomatch z
      refine ⟨.ref p, rfl, .inl ⟨rfl, _, SqL.of hacc2⟩, .ref a, rfl, a, xs, _, .int st.k, rfl, rfl, SqT.of (up m), at_of (j := 1) rfl x1, .ref a, rfl, a, xs, _, .str x, rfl, rfl, SqT.of (up m), at_of (j := j) rfl hxj, small5 (by simp), fun p1 hp1 => ?_⟩
      have s9 := nw hp1 (.tup [V.str kd, V.int st.k, V.str x])
      refine ⟨p, acc2, .ref p1, rfl, rfl, s9 _ _ hacc2, lt5 (by omega), hnx _ _ ⟨rfl, fun b o e n => by rw [upd_ne n]; exact s9 _ _ (kp2 b o e n), acc2 ++ [.ref p1], upd_same, ?_⟩⟩
      exact ((racc2.mono s9).updS _ hpm).append (.one ((R.newT sb2 hp1 (.cons (.rstr _) (.cons (.rint _) (.one (.rstr _))))).updS _ hpm))
    have m0' : Mid (.ref a) B [some (.ref pa), some (.ref p), some (.ref md), some (.ref a), some (.ref l0), some (.ref l1), some (.ref l2), some (.ref l3), o8, o9, o10, none, none] H' := ⟨rfl, kp, acc, hacc, racc⟩
    have lkn : ∀ {i}, kindS st.w = some i → i ≠ 3 → nameS st ∉ D.nm i → lookF D st = [ftD (kNm i) st.k (nameS st)] := fun h h3 n => by rw [look_lack h h3, if_neg n]
    have lki : ∀ {i}, kindS st.w = some i → i ≠ 3 → nameS st ∈ D.nm i → lookF D st = [] := fun h h3 n => by rw [look_lack h h3, if_pos n]
    refine g_name ?_
    dsimp only
    refine ⟨Mid (.ref a) (B ++ if kindS st.w = some 0 then lookF D st else []), ?_, ?_⟩
    · refine if_r (b := decide (st.w ∈ [("take" : Str), "give"]) && !decide (nameS st ∈ D.nm 0)) (tst_and (fun Q1 q1 => ?_) fun hb H2 s2 Q1 q1 => ?_) (fun hb H2 s2 => ?_) (fun hb H2 s2 => ?_)
      · exact ⟨.ref a, rfl, a, xs, _, .str st.w, rfl, rfl, SqT.of (up m0'), at_of (j := 0) rfl x0, small5 (by simp), fun pl hpl => rin_f (L := [("take" : Str), "give"]) (SqL.of upd_same) ⟨_, rfl, q1 _ (nw hpl _)⟩⟩
      · have hk := (k_is0 _).mp (of_decide_eq_true hb)
        have m2' := midS m0' s2
        exact ⟨.ref a, rfl, a, xs, _, .str (nameS st), rfl, rfl, SqT.of (up m2'), at_of (j := 2) rfl (hnm 0 hk), .ref l0, rfl, rin_t (SqL.of (upl h0 n0 m2')) ⟨_, rfl, q1 _ (Same.refl _)⟩⟩
      · obtain ⟨b1, b2⟩ := (Bool.and_eq_true _ _).mp hb
        have hk := (k_is0 _).mp (of_decide_eq_true b1)
        have hn : nameS st ∉ D.nm 0 := by simpa using b2
        refine app "tool" 2 (nameS st) B _ H2 (hnm 0 hk) (by omega) (midS m0' s2) fun σ H3 m => ?_
        rw [if_pos hk, lkn hk (by decide) hn]
        exact m
      · refine t_next ?_
        dsimp only
        have e : (if kindS st.w = some 0 then lookF D st else []) = [] := by
          by_cases hk : kindS st.w = some 0
          · rw [if_pos hk]
            refine lki hk (by decide) ?_
            have := (k_is0 _).mpr hk
            rw [decide_eq_true this, Bool.true_and] at hb
            simpa using hb
          · rw [if_neg hk]
        rw [e, List.append_nil]
        exact midS m0' s2
    rintro σ H6 ⟨rfl, kp6, acc6, hacc6, racc6⟩
    have m6 : Mid (.ref a) _ _ H6 := ⟨rfl, kp6, acc6, hacc6, racc6⟩
    have lL6 : (B ++ if kindS st.w = some 0 then lookF D st else []).length ≤ 62 + 1 := by
      have := lookF_le D st
      have hi' := (List.getElem?_eq_some_iff.mp ht).1
      rw [List.length_append]
      split
      · omega
      · show _ + 0 ≤ _; omega
    refine ⟨Mid (.ref a) (B ++ if kindS st.w = some 0 ∨ kindS st.w = some 1 then lookF D st else []), ?_, ?_⟩
    · refine if_r (b := decide (st.w ∈ [("put" : Str), "get"]) && !decide (nameS st ∈ D.nm 1)) (tst_and (fun Q1 q1 => ?_) fun hb H2 s2 Q1 q1 => ?_) (fun hb H2 s2 => ?_) (fun hb H2 s2 => ?_)
      · exact ⟨.ref a, rfl, a, xs, _, .str st.w, rfl, rfl, SqT.of (up m6), at_of (j := 0) rfl x0, small5 (by simp), fun pl hpl => rin_f (L := [("put" : Str), "get"]) (SqL.of upd_same) ⟨_, rfl, q1 _ (nw hpl _)⟩⟩
      · have hk := (k_is1 _).mp (of_decide_eq_true hb)
        have m2' := midS m6 s2
        exact ⟨.ref a, rfl, a, xs, _, .str (nameS st), rfl, rfl, SqT.of (up m2'), at_of (j := 2) rfl (hnm 1 hk), .ref l1, rfl, rin_t (SqL.of (upl h1 n1 m2')) ⟨_, rfl, q1 _ (Same.refl _)⟩⟩
      · obtain ⟨b1, b2⟩ := (Bool.and_eq_true _ _).mp hb
        have hk := (k_is1 _).mp (of_decide_eq_true b1)
        have hn : nameS st ∉ D.nm 1 := by simpa using b2
        have e0 : (if kindS st.w = some 0 then lookF D st else []) = [] := if_neg (by rw [hk]; decide)
        refine app "store" 2 (nameS st) _ _ H2 (hnm 1 hk) lL6 (midS m6 s2) fun σ H3 m => ?_
        rw [e0, List.append_nil] at m
        rw [if_pos (.inr hk), lkn hk (by decide) hn]
        exact m
      · refine t_next ?_
        dsimp only
        have e : (if kindS st.w = some 0 ∨ kindS st.w = some 1 then lookF D st else []) = if kindS st.w = some 0 then lookF D st else [] := by
          by_cases hk : kindS st.w = some 1
          · rw [if_pos (.inr hk), if_neg (by rw [hk]; decide)]
            refine lki hk (by decide) ?_
            have := (k_is1 _).mpr hk
            rw [decide_eq_true this, Bool.true_and] at hb
            simpa using hb
          · simp only [hk, or_false]
        rw [e]
        exact midS m6 s2
    rintro σ H7 ⟨rfl, kp7, acc7, hacc7, racc7⟩
    have m7 : Mid (.ref a) _ _ H7 := ⟨rfl, kp7, acc7, hacc7, racc7⟩
    have lL7 : (B ++ if kindS st.w = some 0 ∨ kindS st.w = some 1 then lookF D st else []).length ≤ 62 + 1 := by
      have := lookF_le D st
      have hi' := (List.getElem?_eq_some_iff.mp ht).1
      rw [List.length_append]
      split
      · omega
      · show _ + 0 ≤ _; omega
    refine ⟨Mid (.ref a) (B ++ if kindS st.w = some 3 then [] else lookF D st), ?_, ?_⟩
    · refine if_r (b := decide (st.w = "draw") && !decide (nameS st ∈ D.nm 2)) (tst_and (fun Q1 q1 => ?_) fun hb H2 s2 Q1 q1 => ?_) (fun hb H2 s2 => ?_) (fun hb H2 s2 => ?_)
      · refine ⟨.ref a, rfl, a, xs, _, .str st.w, rfl, rfl, SqT.of (up m7), at_of (j := 0) rfl x0, rfl, _, rfl, ?_⟩
        have e : decide (V.str st.w = V.str "draw") = decide (st.w = "draw") := decide_eq_decide.mpr ⟨fun z => V.str.inj z, fun z => congrArg V.str z⟩
        rw [e]
        exact q1 _ (Same.refl _)
      · have hk := (k_is2 _).mp (of_decide_eq_true hb)
        have m2' := midS m7 s2
        exact ⟨.ref a, rfl, a, xs, _, .str (nameS st), rfl, rfl, SqT.of (up m2'), at_of (j := 3) rfl (hnm 2 hk), .ref l2, rfl, rin_t (SqL.of (upl h2 n2 m2')) ⟨_, rfl, q1 _ (Same.refl _)⟩⟩
      · obtain ⟨b1, b2⟩ := (Bool.and_eq_true _ _).mp hb
        have hk := (k_is2 _).mp (of_decide_eq_true b1)
        have hn : nameS st ∉ D.nm 2 := by simpa using b2
        have e0 : (if kindS st.w = some 0 ∨ kindS st.w = some 1 then lookF D st else []) = [] := if_neg (by rw [hk]; decide)
        refine app "row" 3 (nameS st) _ _ H2 (hnm 2 hk) lL7 (midS m7 s2) fun σ H3 m => ?_
        rw [e0, List.append_nil] at m
        rw [if_neg (by rw [hk]; decide), lkn hk (by decide) hn]
        exact m
      · refine t_next ?_
        dsimp only
        have e : (if kindS st.w = some 3 then [] else lookF D st) = if kindS st.w = some 0 ∨ kindS st.w = some 1 then lookF D st else [] := by
          cases hk : kindS st.w with
          | none =>
            rw [if_neg (by decide), if_neg (by decide), look_none hk]
          | some j =>
            have j4 := kind_lt hk
            match j, j4, hk with
            | 0, _, hk => rfl
            | 1, _, hk => rfl
            | 2, _, hk =>
              rw [if_neg (by decide), if_neg (by decide)]
              refine lki hk (by decide) ?_
              have := (k_is2 _).mpr hk
              rw [decide_eq_true this, Bool.true_and] at hb
              simpa using hb
            | 3, _, hk => rfl
        rw [e]
        exact midS m7 s2
    rintro σ H8 ⟨rfl, kp8, acc8, hacc8, racc8⟩
    have m8 : Mid (.ref a) _ _ H8 := ⟨rfl, kp8, acc8, hacc8, racc8⟩
    have lL8 : (B ++ if kindS st.w = some 3 then [] else lookF D st).length ≤ 62 + 1 := by
      have := lookF_le D st
      have hi' := (List.getElem?_eq_some_iff.mp ht).1
      rw [List.length_append]
      split
      · show _ + 0 ≤ _; omega
      · omega
    have endM : ∀ σ H3, Mid (.ref a) (B ++ lookF D st) σ H3 → ∃ o3, σ = [some (.ref pa), some (.ref p), some (.ref md), o3, some (.ref l0), some (.ref l1), some (.ref l2), some (.ref l3), o8, o9, o10, none, none] ∧ (∀ b o, H5 b = some o → b ≠ p → H3 b = some o) ∧ ∃ acc, H3 p = some (.lst acc) ∧ RA H3 (p :: S) acc (lookL D (D.all.take (i + 1))) := fun σ H3 m => by
      rw [← eB] at m
      exact ⟨_, m.1, m.2⟩
    have eS : ∀ (b : Bool), (decide (V.str st.w = V.str "start")) = decide (st.w = "start") := fun _ => decide_eq_decide.mpr ⟨fun z => V.str.inj z, fun z => congrArg V.str z⟩
    have elook : kindS st.w = some 3 → lookF D st = if nameS st ∈ D.nm 3 then (if 3 = 3 ∧ D.many (nameS st) ≠ (esS st).length then [ftD "numbers" st.k (nameS st)] else []) else [ftD (kNm 3) st.k (nameS st)] := fun hk => by
      unfold lookF
      rw [hk]
    refine if_r (b := decide (st.w = "start") && !decide (nameS st ∈ D.nm 3)) (tst_and (fun Q1 q1 => ?_) fun hb H2 s2 Q1 q1 => ?_) (fun hb H2 s2 => ?_) (fun hb H2 s2 => ?_)
    · refine ⟨.ref a, rfl, a, xs, _, .str st.w, rfl, rfl, SqT.of (up m8), at_of (j := 0) rfl x0, rfl, _, rfl, ?_⟩
      rw [eS true]
      exact q1 _ (Same.refl _)
    · have hk := (k_is3 _).mp (of_decide_eq_true hb)
      have m2' := midS m8 s2
      exact ⟨.ref a, rfl, a, xs, _, .str (nameS st), rfl, rfl, SqT.of (up m2'), at_of (j := 2) rfl (hnm 3 hk), .ref l3, rfl, rin_t (SqL.of (upl h3 n3 m2')) ⟨_, rfl, q1 _ (Same.refl _)⟩⟩
    · obtain ⟨b1, b2⟩ := (Bool.and_eq_true _ _).mp hb
      have hk := (k_is3 _).mp (of_decide_eq_true b1)
      have hn : nameS st ∉ D.nm 3 := by simpa using b2
      refine app "hand" 2 (nameS st) _ _ H2 (hnm 3 hk) lL8 (midS m8 s2) fun σ H3 m => ?_
      rw [if_pos hk, List.append_nil] at m
      refine endM σ H3 ?_
      rw [elook hk, if_neg hn]
      exact m
    · have m9 := midS m8 s2
      refine if_r (b := decide (st.w = "start") && !decide (V.int (D.many (nameS st) : Nat) = V.int ((esS st).length : Nat))) (tst_and (fun Q1 q1 => ?_) fun hb2 H3 s3 Q1 q1 => ?_) (fun hb2 H3 s3 => ?_) (fun hb2 H3 s3 => ?_)
      · refine ⟨.ref a, rfl, a, xs, _, .str st.w, rfl, rfl, SqT.of (up m9), at_of (j := 0) rfl x0, rfl, _, rfl, ?_⟩
        rw [eS true]
        exact q1 _ (Same.refl _)
      · have hk := (k_is3 _).mp (of_decide_eq_true hb2)
        have hin : nameS st ∈ D.nm 3 := by
          rw [hb2, Bool.true_and] at hb
          simpa using hb
        have m3' := midS m9 s3
        obtain ⟨pe, es, x3, hpe, rae⟩ := hes hk
        have npe : pe ≠ p := fun e => by
          obtain ⟨a', xs', e', ha', _, ra'⟩ := R.tuple rz5'
          cases e'
          rw [ha5] at ha'
          cases ha'
          obtain ⟨d3, _, r3'⟩ := ra'.getV x3
          have z := r3'
          rw [e] at z
          cases z with
          | lst e _ => exact (of_hid e).2 hpm
          | tup e _ => exact (of_hid e).2 hpm
        have hmd5 : H5 md = some (.dK mm) := s5 _ _ hmm
        have nmd : md ≠ p := fun e => by rw [e, hp5] at hmd5; cases hmd5
        have hmd3 := m3'.2.1 _ _ hmd5 nmd
        have hpe3 := m3'.2.1 _ _ hpe npe
        refine ⟨.ref md, rfl, .ref a, rfl, a, xs, _, .str (nameS st), rfl, rfl, SqT.of (up m3'), at_of (j := 2) rfl (hnm 3 hk), md, .int (D.many (nameS st) : Nat), rfl, (by have z := DGet.k (k := .inr (nameS st)) hmd3; rw [hmany _ hin] at z; exact z), ?_⟩
        refine ⟨.ref a, rfl, a, xs, _, .ref pe, rfl, rfl, SqT.of (up m3'), at_of (j := 3) rfl x3, pe, es, rfl, .inl (SqL.of hpe3), rfl, _, rfl, ?_⟩
        rw [rae.length]
        exact q1 _ (Same.refl _)
      · obtain ⟨b1, b2⟩ := (Bool.and_eq_true _ _).mp hb2
        have hk := (k_is3 _).mp (of_decide_eq_true b1)
        have hin : nameS st ∈ D.nm 3 := by
          rw [b1, Bool.true_and] at hb
          simpa using hb
        have hne : D.many (nameS st) ≠ (esS st).length := fun z => by
          rw [z] at b2
          simp at b2
        refine app "numbers" 2 (nameS st) _ _ H3 (hnm 3 hk) lL8 (midS m9 s3) fun σ H3 m => ?_
        rw [if_pos hk, List.append_nil] at m
        refine endM σ H3 ?_
        rw [elook hk, if_pos hin, if_pos ⟨rfl, hne⟩]
        exact m
      · refine t_next ?_
        dsimp only
        refine endM _ _ ?_
        have e : lookF D st = if kindS st.w = some 3 then [] else lookF D st := by
          by_cases hk : kindS st.w = some 3
          · rw [if_pos hk, elook hk]
            have hw := (k_is3 _).mpr hk
            rw [decide_eq_true hw, Bool.true_and] at hb hb2
            have hin : nameS st ∈ D.nm 3 := by simpa using hb
            have he : D.many (nameS st) = (esS st).length := by
              have z := V.int.inj (of_decide_eq_true (by simpa using hb2 : decide (V.int (D.many (nameS st) : Nat) = V.int ((esS st).length : Nat)) = true))
              omega
            rw [if_pos hin, if_neg fun z => z.2 he]
          · rw [if_neg hk]
        rw [e]
        exact midS m9 s3
  · rintro σ H' ⟨o3, rfl, kp, acc, hacc, racc⟩
    rw [lq, List.take_length] at racc
    refine ⟨.ref p, rfl, q p H' acc (fun b o e => kp b o (s45 _ _ (s12 _ _ e)) (ne_of_none e hp)) hp hacc racc.tl⟩
end
end K14
/-! ## K15A -/
namespace K14
open PySem PySem.Spec PyProof.Rows L2 KR TL
section
variable {P : Program} {w : World} {K : PySem.W.Frag} {mg : Str → Option Value} {base : Heap}
def sp_copied (n : Nat) : Sp := fun vs H Q _ => ∃ (v : V) (d : PyData) (S : List Addr) (m : Nat), vs = [v] ∧ n = m + 1 ∧ Sb S H ∧ R H S v d ∧ Fit m d ∧ ∀ v' H', Same H H' → R H' S v' d → Q v' H'
theorem ok_copied (d : Df K mg "_law_copied" s_copied pp_copied) (T : Tx mg) : ∀ n : Nat, Ok P w K mg base n "_law_copied" pp_copied (sp_copied n)
  | 0 => none_left d fun vs H Q E ⟨_, _, _, _, _, h, _⟩ => absurd h (fun z => nomatch z)
  | n + 1 => by
    have g_copied := ok_copied d T n
    refine d.mk sc_copied (fun vs H Q E h => ?_) (fun f cdv A outer s H vs Q E hr h => ?_)
    · obtain ⟨v, dd, S, m, rfl, _⟩ := h; rfl
    obtain ⟨v, dd, S, m, rfl, hm, sb, rv, fit, q⟩ := h
    have hm : n = m := Nat.succ.inj hm
    subst hm
    refine ⟨_, (pss_cons (ps_if (pt_val (pe_callB (call_isiK2 K rfl) (by rfl) T.isinstance (by decide +kernel) (pa_cons (pv 0) (pa_cons (pe_bltn (v := .ty "list") (by rfl) T.list (by decide +kernel) rfl) pa_nil)))) (pss_one (ps_ret (pe_lc (own := [("part", 1)]) (g := gName 1) (tt := tYes) rfl sc_copied.nd (pi_listK K rfl (pv 0)) (blkOk_by (own := [("part", 1)]) (N := N_copied) (sc := defScope s_copied) (by decide +kernel)) (fun _ _ _ _ _ => (pg_name (i := 1) sc_copied.nd rfl (by first | exact .inl rfl | exact .inr rfl))) (fun _ _ _ _ _ => pts_nil) (fun _ _ _ _ _ => (pcall g_copied hr (by omega) rfl (pa_cons (pv 1) pa_nil)))))) pss_nil)
      (pss_cons (ps_if (pt_val (pe_callB (call_isiK2 K rfl) (by rfl) T.isinstance (by decide +kernel) (pa_cons (pv 0) (pa_cons (pe_bltn (v := .ty "tuple") (by rfl) T.tuple (by decide +kernel) rfl) pa_nil)))) (pss_one (ps_ret (pe_callTy (call_tupleK K rfl) (by rfl) T.tuple (by decide +kernel) (pa_cons (pe_lc (own := [("part", 1)]) (g := gName 1) (tt := tYes) rfl sc_copied.nd (pi_tupK K rfl (pv 0)) (blkOk_by (own := [("part", 1)]) (N := N_copied) (sc := defScope s_copied) (by decide +kernel)) (fun _ _ _ _ _ => (pg_name (i := 1) sc_copied.nd rfl (by first | exact .inl rfl | exact .inr rfl))) (fun _ _ _ _ _ => pts_nil) (fun _ _ _ _ _ => (pcall g_copied hr (by omega) rfl (pa_cons (pv 1) pa_nil)))) pa_nil)))) pss_nil)
      (pss_one (ps_ret (pv 0))))), ?_⟩
    have at_ : ∀ t : String, TyX K H v (.type t) → kitB t "list" = some false → kitB t "tuple" = some false → tSeq (tIfS (tB (tCB (rIsi K) (tCons (tVar 0) (tCons (tC (V.ty "list")) tNil)))) (tRet (tLc (iList K (tVar 0)) (gName 1) tYes (tCall (sp_copied n) [] E0 (tCons (tVar 1) tNil)) (List.map (fun x => x.snd) [(("part" : Str), 1)]))) tNext)
        (tSeq (tIfS (tB (tCB (rIsi K) (tCons (tVar 0) (tCons (tC (V.ty "tuple")) tNil)))) (tRet (tCB (rTupleK K) (tCons (tLc (iTup K (tVar 0)) (gName 1) tYes (tCall (sp_copied n) [] E0 (tCons (tVar 1) tNil)) (List.map (fun x => x.snd) [(("part" : Str), 1)])) tNil))) tNext) (tRet (tVar 0)))
        { nx := fun x H' => Q V.non H', rt := Q } (L2.start N_copied [v]) H := fun t ty k1 k2 =>
      ⟨v, rfl, v, .ty "list", .type t, .type "list", false, rfl, .ty _, ty, kit_ty k1, false, rfl, iteF ⟨v, rfl, v, .ty "tuple", .type t, .type "tuple", false, rfl, .ty _, ty, kit_ty k2, false, rfl, iteF ⟨v, rfl, q v H (Same.refl _) rv⟩⟩⟩
    cases rv with
    | non => exact at_ "NoneType" (.base .non) (by decide) (by decide)
    | bl b => exact at_ "bool" (.base (.bl _)) (by decide) (by decide)
    | int i => exact at_ "int" (.base (.int _)) (by decide) (by decide)
    | str x => exact at_ "str" (.base (.str _)) (by decide) (by decide)
    | lst e r =>
      rename_i a xs ds
      have he := (of_hid e).1
      cases n with
      | zero => exact absurd fit id
      | succ n =>
      have lx := RpA.length r
      refine ⟨.ref a, rfl, .ref a, .ty "list", .type "list", .type "list", true, rfl, .ty _, .base (.lst he), kit_ty (by decide), true, rfl, iteT ⟨.ref a, rfl, a, rfl, ⟨_, SqL.of he⟩, fun D1 nD => ?_⟩⟩
      refine lc_data (S := S) (ds := ds) (Src.list (SqL.of he)) nD sb lx.symm (by rw [lx]; exact fit.1) (fun i x dd H1 hx hd sm sb1 Q2 q2 => ?_) (fun H1 s1 r1 => q _ _ s1 r1) (fun _ _ _ _ h p => h _ _ p)
      obtain ⟨d2, hd2, rx⟩ := RA.getV (H := H) (S := S) r hx
      rw [hd] at hd2
      cases hd2
      exact ⟨rfl, x, rfl, x, dd, D1 :: S, n, rfl, rfl, sb1, rx.hide nD sm, fit.2 dd (List.mem_of_getElem? hd), fun v' H2 s2 r2 => q2 v' H2 s2 r2⟩
    | tup e r =>
      rename_i a xs ds
      have he := (of_hid e).1
      cases n with
      | zero => exact absurd fit id
      | succ n =>
      have lx := RpA.length r
      refine ⟨.ref a, rfl, .ref a, .ty "list", .type "tuple", .type "list", false, rfl, .ty _, .base (.tup he), kit_ty (by decide), false, rfl, iteF ?_⟩
      refine ⟨.ref a, rfl, .ref a, .ty "tuple", .type "tuple", .type "tuple", true, rfl, .ty _, .base (.tup he), kit_ty (by decide), true, rfl, iteT ⟨.ref a, rfl, a, rfl, ⟨_, SqT.of he⟩, fun D1 nD => ?_⟩⟩
      refine lc_data (S := S) (ds := ds) (Src.tup (SqT.of he)) nD sb lx.symm (by rw [lx]; exact fit.1) (fun i x dd H1 hx hd sm sb1 Q2 q2 => ?_) (fun H1 s1 r1 => ?_) (fun _ _ _ _ h p => h _ _ p)
      · obtain ⟨d2, hd2, rx⟩ := RA.getV (H := H) (S := S) r hx
        rw [hd] at hd2
        cases hd2
        exact ⟨rfl, x, rfl, x, dd, D1 :: S, n, rfl, rfl, sb1, rx.hide nD sm, fit.2 dd (List.mem_of_getElem? hd), fun v' H2 s2 r2 => q2 v' H2 s2 r2⟩
      · obtain ⟨a1, xs1, e1, h1, _, ra1⟩ := r1.list
        cases e1
        exact ⟨D1, xs1, rfl, .inl ⟨SqL.of h1, fun l hl => q _ _ (s1.trans (nw hl _)) (R.newT (sb.same s1) hl ra1)⟩⟩
/-! ### one statement exchanged -/
def exB (k0 : Int) (new : Stm) : Nat → List Stm → List Stm
  | 0, _ => []
  | n + 1, b => b.map fun s => if s.k = k0 then new else .mk s.w s.k s.fs (s.bs.map (exB k0 new n))
theorem ex_val {k0 : Int} {new : Stm} (fo : Form new) (hb : new.bs = []) : ∀ (n : Nat) (b : List Stm), (∀ s ∈ b, Val n s) → ∀ s ∈ exB k0 new n b, Val n s
  | 0, _, _, s, m => nomatch m
  | n + 1, b, h, s, m => by
    obtain ⟨t, mt, rfl⟩ := List.mem_map.mp m
    have vt := h t mt
    by_cases c : t.k = k0
    · rw [if_pos c]
      exact ⟨fo, fun c mc => by rw [hb] at mc; exact nomatch mc⟩
    · rw [if_neg c]
      refine ⟨?_, fun c mc u mu => ?_⟩
      · have f := vt.1
        cases f with
        | deed h1 h2 h3 => exact .deed h1 h2 h3
        | wait h1 => exact .wait h1
        | draw h1 h2 => exact .draw h1 h2
        | start h1 h2 h3 => exact .start h1 h2 h3
        | stop => exact .stop
        | iff h1 h2 h3 => exact .iff h1 h2 h3
        | whl h1 h2 h3 => exact .whl h1 h2 h3
      · obtain ⟨c', mc', rfl⟩ := List.mem_map.mp mc
        exact ex_val fo hb n c' (vt.2 c' mc') u mu
end
end K14
/-! ## K15B -/
namespace K14
open PySem PySem.Spec PyProof.Rows L2 KR TL
theorem ex_append (k0 : Int) (new : Stm) (n : Nat) (b c : List Stm) : exB k0 new n (b ++ c) = exB k0 new n b ++ exB k0 new n c := by
  cases n with
  | zero => rfl
  | succ n => exact List.map_append
section
variable {P : Program} {w : World} {K : PySem.W.Frag} {mg : Str → Option Value} {base : Heap}
def sp_exch (n : Nat) : Sp := fun vs H Q _ => ∃ (v ov nv : V) (b : List Stm) (l : Nat) (old new : Stm) (S : List Addr) (m : Nat), vs = [v, ov, nv] ∧ n = m + 1 ∧ Sb S H ∧ R H S v (.list (b.map (Stm.toD m))) ∧ R H S ov (old.toD (l + 1)) ∧ R H S nv (new.toD 1) ∧ new.bs = [] ∧ Form new ∧
  (∀ s ∈ b, Val m s) ∧ (fl m b).length ≤ 63 ∧ ∀ v' H', Same H H' → R H' S v' (.list ((exB old.k new m b).map (Stm.toD m))) → Q v' H'
theorem ok_exch (d : Df K mg "_law_exchanged" s_exch pp_exch) (T : Tx mg) : ∀ n : Nat, Ok P w K mg base n "_law_exchanged" pp_exch (sp_exch n)
  | 0 => none_left d fun vs H Q E ⟨_, _, _, _, _, _, _, _, _, _, h, _⟩ => absurd h (fun z => nomatch z)
  | n + 1 => by
    have g_exch := ok_exch d T n
    refine d.mk sc_exch (fun vs H Q E h => ?_) (fun f cdv A outer s H vs Q E hr h => ?_)
    · obtain ⟨v, ov, nv, b, l, old, new, S, m, rfl, _⟩ := h; rfl
    obtain ⟨v, ov, nv, b, l, old, new, S, m, rfl, hm, sb, rv, ro, rn, nbs, nfo, hv, few, q⟩ := h
    have hm : n = m := Nat.succ.inj hm
    subst hm
    refine ⟨_, (pss_cons (ps_set (i := 3) sc_exch.nd rfl (by first | exact .inl rfl | exact .inr rfl) (pe_lst pa_nil))
      (pss_cons (ps_for PassesOwn.never rfl (pi_listK K rfl (pv 0)) (pg_name (i := 4) sc_exch.nd rfl (by first | exact .inl rfl | exact .inr rfl)) (pss_one (ps_if (pt_cmpR op_eq (pe_ix (ix_tupK K rfl) (pv 4) pe_int (fun _ _ => rfl)) (pe_ix (ix_tupK K rfl) (pv 1) pe_int (fun _ _ => rfl)) (nomark _)) (pss_one (ps_expr (pe_bm PySem.F.plainAttrs_list PySem.F.slot_list_append PySem.F.type_list_append mt_append (pv 3) (pa_cons (pv 2) pa_nil)))) (pss_one (ps_if (pt_cmpR (op_inK K rfl) (pe_ix (ix_tupK K rfl) (pv 4) pe_int (fun _ _ => rfl)) (pe_lst (pa_cons pe_str (pa_cons pe_str pa_nil))) (by rfl)) (pss_one (ps_expr (pe_bm PySem.F.plainAttrs_list PySem.F.slot_list_append PySem.F.type_list_append mt_append (pv 3) (pa_cons (pe_op (op_catTK K rfl) (pe_slice (sl_tupK K rfl) (pv 4) po_none (po_some pe_int)) (pe_callTy (call_tupleK K rfl) (by rfl) T.tuple (by decide +kernel) (pa_cons (pe_lc (own := [("part", 5)]) (g := gName 5) (tt := tYes) rfl sc_exch.nd (pi_tupK K rfl (pe_slice (sl_tupK K rfl) (pv 4) (po_some pe_int) po_none)) (blkOk_by (own := [("part", 5)]) (N := N_exch) (sc := defScope s_exch) (by decide +kernel)) (fun _ _ _ _ _ => (pg_name (i := 5) sc_exch.nd rfl (by first | exact .inl rfl | exact .inr rfl))) (fun _ _ _ _ _ => pts_nil) (fun _ _ _ _ _ => (pcall g_exch hr (by omega) rfl (pa_cons (pv 5) (pa_cons (pv 1) (pa_cons (pv 2) pa_nil)))))) pa_nil))) pa_nil)))) (pss_one (ps_expr (pe_bm PySem.F.plainAttrs_list PySem.F.slot_list_append PySem.F.type_list_append mt_append (pv 3) (pa_cons (pv 4) pa_nil)))))))))
      (pss_one (ps_ret (pv 3))))), ?_⟩
    refine ⟨Nat.zero_le _, fun p hp => ?_⟩
    obtain ⟨pb, bvs, rfl, hb, nb, rb⟩ := rv.list
    have s1 := nw hp (.lst [])
    have hb1 := s1 _ _ hb
    have lb := rb.length
    rw [List.length_map] at lb
    have l63 : b.length ≤ 63 := by
      cases n with
      | zero =>
        cases b with
        | nil => exact Nat.zero_le _
        | cons s _ => exact absurd (hv s (List.mem_cons_self ..)) id
      | succ n => exact Nat.le_trans (fl_len n b) few
    have ro1 : R (upd H p (.lst [])) (p :: S) ov _ := ro.hide hp s1
    have rn1 : R (upd H p (.lst [])) (p :: S) nv _ := rn.hide hp s1
    have rb1 : RA (upd H p (.lst [])) (p :: S) bvs (b.map (Stm.toD n)) := rb.hide hp s1
    refine ⟨.ref pb, rfl, pb, rfl, ⟨_, SqL.of hb1⟩, ?_⟩
    let J : Nat → L2.St → Hp → Prop := fun i σ H' => ∃ acc o4 o5, σ = [some (.ref pb), some ov, some nv, some (.ref p), o4, o5] ∧ Same H H' ∧ H' p = some (.lst acc) ∧ Same (hid (upd H p (.lst [])) (p :: S)) (hid H' (p :: S)) ∧ RA H' (p :: S) acc ((exB old.k new n (b.take i)).map (Stm.toD n)) ∧ acc.length = i
    refine for_src (Hb := H) (Src.list (K := K) (SqL.of hb)) J ⟨[], none, none, rfl, s1, upd_same, Same.refl _, (by rw [List.take_zero, show exB old.k new n [] = [] by cases n <;> rfl]; exact .nil), rfl⟩ (fun i σ H' j => by obtain ⟨acc, o4, o5, rfl, sm, _⟩ := j; exact sm) ?_ ?_
    · rintro i x σ H' hi hx ⟨acc, o4, o5, rfl, sm, hacc, im, ra, hlen⟩
      obtain ⟨dx, hdx, rx1⟩ := rb1.getV hx
      obtain ⟨st, hst, rfl⟩ := map_get hdx
      have mst := List.mem_of_getElem? hst
      have vst := hv st mst
      have rx : R H' (p :: S) x (st.toD n) := Rp.mono im _ _ rx1
      have ro' : R H' (p :: S) ov (old.toD (l + 1)) := Rp.mono im _ _ ro1
      have rn' : R H' (p :: S) nv (new.toD 1) := Rp.mono im _ _ rn1
      have sb' : Sb (p :: S) H' := (sb.same sm).cons hacc
      have mp : p ∈ p :: S := List.mem_cons_self ..
      have fin : ∀ (y : V) (H2 : Hp) (o4 o5 : Option V), Same H' H2 → RA H2 (p :: S) [y] ((exB old.k new n [st]).map (Stm.toD n)) → J (i + 1) [some (.ref pb), some ov, some nv, some (.ref p), o4, o5] (upd H2 p (.lst (acc ++ [y]))) := by
        intro y H2 o4 o5 s2 ry
        refine ⟨acc ++ [y], o4, o5, rfl, fun c o z => ?_, upd_same, ?_, ?_, by rw [List.length_append, hlen]; rfl⟩
        · rw [upd_ne (ne_of_none z hp)]
          exact s2 _ _ (sm _ _ z)
        · rw [hid_upd (H := H2) _ mp]
          exact im.trans (hid_same _ s2)
        · rw [List.take_add_one, hst, ex_append, List.map_append]
          exact ((ra.mono s2).updS _ mp).append (ry.updS _ mp)
      cases n with
      | zero => exact absurd vst id
      | succ n =>
      obtain ⟨a, xs0, rfl, ha, naS, _⟩ := stm_at rx
      obtain ⟨ao, xso, rfl, hao, _, _⟩ := stm_at ro'
      have e1 : exB old.k new (n + 1) [st] = [if st.k = old.k then new else .mk st.w st.k st.fs (st.bs.map (exB old.k new n))] := rfl
      refine g_name ?_
      dsimp only
      refine ⟨.ref a, rfl, a, _, _, .int st.k, rfl, rfl, SqT.of ha, at_of (j := 1) rfl rfl, .ref ao, rfl, ao, _, _, .int old.k, rfl, rfl, SqT.of hao, at_of (j := 1) rfl rfl, rfl, _, rfl, ite2 (fun e => ?_) (fun e => ?_)⟩
      · have ek : st.k = old.k := V.int.inj (of_decide_eq_true e)
        rw [if_pos ek] at e1
        refine ⟨.ref p, rfl, .inl ⟨rfl, _, SqL.of hacc⟩, nv, rfl, p, acc, nv, rfl, rfl, hacc, lt5 (by omega), ?_⟩
        refine fin nv H' _ _ (Same.refl _) ?_
        rw [e1]
        show RA H' (p :: S) [nv] [new.toD (n + 1)]
        rw [Stm.toD_leaf nbs]
        exact .one rn'
      have ek : ¬ st.k = old.k := fun z => e (decide_eq_true (congrArg V.int z))
      rw [if_neg ek] at e1
      refine if_r (b := decide (st.w ∈ ifwL)) (fun Q1 q1 => ?_) (fun hw H2 s2 => ?_) (fun hw H2 s2 => ?_)
      · exact ⟨.ref a, rfl, a, _, _, .str st.w, rfl, rfl, SqT.of ha, at_of (j := 0) rfl rfl, small5 (by simp), fun pl hpl => rin_f (L := ifwL) (SqL.of upd_same) ⟨_, rfl, q1 _ (nw hpl _)⟩⟩
      · have hw := of_decide_eq_true hw
        obtain ⟨a', xs, e, ha1, l6, l7, h0, rdrop, rtake, lfs, lb1, lb2, hform⟩ := ifw_at rx vst.1 hw
        cases e
        have ha2 := s2 _ _ ha1
        have hacc2 := s2 _ _ hacc
        refine ⟨.ref p, rfl, .inl ⟨rfl, _, SqL.of hacc2⟩, .ref a, rfl, 5, rfl, a, xs, rfl, SqT.of ha2, whole5' l6, fun p2 hp2 => ?_⟩
        have t2 := nw hp2 (.tup (cutV xs none (some 5)))
        refine ⟨.ref a, rfl, 5, rfl, a, xs, rfl, SqT.of (t2 _ _ ha2), whole5 l6, fun pc hpc => ⟨pc, rfl, ⟨_, SqT.of upd_same⟩, fun D1 nD => ?_⟩⟩
        have tc := nw hpc (.tup (cutV xs (some 5) none))
        have hpc1 : (upd (upd H2 p2 (.tup (cutV xs none (some 5)))) pc (.tup (cutV xs (some 5) none))) pc = some (.tup (xs.drop 5)) := by rw [cut5]; exact upd_same
        have s3 := s2.trans (t2.trans tc)
        refine lc_data (S := p :: S) (ds := st.bs.map fun c => .list ((exB old.k new n c).map (Stm.toD n))) (Src.tup (SqT.of hpc1)) nD (sb'.same s3) (by rw [List.length_map, rdrop.length, List.length_map]) (by rw [List.length_drop]; omega) (fun j y dd H4 hy hdd4 sm4 sb4 Q2 q2 => ?_) (fun H5 s5 r5 => ?_) (fun _ _ _ _ h p => h _ _ p)
        · obtain ⟨d6, hd6, ry⟩ := rdrop.getV hy
          obtain ⟨c, hc, rfl⟩ := map_get hd6
          obtain ⟨c', hc', rfl⟩ := map_get hdd4
          rw [hc] at hc'
          cases hc'
          have mc := List.mem_of_getElem? hc
          have fewc : (fl n c).length ≤ 63 := by
            obtain ⟨l1, l2, eb⟩ := List.append_of_mem mst
            obtain ⟨m1, m2, ec⟩ := List.append_of_mem mc
            have z := few
            rw [eb, fl_append, fl_cons, ec, List.flatMap_append, List.flatMap_cons] at z
            simp only [List.length_append, List.length_cons] at z
            omega
          refine ⟨rfl, y, rfl, .ref ao, rfl, nv, rfl, y, .ref ao, nv, c, l, old, new, D1 :: p :: S, n, rfl, rfl, sb4, (ry.mono s3).hide nD sm4, (ro'.mono s3).hide nD sm4, (rn'.mono s3).hide nD sm4, nbs, nfo, vst.2 c mc, fewc, fun v' H6 s6 r6 => ?_⟩
          exact q2 v' H6 s6 r6
        obtain ⟨a5, xs5, e5, h5, _, ra5⟩ := r5.list
        cases e5
        refine ⟨D1, xs5, rfl, .inl ⟨SqL.of h5, fun l' hl => ?_⟩⟩
        have s6 := s5.trans (nw hl (.tup xs5))
        have hp26 := s6 _ _ (tc _ _ (upd_same (H := H2) (a := p2) (o := .tup (cutV xs none (some 5)))))
        have l5 := ra5.length
        rw [List.length_map] at l5
        refine ⟨p2, l', _, _, rfl, rfl, SqT.of hp26, SqT.of upd_same, fun z => ?_, small5 ?_, fun z => ?_, fun _ p3 hp3 => ⟨p, acc, .ref p3, rfl, rfl, (nw hp3 _) _ _ (s6 _ _ (tc _ _ (t2 _ _ hacc2))), lt5 (by omega), ?_⟩⟩
        · rw [cut5'] at z
          have := congrArg List.length z
          rw [List.length_take] at this
          have z2 : min 5 xs.length = 0 := this
          omega
        · have := cutV_length xs none (some 5)
          omega
        · rw [z] at l5
          have l5 : 0 = st.bs.length := l5
          omega
        have t3 := nw hp3 (.tup (cutV xs none (some 5) ++ xs5))
        have s7 := s3.trans s6
        have ra7 := (rtake.mono s7).append (ra5.mono (nw hl (.tup xs5)))
        rw [← cut5'] at ra7
        refine fin (.ref p3) _ _ _ (s7.trans t3) ?_
        rw [e1]
        refine .one ?_
        have r9 := R.newT (sb'.same s7) hp3 ra7
        show R _ _ _ (.tuple (.str st.w :: .int st.k :: (st.fs ++ (st.bs.map (exB old.k new n)).map fun b => .list (b.map (Stm.toD n)))))
        rw [List.map_map]
        exact r9
      · have hw : ¬ st.w ∈ ifwL := of_decide_eq_false hw
        refine ⟨.ref p, rfl, .inl ⟨rfl, _, SqL.of (s2 _ _ hacc)⟩, .ref a, rfl, p, acc, .ref a, rfl, rfl, s2 _ _ hacc, lt5 (by omega), ?_⟩
        refine fin (.ref a) H2 _ _ s2 ?_
        rw [e1, leaf_of vst.1 hw]
        refine .one ?_
        have r9 := rx.mono s2
        have e9 : st.toD (n + 1) = (Stm.mk st.w st.k st.fs []).toD (n + 1) := by
          show PyData.tuple _ = PyData.tuple _
          rw [leaf_of vst.1 hw]
          rfl
        rw [e9] at r9
        exact r9
    · rintro σ H' ⟨acc, o4, o5, rfl, sm, hacc, im, ra, hlen⟩
      rw [lb, List.take_length] at ra
      exact ⟨.ref p, rfl, q _ _ sm (.mkL hacc (sb.out hp) ra.tl)⟩
end
end K14
/-! ## K15C -/
namespace K14
open PySem PySem.Spec PyProof.Rows L2 KR TL
def kdK : List (Key × V) := [(.inr "take", .str "tool"), (.inr "give", .str "tool"), (.inr "put", .str "store"), (.inr "get", .str "store"), (.inr "draw", .str "row")]
def plcK : List (Key × V) := [(.inr "tool", .int 0), (.inr "store", .int 1), (.inr "row", .int 2), (.inr "hand", .int 3)]
theorem kd_at {w : Str} {i : Nat} (hk : kindS w = some i) (h3 : i ≠ 3) : valV (mergeK [] kdK) (.inr w) = some (.str (kNm i)) := by
  have i4 := kind_lt hk
  match i, i4, hk with
  | 0, _, hk =>
    have m := (k_is0 w).mpr hk
    simp only [List.mem_cons, List.not_mem_nil, or_false] at m
    rcases m with rfl | rfl <;> rfl
  | 1, _, hk =>
    have m := (k_is1 w).mpr hk
    simp only [List.mem_cons, List.not_mem_nil, or_false] at m
    rcases m with rfl | rfl <;> rfl
  | 2, _, hk =>
    have m := (k_is2 w).mpr hk
    subst m
    rfl
  | 3, _, _ => exact absurd rfl h3
theorem kd_get {w : Str} {i : Nat} (hk : kindS w = some i) : (valV (mergeK [] kdK) (.inr w)).getD (.str "hand") = .str (kNm i) := by
  by_cases h3 : i = 3
  · subst h3
    have m := (k_is3 w).mpr hk
    subst m
    rfl
  · rw [kd_at hk h3]
    rfl
theorem plc_at {i : Nat} (h : i < 4) : valV (mergeK [] plcK) (.inr (kNm i)) = some (.int (i : Nat)) := by
  match i, h with
  | 0, _ => rfl
  | 1, _ => rfl
  | 2, _ => rfl
  | 3, _ => rfl
def someT (D : Pg) (i : Nat) : List Str := [("nought" : Str), "zzzzzzzz"] ++ (List.range i).flatMap D.nm
theorem someT_len {D : Pg} (wf : D.Wf) : ∀ i, i ≤ 4 → (someT D i).length ≤ 2 + 8 * i
  | 0, _ => Nat.le_refl _
  | i + 1, h => by
    have ih := someT_len wf i (by omega)
    have l8 := Pg.nm_len wf (show i < 4 by omega)
    unfold someT at ih ⊢
    rw [List.range_succ, List.flatMap_append, List.flatMap_cons, List.flatMap_nil, List.append_nil, ← List.append_assoc, List.length_append]
    omega
theorem someT_succ (D : Pg) (i : Nat) : someT D (i + 1) = someT D i ++ D.nm i := by
  unfold someT
  rw [List.range_succ, List.flatMap_append, List.flatMap_cons, List.flatMap_nil, List.append_nil, List.append_assoc]
theorem someT_ok {D : Pg} (wf : D.Wf) {x : Str} (h : x ∈ someT D 4) : PyData.strOk x = true := by
  unfold someT at h
  rcases List.mem_append.mp h with m | m
  · exact (by decide +kernel : ∀ x ∈ [("nought" : Str), "zzzzzzzz"], PyData.strOk x = true) x m
  · obtain ⟨j, mj, m⟩ := List.mem_flatMap.mp m
    exact wf.str j (List.mem_range.mp mj) x m
theorem look_new {D : Pg} {s : Stm} {i : Nat} {x : Str} (hk : kindS s.w = some i) (hn : nameS s = x) (hx : x ∉ D.nm i) : lookF D s = [ftD (kNm i) s.k x] := by
  unfold lookF
  rw [hk]
  show (if nameS s ∈ D.nm i then _ else _) = _
  rw [hn, if_neg hx]
theorem look_num {D : Pg} {s : Stm} (hk : kindS s.w = some 3) (hn : nameS s ∈ D.nm 3) (hm : D.many (nameS s) ≠ (esS s).length) : lookF D s = [ftD "numbers" s.k (nameS s)] := by
  unfold lookF
  rw [hk]
  show (if nameS s ∈ D.nm 3 then (if 3 = 3 ∧ _ then _ else []) else _) = _
  rw [if_pos hn, if_pos ⟨rfl, hm⟩]
theorem form_start {s : Stm} (fo : Form s) (h : s.w = "start") : ∃ (k : Int) (nm : Str) (es : List PyData), s = .mk "start" k [.str nm, .list es] [] ∧ PyData.strOk nm = true ∧ (∀ e ∈ es, okd 4 e) ∧ es.length ≤ 3 := by
  cases fo with
  | start h1 h2 h3 => exact ⟨_, _, _, rfl, h1, h2, h3⟩
  | deed hw => exact absurd h ((by decide +kernel : ∀ x ∈ deedL, x ≠ ("start" : Str)) _ hw)
  | wait => exact absurd h (show ¬ ("wait" : Str) = "start" by decide +kernel)
  | draw => exact absurd h (show ¬ ("draw" : Str) = "start" by decide +kernel)
  | stop => exact absurd h (show ¬ ("stop" : Str) = "start" by decide +kernel)
  | iff => exact absurd h (show ¬ ("if" : Str) = "start" by decide +kernel)
  | whl => exact absurd h (show ¬ ("while" : Str) = "start" by decide +kernel)
theorem form_draw {s : Stm} (fo : Form s) (h : s.w = "draw") : ∃ (k : Int) (v r : Str), s = .mk "draw" k [.str v, .str r] [] ∧ PyData.strOk v = true := by
  cases fo with
  | draw h1 h2 => exact ⟨_, _, _, rfl, h1⟩
  | deed hw => exact absurd h ((by decide +kernel : ∀ x ∈ deedL, x ≠ ("draw" : Str)) _ hw)
  | wait => exact absurd h (show ¬ ("wait" : Str) = "draw" by decide +kernel)
  | start => exact absurd h (show ¬ ("start" : Str) = "draw" by decide +kernel)
  | stop => exact absurd h (show ¬ ("stop" : Str) = "draw" by decide +kernel)
  | iff => exact absurd h (show ¬ ("if" : Str) = "draw" by decide +kernel)
  | whl => exact absurd h (show ¬ ("while" : Str) = "draw" by decide +kernel)
theorem form_deed {s : Stm} (fo : Form s) {i : Nat} (h : kindS s.w = some i) (h2 : i ≠ 2) (h3 : i ≠ 3) : ∃ (w : Str) (k : Int) (nm : Str) (e : PyData), s = .mk w k [.str nm, e] [] ∧ w ∈ deedL ∧ okd 4 e := by
  cases fo with
  | deed hw h1 he => exact ⟨_, _, _, _, rfl, hw, he⟩
  | draw => exact absurd (Option.some.inj (show some 2 = some i from h)).symm h2
  | start => exact absurd (Option.some.inj (show some 3 = some i from h)).symm h3
  | wait => exact absurd (show (none : Option Nat) = some i from h) (fun z => nomatch z)
  | stop => exact absurd (show (none : Option Nat) = some i from h) (fun z => nomatch z)
  | iff => exact absurd (show (none : Option Nat) = some i from h) (fun z => nomatch z)
  | whl => exact absurd (show (none : Option Nat) = some i from h) (fun z => nomatch z)
section
variable {P : Program} {w : World} {K : PySem.W.Frag} {mg : Str → Option Value} {base : Heap}
def sp_spoilt : Sp := fun vs H Q _ => ∃ (v u : V) (m : Int) (n : Nat) (st : Stm) (i : Nat) (D : Pg) (S : List Addr), vs = [v, u, .int m] ∧ D.Wf ∧ Sb S H ∧ R H S u D.toD ∧ R H S v (st.toD (n + 1)) ∧ Form st ∧ kindS st.w = some i ∧ lookF D st = [] ∧
  (∀ j, j < 4 → ("nought" : Str) ∉ D.nm j ∨ ("zzzzzzzz" : Str) ∉ D.nm j) ∧
  ∀ p H' nv fv new ft, Same H H' → H' p = some (.lst [nv, fv]) → R H' S nv (Stm.toD 1 new) → R H' S fv ft → new.bs = [] → Form new → new.k = st.k → lookF D new = [ft] → Q (.ref p) H'
theorem ok_spoilt (d : Df K mg "_law_spoilt" s_spoilt pp_spoilt) (T : Tx mg) : Ok P w K mg base 1 "_law_spoilt" pp_spoilt sp_spoilt := by
  refine d.mk sc_spoilt (fun vs H Q E h => ?_) (fun f cdv A outer s H vs Q E hr h => ?_)
  · obtain ⟨v, u, m, n, st, i, D, S, rfl, _⟩ := h; rfl
  obtain ⟨v, u, m, n, st, i, D, S, rfl, wf, sb, ru, rv, fo, hk, hlk, h1f, q⟩ := h
  refine ⟨_, (pss_cons (ps_set (i := 3) sc_spoilt.nd rfl (by first | exact .inl rfl | exact .inr rfl) (pe_disp (pps_cons pe_str pe_str (pps_cons pe_str pe_str (pps_cons pe_str pe_str (pps_cons pe_str pe_str (pps_cons pe_str pe_str pps_nil))))) (by rfl) (by rfl) (fun z => by cases z) (by decide)))
      (pss_cons (ps_set (i := 4) sc_spoilt.nd rfl (by first | exact .inl rfl | exact .inr rfl) (pe_dget (hu_of hr) (pe_disp (pps_cons pe_str pe_int (pps_cons pe_str pe_int (pps_cons pe_str pe_int (pps_cons pe_str pe_int pps_nil)))) (by rfl) (by rfl) (fun z => by cases z) (by decide)) (pe_dget2 (hu_of hr) (pv 3) (pe_ix (ix_tupK K rfl) (pv 0) pe_int (fun _ _ => rfl)) pe_str ⟨by rfl, by rfl, by rfl, by rfl⟩) (fun _ _ => rfl)))
      (pss_cons (ps_set (i := 5) sc_spoilt.nd rfl (by first | exact .inl rfl | exact .inr rfl) (pe_lc (own := [("one", 10)]) (g := gName 10) (tt := tYes) rfl sc_spoilt.nd (pi_listK K rfl (pe_ix (ix_tupK K rfl) (pv 1) (pv 4) (fun _ _ => rfl))) (blkOk_by (own := [("one", 10)]) (N := N_spoilt) (sc := defScope s_spoilt) (by decide +kernel)) (fun _ _ _ _ _ => (pg_name (i := 10) sc_spoilt.nd rfl (by first | exact .inl rfl | exact .inr rfl))) (fun _ _ _ _ _ => pts_nil) (fun _ _ _ _ _ => (pe_ix (ix_tupK K rfl) (pv 10) pe_int (fun _ _ => rfl)))))
      (pss_cons (ps_set (i := 6) sc_spoilt.nd rfl (by first | exact .inl rfl | exact .inr rfl) (pe_lst (pa_cons pe_str (pa_cons pe_str pa_nil))))
      (pss_cons (ps_for PassesOwn.never rfl (pi_tupK K rfl (pv 1)) (pg_name (i := 7) sc_spoilt.nd rfl (by first | exact .inl rfl | exact .inr rfl)) (pss_one (ps_set (i := 6) sc_spoilt.nd rfl (by first | exact .inl rfl | exact .inr rfl) (pe_op op_cat (pv 6) (pe_lc (own := [("one", 10)]) (g := gName 10) (tt := tYes) rfl sc_spoilt.nd (pi_listK K rfl (pv 7)) (blkOk_by (own := [("one", 10)]) (N := N_spoilt) (sc := defScope s_spoilt) (by decide +kernel)) (fun _ _ _ _ _ => (pg_name (i := 10) sc_spoilt.nd rfl (by first | exact .inl rfl | exact .inr rfl))) (fun _ _ _ _ _ => pts_nil) (fun _ _ _ _ _ => (pe_ix (ix_tupK K rfl) (pv 10) pe_int (fun _ _ => rfl))))))))
      (pss_cons (ps_setLc (i := 6) (own := [("name", 8)]) (g := gName 8) rfl sc_spoilt.nd rfl rfl (sw_true rfl rfl rfl (by decide +kernel)) (pi_listK K rfl (pv 6)) (blkOk_by (own := [("name", 8)]) (N := N_spoilt) (sc := defScope s_spoilt) (by decide +kernel)) (fun _ _ _ _ _ => (pg_name (i := 8) sc_spoilt.nd rfl (by first | exact .inl rfl | exact .inr rfl))) (fun _ _ _ _ _ => (pts_one (pt_cmpR (op_notInK K rfl) (pv 8) (pv 5) (by rfl)))) (fun _ _ _ _ _ => (pv 8)))
      (pss_cons (ps_set (i := 8) sc_spoilt.nd rfl (by first | exact .inl rfl | exact .inr rfl) (pe_ix (ix_listK K rfl) (pv 6) (pe_op op_mod (pe_op op_fdiv (pv 2) pe_int) (pe_callB (call_lenK K rfl) (by rfl) T.len PySem.boot_len (pa_cons (pv 6) pa_nil))) (fun _ _ => rfl)))
      (pss_cons (ps_if (PW.pt (pw_and (pt_cmpR op_eq (pe_ix (ix_tupK K rfl) (pv 0) pe_int (fun _ _ => rfl)) pe_str (nomark _)) (pw_and1 (pt_cmpR op_eq (pe_op op_mod (pv 2) pe_int) pe_int (nomark _))))) (pss_cons (ps_set (i := 9) sc_spoilt.nd rfl (by first | exact .inl rfl | exact .inr rfl) (pe_slice (sl_listK K rfl) (pe_op op_cat (pe_ix (ix_tupK K rfl) (pv 0) pe_int (fun _ _ => rfl)) (pe_lst (pa_cons (pe_tup (pa_cons pe_str pa_nil)) pa_nil))) po_none (po_some pe_int)))
      (C8.pss_cut (ps_if (pt_cmpR op_eq (pe_callB (call_lenK K rfl) (by rfl) T.len PySem.boot_len (pa_cons (pv 9) pa_nil)) (pe_callB (call_lenK K rfl) (by rfl) T.len PySem.boot_len (pa_cons (pe_ix (ix_tupK K rfl) (pv 0) pe_int (fun _ _ => rfl)) pa_nil)) (nomark _)) (pss_one (ps_set (i := 9) sc_spoilt.nd rfl (by first | exact .inl rfl | exact .inr rfl) (pe_slice (sl_listK K rfl) (pv 9) po_none (po_some pe_int)))) pss_nil)
      (pss_one (ps_ret (pe_lst (pa_cons (pe_tup (pa_cons (pe_ix (ix_tupK K rfl) (pv 0) pe_int (fun _ _ => rfl)) (pa_cons (pe_ix (ix_tupK K rfl) (pv 0) pe_int (fun _ _ => rfl)) (pa_cons (pe_ix (ix_tupK K rfl) (pv 0) pe_int (fun _ _ => rfl)) (pa_cons (pv 9) pa_nil))))) (pa_cons (pe_tup (pa_cons pe_str (pa_cons (pe_ix (ix_tupK K rfl) (pv 0) pe_int (fun _ _ => rfl)) (pa_cons (pe_ix (ix_tupK K rfl) (pv 0) pe_int (fun _ _ => rfl)) pa_nil)))) pa_nil))))))) pss_nil)
      (pss_cons (ps_if (pt_cmpR op_eq (pe_ix (ix_tupK K rfl) (pv 0) pe_int (fun _ _ => rfl)) pe_str (nomark _)) (pss_one (ps_ret (pe_lst (pa_cons (pe_tup (pa_cons (pe_ix (ix_tupK K rfl) (pv 0) pe_int (fun _ _ => rfl)) (pa_cons (pe_ix (ix_tupK K rfl) (pv 0) pe_int (fun _ _ => rfl)) (pa_cons (pv 8) (pa_cons (pe_ix (ix_tupK K rfl) (pv 0) pe_int (fun _ _ => rfl)) pa_nil))))) (pa_cons (pe_tup (pa_cons pe_str (pa_cons (pe_ix (ix_tupK K rfl) (pv 0) pe_int (fun _ _ => rfl)) (pa_cons (pv 8) pa_nil)))) pa_nil))))) pss_nil)
      (pss_cons (ps_if (pt_cmpR op_eq (pe_ix (ix_tupK K rfl) (pv 0) pe_int (fun _ _ => rfl)) pe_str (nomark _)) (pss_one (ps_ret (pe_lst (pa_cons (pe_tup (pa_cons (pe_ix (ix_tupK K rfl) (pv 0) pe_int (fun _ _ => rfl)) (pa_cons (pe_ix (ix_tupK K rfl) (pv 0) pe_int (fun _ _ => rfl)) (pa_cons (pe_ix (ix_tupK K rfl) (pv 0) pe_int (fun _ _ => rfl)) (pa_cons (pv 8) pa_nil))))) (pa_cons (pe_tup (pa_cons pe_str (pa_cons (pe_ix (ix_tupK K rfl) (pv 0) pe_int (fun _ _ => rfl)) (pa_cons (pv 8) pa_nil)))) pa_nil))))) pss_nil)
      (pss_one (ps_ret (pe_lst (pa_cons (pe_tup (pa_cons (pe_ix (ix_tupK K rfl) (pv 0) pe_int (fun _ _ => rfl)) (pa_cons (pe_ix (ix_tupK K rfl) (pv 0) pe_int (fun _ _ => rfl)) (pa_cons (pv 8) (pa_cons (pe_ix (ix_tupK K rfl) (pv 0) pe_int (fun _ _ => rfl)) pa_nil))))) (pa_cons (pe_tup (pa_cons (pe_dget (hu_of hr) (pv 3) (pe_ix (ix_tupK K rfl) (pv 0) pe_int (fun _ _ => rfl)) (fun _ _ => rfl)) (pa_cons (pe_ix (ix_tupK K rfl) (pv 0) pe_int (fun _ _ => rfl)) (pa_cons (pv 8) pa_nil)))) pa_nil))))))))))))))), ?_⟩
  obtain ⟨pa, pxs, rfl, hpa, _, rpx⟩ := ru.tuple
  have lpx : pxs.length = 4 := rpx.length
  have i4 := kind_lt hk
  obtain ⟨a, xs, rfl, ha, x0, x1, hnm, hes⟩ := name_at rv fo
  have dsame : ∀ {H1 : Hp} {pd : Addr} {kk : List (Key × V)}, H1 pd = none → Same H1 (upd (upd H1 pd (.dK [])) pd (.dK kk)) := fun hpd c o z => by
    rw [upd_ne (ne_of_none z hpd), upd_ne (ne_of_none z hpd)]
    exact z
  refine fun pd hpd => ⟨upd_same, kdK, rfl, by decide, ?_⟩
  have s1 := dsame (kk := mergeK [] kdK) hpd
  have hd1 : (upd (upd H pd (.dK [])) pd (.dK (mergeK [] kdK))) pd = some (.dK (mergeK [] kdK)) := upd_same
  generalize upd (upd H pd (.dK [])) pd (.dK (mergeK [] kdK)) = H1 at s1 hd1
  refine fun pe hpe => ⟨upd_same, plcK, rfl, by decide, ?_⟩
  have s2 := dsame (kk := mergeK [] plcK) hpe
  have he2 : (upd (upd H1 pe (.dK [])) pe (.dK (mergeK [] plcK))) pe = some (.dK (mergeK [] plcK)) := upd_same
  generalize upd (upd H1 pe (.dK [])) pe (.dK (mergeK [] plcK)) = H2 at s2 he2
  have hd2 := s2 _ _ hd1
  have s12 := s1.trans s2
  refine ⟨.ref pd, rfl, pd, rfl, .inl ⟨_, .inl hd2⟩, .ref a, rfl, a, xs, _, .str st.w, rfl, rfl, SqT.of (s12 _ _ ha), at_of (j := 0) rfl x0, _, DGet.k (k := .inr st.w) hd2, ?_⟩
  rw [kd_get hk]
  refine ⟨pe, .int (i : Nat), rfl, (by have z := DGet.k (k := .inr (kNm i)) he2; rw [plc_at i4] at z; exact z), ?_⟩
  have items : ∀ {j : Nat} {y : V}, pxs[j]? = some y → j < 4 ∧ R H S y (.list (D.part j)) := fun {j y} h => by
    obtain ⟨d2, hd2, ry⟩ := rpx.getV h
    have hj : j < 4 := (List.getElem?_eq_some_iff.mp hd2).1
    have ed2 : d2 = .list (D.part j) := by
      match j, hj, hd2 with
      | 0, _, h => exact (Option.some.inj h).symm
      | 1, _, h => exact (Option.some.inj h).symm
      | 2, _, h => exact (Option.some.inj h).symm
      | 3, _, h => exact (Option.some.inj h).symm
    subst ed2
    exact ⟨hj, ry⟩
  obtain ⟨pi, hpi⟩ : ∃ y, pxs[i]? = some y := ⟨pxs[i], List.getElem?_eq_getElem (by omega)⟩
  obtain ⟨b, ys, rfl, hb, _, rb⟩ := (items hpi).2.list
  have l8 := wf.few i i4
  refine ⟨.ref pa, rfl, .int (i : Nat), rfl, pa, pxs, _, .ref b, rfl, rfl, SqT.of (s12 _ _ hpa), at_of rfl hpi, b, rfl, ⟨ys, SqL.of (s12 _ _ hb)⟩, fun D1 nD => ?_⟩
  refine lc_data (S := S) (ds := ((D.part i).map nmD).map PyData.str) (Src.list (SqL.of (s12 _ _ hb))) nD (sb.same s12) (by rw [List.length_map, List.length_map, rb.length]) (by rw [rb.length]; omega) (fun j x dd H3 hx hd sm sb3 Q2 q2 => ?_) (fun H3 s3 r3 => ?_) (fun _ _ _ _ h p => h _ _ p)
  · obtain ⟨c, y, zs, rfl, hc, rfl⟩ := first_at rb (wf.fd i i4) hx hd
    exact ⟨rfl, .ref c, rfl, c, _, _, .str y, rfl, rfl, SqT.of (sm _ _ (s12 _ _ hc)), at_of (j := 0) rfl rfl, q2 _ _ (Same.refl _) (.rstr _)⟩
  obtain ⟨ao, xs1, e1, hown, _, ra1⟩ := r3.list
  cases e1
  have ex := ra1.of_strs
  subst ex
  have s13 := s12.trans s3
  have hd3 := s3 _ _ hd2
  refine ⟨small5 (by simp), fun p0 hp0 => ?_⟩
  have sp := nw hp0 (.lst [V.str "nought", V.str "zzzzzzzz"])
  have s14 := s13.trans sp
  have hown4 := sp _ _ hown
  have hd4 := sp _ _ hd3
  have hp04 : (upd H3 p0 (.lst [V.str "nought", V.str "zzzzzzzz"])) p0 = some (.lst ((someT D 0).map V.str)) := upd_same
  generalize upd H3 p0 (.lst [V.str "nought", V.str "zzzzzzzz"]) = H4 at sp s14 hown4 hd4 hp04
  refine ⟨.ref pa, rfl, pa, rfl, ⟨_, SqT.of (s14 _ _ hpa)⟩, ?_⟩
  refine for_src (Hb := H4) (Src.tup (K := K) (SqT.of (s14 _ _ hpa))) (fun j σ H' => ∃ pt o7, σ = [some (.ref a), some (.ref pa), some (.int m), some (.ref pd), some (.int (i : Nat)), some (.ref D1), some (.ref pt), o7, none, none, none] ∧ Same H4 H' ∧ H' pt = some (.lst ((someT D j).map V.str)))
    ⟨p0, none, rfl, Same.refl _, hp04⟩ (fun j σ H' z => by obtain ⟨_, _, _, sm, _⟩ := z; exact sm) ?_ ?_
  · rintro j y σ H' hj hy ⟨pt, o7, rfl, sm, hpt⟩
    obtain ⟨hj4, ry⟩ := items hy
    obtain ⟨b2, ys2, rfl, hb2, _, rb2⟩ := ry.list
    have s5 := s14.trans sm
    have l82 := wf.few j hj4
    refine ⟨.ref pt, rfl, .ref b2, rfl, b2, rfl, ⟨ys2, SqL.of (s5 _ _ hb2)⟩, fun D2 nD2 => ?_⟩
    refine lc_data (S := S) (ds := ((D.part j).map nmD).map PyData.str) (Src.list (SqL.of (s5 _ _ hb2))) nD2 (sb.same s5) (by rw [List.length_map, List.length_map, rb2.length]) (by rw [rb2.length]; omega) (fun j2 x dd H5 hx hd sm5 sb5 Q2 q2 => ?_) (fun H5 s6 r6 => ?_) (fun _ _ _ _ h p => h _ _ p)
    · obtain ⟨c, y, zs, rfl, hc, rfl⟩ := first_at rb2 (wf.fd j hj4) hx hd
      exact ⟨rfl, .ref c, rfl, c, _, _, .str y, rfl, rfl, SqT.of (sm5 _ _ (s5 _ _ hc)), at_of (j := 0) rfl rfl, q2 _ _ (Same.refl _) (.rstr _)⟩
    obtain ⟨a6, xs6, e6, h6, _, ra6⟩ := r6.list
    cases e6
    have ex6 := ra6.of_strs
    subst ex6
    have lt := someT_len wf j (by omega)
    have lt2 := Pg.nm_len wf hj4
    refine ⟨pt, D2, _, _, rfl, rfl, s6 _ _ hpt, h6, small5 (by rw [List.length_map, List.length_map]; show _ + (D.nm j).length ≤ _; omega), fun p7 hp7 => ?_⟩
    refine ⟨p7, _, rfl, sm.trans (s6.trans (nw hp7 _)), upd_same.trans ?_⟩
    rw [someT_succ, List.map_append]
    rfl
  rintro σ H5 ⟨pt, o7, rfl, sm, hpt⟩
  rw [lpx] at hpt
  have s15 := s14.trans sm
  have hown5 := sm _ _ hown4
  have lt4 := someT_len wf 4 (by decide)
  refine ⟨.ref pt, rfl, pt, rfl, ⟨_, SqL.of hpt⟩, fun D3 nD3 => ?_⟩
  refine lc_gen (S := S) (os := (someT D 4).map fun o => if (!decide (o ∈ D.nm i)) = true then some (PyData.str o) else none) (Src.list (SqL.of hpt)) nD3 (sb.same s15) (by simp) (by rw [List.length_map]; omega) (fun j x o H6 hx ho sm6 sb6 Q2 N2 hq hn => ?_) (fun H6 s6 r6 => ?_)
  · obtain ⟨z, hz, rfl⟩ := map_get hx
    obtain ⟨z', hz', rfl⟩ := map_get ho
    rw [hz] at hz'
    cases hz'
    refine ⟨rfl, .str z, rfl, .ref D1, rfl, rin_t (L := D.nm i) (SqL.of (sm6 _ _ hown5)) ⟨_, rfl, ?_⟩⟩
    cases c : (!decide (z ∈ D.nm i)) with
    | true =>
      rw [c] at hq
      exact iteT ⟨.str z, rfl, hq _ _ _ rfl (Same.refl _) (.rstr _)⟩
    | false =>
      rw [c] at hn
      exact iteF (hn _ rfl (Same.refl _))
  obtain ⟨a6, xs6, e6, hx6, _, ra6⟩ := r6.list
  cases e6
  rw [fm_if] at ra6
  have ex6 := ra6.of_strs
  subst ex6
  have lpos : 0 < ((someT D 4).filter fun o => !decide (o ∈ D.nm i)).length := by
    refine List.length_pos_iff_exists_mem.mpr ?_
    rcases h1f i i4 with z | z
    · exact ⟨"nought", List.mem_filter.mpr ⟨by unfold someT; simp, by simpa using z⟩⟩
    · exact ⟨"zzzzzzzz", List.mem_filter.mpr ⟨by unfold someT; simp, by simpa using z⟩⟩
  have lpos' : 0 < (((((someT D 4).filter fun o => !decide (o ∈ D.nm i)).map V.str).length : Nat) : Int) := by rw [List.length_map]; omega
  obtain ⟨v0, hv0, hat⟩ := atI_mem (xs := ((someT D 4).filter fun o => !decide (o ∈ D.nm i)).map V.str) (i := m / 2 % (((((someT D 4).filter fun o => !decide (o ∈ D.nm i)).map V.str).length : Nat) : Int)) (Int.emod_nonneg _ (by omega)) (Int.emod_lt_of_pos _ lpos')
  obtain ⟨x, hx, rfl⟩ := List.mem_map.mp hv0
  obtain ⟨mx, nx⟩ := List.mem_filter.mp hx
  have nx : x ∉ D.nm i := by simpa using nx
  have xok := someT_ok wf mx
  refine ⟨.ref D3, rfl, .int m, rfl, _, _, rfl, rfl, ⟨by decide, by decide⟩, .ref D3, rfl, D3, _, rfl, .inl (SqL.of hx6), _, _, rfl, rfl, lpos', D3, _, _, .str x, rfl, rfl, SqL.of hx6, hat, ?_⟩
  have s16 := s15.trans s6
  have ha6 := s16 _ _ ha
  have sb6 := sb.same s16
  have hd6 := s6 _ _ (sm _ _ hd4)
  have rv6 := rv.mono s16
  have eS : (decide (V.str st.w = V.str "start")) = decide (st.w = "start") := decide_eq_decide.mpr ⟨fun z => V.str.inj z, fun z => congrArg V.str z⟩
  obtain ⟨a', xs', e', ha', _, ra'⟩ := stm_at rv
  cases e'
  rw [ha] at ha'
  cases ha'
  refine g_name ?_
  dsimp only
  refine s_seq ?_
  refine if_r (b := decide (st.w = "start") && decide (V.int (m % 2) = V.int 0)) (tst_and (fun Q1 q1 => ?_) fun hb H7 s7 Q1 q1 => ?_) (fun hb H7 s7 => ?_) (fun hb H7 s7 => ?_)
  · refine ⟨.ref a, rfl, a, _, _, .str st.w, rfl, rfl, SqT.of ha6, at_of (j := 0) rfl x0, rfl, _, rfl, ?_⟩
    rw [eS]
    exact q1 _ (Same.refl _)
  · exact ⟨.int m, rfl, _, _, rfl, rfl, (by show (0 : Int) < 2; decide), rfl, _, rfl, q1 _ (Same.refl _)⟩
  · obtain ⟨b1, b2⟩ := (Bool.and_eq_true _ _).mp hb
    have ew : st.w = "start" := of_decide_eq_true b1
    have hk3 := (k_is3 _).mp ew
    have e3 : i = 3 := Option.some.inj (hk.symm.trans hk3)
    subst e3
    obtain ⟨k', nm', es', rfl, ok', he', le3⟩ := form_start fo ew
    have s17 := s16.trans s7
    have ha7 := s17 _ _ ha
    obtain ⟨y1, ys1, rfl, r1, rr1⟩ := ra'.uncons
    obtain ⟨y2, ys2, rfl, r2, rr2⟩ := rr1.uncons
    have ey := r1.str_inv
    subst ey
    obtain ⟨pe', es, rfl, hpe', _, rae⟩ := r2.list
    have lae := rae.length
    have r71 := rae.mono s17
    have sb7 := sb.same s17
    have hin : nm' ∈ D.nm 3 ∧ D.many nm' = es'.length := by
      have z : (if nm' ∈ D.nm 3 then (if 3 = 3 ∧ D.many nm' ≠ es'.length then [ftD "numbers" k' nm'] else []) else [ftD (kNm 3) k' nm']) = [] := hlk
      by_cases c : nm' ∈ D.nm 3
      · rw [if_pos c] at z
        refine ⟨c, Decidable.byContradiction fun c2 => ?_⟩
        rw [if_pos ⟨rfl, c2⟩] at z
        cases z
      · rw [if_neg c] at z
        cases z
    refine ⟨.ref a, rfl, a, _, _, .ref pe', rfl, rfl, SqT.of ha7, at_of (j := 3) rfl rfl, small5 (by simp), fun q1 hq1 => ⟨small5 (by simp), fun q2 hq2 => ?_⟩⟩
    have t1 := nw hq1 (.tup [V.str "own"])
    have t2 := nw hq2 (.lst [V.ref q1])
    have ro := (R.newT (S := S) (ds := [.str "own"]) sb7 hq1 (.one (.rstr _))).mono t2
    have rall := ((r71.mono (t1.trans t2)).append (.one ro))
    refine ⟨pe', q2, _, _, rfl, rfl, (t1.trans t2) _ _ (s17 _ _ hpe'), upd_same, small5 (by show es.length + 1 ≤ 100000; omega), fun q3 hq3 => ?_⟩
    have t3 := nw hq3 (.lst (es ++ [V.ref q1]))
    refine ⟨3, rfl, q3, _, rfl, SqL.of upd_same, fun q4 hq4 => ?_⟩
    have t4 := nw hq4 (.lst (cutV (es ++ [V.ref q1]) none (some 3)))
    have nq4 : q4 ∉ S := (sb7.same (t1.trans (t2.trans t3))).out hq4
    have rc := (rall.mono (t3.trans t4)).cut (lo := none) (hi := some ((3 : Nat) : Int))
    rw [cutG_hi] at rc
    have t14 := t1.trans (t2.trans (t3.trans t4))
    have h4 : (upd (upd (upd (upd H7 q1 (.tup [V.str "own"])) q2 (.lst [V.ref q1])) q3 (.lst (es ++ [V.ref q1]))) q4 (.lst (cutV (es ++ [V.ref q1]) none (some 3)))) q4 = some (.lst (cutV (es ++ [V.ref q1]) none (some 3))) := upd_same
    generalize upd (upd (upd (upd H7 q1 (.tup [V.str "own"])) q2 (.lst [V.ref q1])) q3 (.lst (es ++ [V.ref q1]))) q4 (.lst (cutV (es ++ [V.ref q1]) none (some 3))) = H8 at rc t14 h4
    have s18 := s17.trans t14
    have okE : ∀ e ∈ es' ++ [PyData.tuple [.str "own"]], okd 4 e := fun e me => by
      rcases List.mem_append.mp me with z | z
      · exact he' e z
      · rw [List.mem_singleton.mp z]
        exact okd_tup (n := 3) fun d md => by rw [List.mem_singleton.mp md]; exact okd_str 3 (by decide +kernel)
    have lE : ((es' ++ [PyData.tuple [.str "own"]]).take 3).length = min 3 (es'.length + 1) := by rw [List.length_take, List.length_append]; rfl
    have lcv : (cutV (es ++ [V.ref q1]) none (some 3)).length = min 3 (es'.length + 1) := by rw [← lE]; exact rc.length
    refine ⟨fun σ' H' => ∃ pz E, σ' = [some (.ref a), some (.ref pa), some (.int m), some (.ref pd), some (.int ((3 : Nat) : Int)), some (.ref D1), some (.ref D3), o7, some (.str x), some (.ref pz), none] ∧ Same H H' ∧ R H' S (.ref pz) (.list E) ∧ E.length ≠ es'.length ∧ E.length ≤ 3 ∧ ∀ e ∈ E, okd 4 e, ?_, ?_⟩
    · refine if_r (b := decide (V.int ((cutV (es ++ [V.ref q1]) none (some 3)).length : Nat) = V.int (es.length : Nat))) (fun Q1 q1 => ?_) (fun hb3 H9 s9 => ?_) (fun hb3 H9 s9 => ?_)
      · exact ⟨.ref q4, rfl, q4, _, rfl, .inl (SqL.of h4), .ref a, rfl, a, _, _, .ref pe', rfl, rfl, SqT.of (t14 _ _ ha7), at_of (j := 3) rfl rfl, pe', es, rfl, .inl (SqL.of (t14 _ _ (s17 _ _ hpe'))), rfl, _, rfl, q1 _ (Same.refl _)⟩
      · have e0 := V.int.inj (of_decide_eq_true hb3)
        have e5 : es'.length = 3 := by omega
        refine ⟨.ref q4, rfl, 2, rfl, q4, _, rfl, SqL.of (s9 _ _ h4), fun q5 hq5 => ?_⟩
        have t5 := nw hq5 (.lst (cutV (cutV (es ++ [V.ref q1]) none (some 3)) none (some 2)))
        have rc2 := (rc.mono (s9.trans t5)).cut (lo := none) (hi := some ((2 : Nat) : Int))
        rw [cutG_hi] at rc2
        refine ⟨q5, _, rfl, s18.trans (s9.trans t5), .mkL upd_same ((sb.same (s18.trans s9)).out hq5) rc2, ?_, ?_, fun e me => okE e (List.mem_of_mem_take (List.mem_of_mem_take me))⟩
        · rw [List.length_take, lE]; omega
        · rw [List.length_take, lE]; omega
      · have e0 : (cutV (es ++ [V.ref q1]) none (some 3)).length ≠ es.length := fun z => by
          rw [z] at hb3
          simp at hb3
        refine ⟨q4, _, rfl, s18.trans s9, .mkL (s9 _ _ h4) nq4 (rc.mono s9), by rw [lE]; omega, by rw [lE]; omega, fun e me => okE e (List.mem_of_mem_take me)⟩
    · rintro σ' H9 ⟨pz, E, rfl, s19, rz, nE, lE3, okE'⟩
      have ha9 := s19 _ _ ha
      refine ⟨.ref a, rfl, a, _, _, .str "start", rfl, rfl, SqT.of ha9, at_of (j := 0) rfl rfl, .ref a, rfl, a, _, _, .int k', rfl, rfl, SqT.of ha9, at_of (j := 1) rfl rfl, .ref a, rfl, a, _, _, .str nm', rfl, rfl, SqT.of ha9, at_of (j := 2) rfl rfl, .ref pz, rfl, small5 (by simp), fun p1 hp1 => ?_⟩
      have u1 := nw hp1 (.tup [V.str "start", V.int k', V.str nm', V.ref pz])
      have ha10 := u1 _ _ ha9
      refine ⟨.ref a, rfl, a, _, _, .int k', rfl, rfl, SqT.of ha10, at_of (j := 1) rfl rfl, .ref a, rfl, a, _, _, .str nm', rfl, rfl, SqT.of ha10, at_of (j := 2) rfl rfl, small5 (by simp), fun p2 hp2 => ⟨small5 (by simp), fun p3 hp3 => ?_⟩⟩
      have u2 := nw hp2 (.tup [V.str "numbers", V.int k', V.str nm'])
      have u3 := nw hp3 (.lst [V.ref p1, V.ref p2])
      have sb9 := sb.same s19
      refine q p3 _ (.ref p1) (.ref p2) (.mk "start" k' [.str nm', .list E] []) (ftD "numbers" k' nm') (s19.trans (u1.trans (u2.trans u3))) upd_same ((R.newT sb9 hp1 (.cons (.rstr _) (.cons (.rint _) (.cons (.rstr _) (.one rz))))).mono (u2.trans u3)) ((R.newT (sb9.same u1) hp2 (.cons (.rstr _) (.cons (.rint _) (.one (.rstr _))))).mono u3) rfl (.start ok' okE' lE3) rfl ?_
      exact look_num (s := .mk "start" k' [.str nm', .list E] []) rfl hin.1 fun z => nE (by rw [← hin.2]; exact z.symm)
  · have s17 := s16.trans s7
    have ha7 := s17 _ _ ha
    have sb7 := sb.same s17
    have hd7 := s7 _ _ hd6
    have ra7 := ra'.mono s17
    refine ⟨.ref a, rfl, a, _, _, .str st.w, rfl, rfl, SqT.of ha7, at_of (j := 0) rfl x0, rfl, _, rfl, ite2 (fun e => ?_) (fun e => ?_)⟩
    · have ew : st.w = "start" := V.str.inj (of_decide_eq_true e)
      have hk3 := (k_is3 _).mp ew
      have e3 : i = 3 := Option.some.inj (hk.symm.trans hk3)
      subst e3
      obtain ⟨k', nm', es', rfl, ok', he', le3⟩ := form_start fo ew
      obtain ⟨y1, ys1, rfl, r1, rr1⟩ := ra7.uncons
      obtain ⟨y2, ys2, rfl, r2, rr2⟩ := rr1.uncons
      refine ⟨.ref a, rfl, a, _, _, .str "start", rfl, rfl, SqT.of ha7, at_of (j := 0) rfl rfl, .ref a, rfl, a, _, _, .int k', rfl, rfl, SqT.of ha7, at_of (j := 1) rfl rfl, .str x, rfl, .ref a, rfl, a, _, _, y2, rfl, rfl, SqT.of ha7, at_of (j := 3) rfl rfl, small5 (by simp), fun p1 hp1 => ?_⟩
      have u1 := nw hp1 (.tup [V.str "start", V.int k', V.str x, y2])
      refine ⟨.ref a, rfl, a, _, _, .int k', rfl, rfl, SqT.of (u1 _ _ ha7), at_of (j := 1) rfl rfl, .str x, rfl, small5 (by simp), fun p2 hp2 => ⟨small5 (by simp), fun p3 hp3 => ?_⟩⟩
      have u2 := nw hp2 (.tup [V.str "hand", V.int k', V.str x])
      have u3 := nw hp3 (.lst [V.ref p1, V.ref p2])
      refine q p3 _ (.ref p1) (.ref p2) (.mk "start" k' [.str x, .list es'] []) (ftD "hand" k' x) (s17.trans (u1.trans (u2.trans u3))) upd_same ((R.newT sb7 hp1 (.cons (.rstr _) (.cons (.rint _) (.cons (.rstr _) (.one r2))))).mono (u2.trans u3)) ((R.newT (sb7.same u1) hp2 (.cons (.rstr _) (.cons (.rint _) (.one (.rstr _))))).mono u3) rfl (.start xok he' le3) rfl ?_
      exact look_new (s := .mk "start" k' [.str x, .list es'] []) (i := 3) rfl rfl nx
    have nst : ¬ st.w = "start" := fun z => e (decide_eq_true (congrArg V.str z))
    have i3 : i ≠ 3 := fun z => nst ((k_is3 _).mpr (z ▸ hk))
    refine ⟨.ref a, rfl, a, _, _, .str st.w, rfl, rfl, SqT.of ha7, at_of (j := 0) rfl x0, rfl, _, rfl, ite2 (fun e => ?_) (fun e => ?_)⟩
    · have ew : st.w = "draw" := V.str.inj (of_decide_eq_true e)
      have hk2 := (k_is2 _).mp ew
      have e3 : i = 2 := Option.some.inj (hk.symm.trans hk2)
      subst e3
      obtain ⟨k', v', r', rfl, ok'⟩ := form_draw fo ew
      obtain ⟨y1, ys1, rfl, r1, rr1⟩ := ra7.uncons
      refine ⟨.ref a, rfl, a, _, _, .str "draw", rfl, rfl, SqT.of ha7, at_of (j := 0) rfl rfl, .ref a, rfl, a, _, _, .int k', rfl, rfl, SqT.of ha7, at_of (j := 1) rfl rfl, .ref a, rfl, a, _, _, y1, rfl, rfl, SqT.of ha7, at_of (j := 2) rfl rfl, .str x, rfl, small5 (by simp), fun p1 hp1 => ?_⟩
      have u1 := nw hp1 (.tup [V.str "draw", V.int k', y1, V.str x])
      refine ⟨.ref a, rfl, a, _, _, .int k', rfl, rfl, SqT.of (u1 _ _ ha7), at_of (j := 1) rfl rfl, .str x, rfl, small5 (by simp), fun p2 hp2 => ⟨small5 (by simp), fun p3 hp3 => ?_⟩⟩
      have u2 := nw hp2 (.tup [V.str "row", V.int k', V.str x])
      have u3 := nw hp3 (.lst [V.ref p1, V.ref p2])
      refine q p3 _ (.ref p1) (.ref p2) (.mk "draw" k' [.str v', .str x] []) (ftD "row" k' x) (s17.trans (u1.trans (u2.trans u3))) upd_same ((R.newT sb7 hp1 (.cons (.rstr _) (.cons (.rint _) (.cons r1 (.one (.rstr _)))))).mono (u2.trans u3)) ((R.newT (sb7.same u1) hp2 (.cons (.rstr _) (.cons (.rint _) (.one (.rstr _))))).mono u3) rfl (.draw ok' xok) rfl ?_
      exact look_new (s := .mk "draw" k' [.str v', .str x] []) (i := 2) rfl rfl nx
    have ndr : ¬ st.w = "draw" := fun z => e (decide_eq_true (congrArg V.str z))
    have i2 : i ≠ 2 := fun z => ndr ((k_is2 _).mpr (z ▸ hk))
    obtain ⟨w', k', nm', ex', rfl, hw', he'⟩ := form_deed fo hk i2 i3
    obtain ⟨y1, ys1, rfl, r1, rr1⟩ := ra7.uncons
    obtain ⟨y2, ys2, rfl, r2, rr2⟩ := rr1.uncons
    refine ⟨.ref a, rfl, a, _, _, .str w', rfl, rfl, SqT.of ha7, at_of (j := 0) rfl rfl, .ref a, rfl, a, _, _, .int k', rfl, rfl, SqT.of ha7, at_of (j := 1) rfl rfl, .str x, rfl, .ref a, rfl, a, _, _, y2, rfl, rfl, SqT.of ha7, at_of (j := 3) rfl rfl, small5 (by simp), fun p1 hp1 => ?_⟩
    have u1 := nw hp1 (.tup [V.str w', V.int k', V.str x, y2])
    refine ⟨.ref pd, rfl, .ref a, rfl, a, _, _, .str w', rfl, rfl, SqT.of (u1 _ _ ha7), at_of (j := 0) rfl rfl, pd, .str (kNm i), rfl, (by have z := DGet.k (k := .inr w') (u1 _ _ hd7); rw [kd_at (w := w') hk i3] at z; exact z), ?_⟩
    refine ⟨.ref a, rfl, a, _, _, .int k', rfl, rfl, SqT.of (u1 _ _ ha7), at_of (j := 1) rfl rfl, .str x, rfl, small5 (by simp), fun p2 hp2 => ⟨small5 (by simp), fun p3 hp3 => ?_⟩⟩
    have u2 := nw hp2 (.tup [V.str (kNm i), V.int k', V.str x])
    have u3 := nw hp3 (.lst [V.ref p1, V.ref p2])
    refine q p3 _ (.ref p1) (.ref p2) (.mk w' k' [.str x, ex'] []) (ftD (kNm i) k' x) (s17.trans (u1.trans (u2.trans u3))) upd_same ((R.newT sb7 hp1 (.cons (.rstr _) (.cons (.rint _) (.cons (.rstr _) (.one r2))))).mono (u2.trans u3)) ((R.newT (sb7.same u1) hp2 (.cons (.rstr _) (.cons (.rint _) (.one (.rstr _))))).mono u3) rfl (.deed hw' xok he') rfl ?_
    exact look_new (s := .mk w' k' [.str x, ex'] []) hk (if_neg ndr) nx
end
end K14
/-! ## K15D -/
namespace K14
open PySem PySem.Spec PyProof.Rows L2 KR TL
theorem fl_sub {n : Nat} {b c : List Stm} {s : Stm} (ms : s ∈ b) (mc : c ∈ s.bs) : (fl n c).length ≤ (fl (n + 1) b).length := by
  obtain ⟨l1, l2, rfl⟩ := List.append_of_mem ms
  obtain ⟨m1, m2, e⟩ := List.append_of_mem mc
  rw [fl_append, fl_cons, e, List.flatMap_append, List.flatMap_cons]
  simp only [List.length_append, List.length_cons]
  omega
theorem form_fs {s : Stm} (fo : Form s) : (∀ d ∈ s.fs, okd 5 d) ∧ s.fs.length ≤ 3 ∧ s.bs.length ≤ 2 ∧ PyData.strOk s.w = true := by
  have two : ∀ {a b : PyData}, okd 5 a → okd 5 b → ∀ d ∈ [a, b], okd 5 d := fun ha hb d m => by
    rcases List.mem_cons.mp m with z | z
    · rw [z]; exact ha
    · rw [List.mem_singleton.mp z]; exact hb
  have cnd : ∀ {sg : Str}, sg ∈ condL → PyData.strOk sg = true := fun h => (by decide +kernel : ∀ x ∈ condL, PyData.strOk x = true) _ h
  cases fo with
  | deed hw hn he => exact ⟨two (okd_str _ hn) (he.mono (by decide)), (by show 2 ≤ 3; decide), (by show 0 ≤ 2; decide), deedL_ok _ hw⟩
  | wait he => exact ⟨fun d m => by rw [List.mem_singleton.mp m]; exact he.mono (by decide), (by show 1 ≤ 3; decide), (by show 0 ≤ 2; decide), (by decide +kernel : PyData.strOk "wait" = true)⟩
  | draw h1 h2 => exact ⟨two (okd_str _ h1) (okd_str _ h2), (by show 2 ≤ 3; decide), (by show 0 ≤ 2; decide), (by decide +kernel : PyData.strOk "draw" = true)⟩
  | start h1 h2 h3 => exact ⟨two (okd_str _ h1) (okd_list h2 (by omega)), (by show 2 ≤ 3; decide), (by show 0 ≤ 2; decide), (by decide +kernel : PyData.strOk "start" = true)⟩
  | stop => exact ⟨(fun d m => nomatch m), (by show 0 ≤ 3; decide), (by show 0 ≤ 2; decide), (by decide +kernel : PyData.strOk "stop" = true)⟩
  | iff h1 h2 h3 =>
    refine ⟨fun d m => ?_, (by show 3 ≤ 3; decide), (by show 2 ≤ 2; decide), (by decide +kernel : PyData.strOk "if" = true)⟩
    rcases List.mem_cons.mp m with z | z
    · rw [z]; exact okd_str _ (cnd h1)
    · exact two (h2.mono (by decide)) (h3.mono (by decide)) d z
  | whl h1 h2 h3 =>
    refine ⟨fun d m => ?_, (by show 3 ≤ 3; decide), (by show 1 ≤ 2; decide), (by decide +kernel : PyData.strOk "while" = true)⟩
    rcases List.mem_cons.mp m with z | z
    · rw [z]; exact okd_str _ (cnd h1)
    · exact two (h2.mono (by decide)) (h3.mono (by decide)) d z
theorem stm_okd : ∀ (n : Nat) (b : List Stm), (∀ s ∈ b, Val n s) → (fl n b).length ≤ 63 → ∀ s ∈ b, okd (5 + 2 * n) (s.toD n)
  | 0, b, h, _, s, m => absurd (h s m) id
  | n + 1, b, h, few, s, m => by
    have v := h s m
    obtain ⟨f1, f2, f3, f4⟩ := form_fs v.1
    have key : okd (5 + 2 * n + 1 + 1) (.tuple (.str s.w :: .int s.k :: (s.fs ++ s.bs.map fun c => .list (c.map (Stm.toD n))))) := by
      refine okd_tup (fun d md => ?_) (by simp only [List.length_cons, List.length_append, List.length_map]; omega)
      rcases List.mem_cons.mp md with z | z
      · rw [z]; exact okd_str _ f4
      rcases List.mem_cons.mp z with z | z
      · rw [z]; exact okd_int _ _
      rcases List.mem_append.mp z with z | z
      · exact (f1 d z).mono (by omega)
      obtain ⟨c, mc, rfl⟩ := List.mem_map.mp z
      have fs := fl_sub (n := n) m mc
      have vc := v.2 c mc
      have lc : c.length ≤ 63 := by
        cases n with
        | zero =>
          cases c with
          | nil => exact Nat.zero_le _
          | cons t _ => exact absurd (vc t (List.mem_cons_self ..)) id
        | succ n => exact Nat.le_trans (fl_len n c) (by omega)
      refine okd_list (fun d md => ?_) (by rw [List.length_map]; omega)
      obtain ⟨t, mt, rfl⟩ := List.mem_map.mp md
      exact stm_okd n c vc (by omega) t mt
    exact key
theorem all_fl (D : Pg) {c : Hd} (m : c ∈ D.hds) : (fl 6 c.b).length ≤ D.all.length := by
  obtain ⟨l1, l2, e⟩ := List.append_of_mem m
  have z : (fl 6 c.b).length = (flN 6 c.b).length := by rw [← flN_snd, List.length_map]
  show _ ≤ (List.flatMap _ _).length
  rw [e, List.flatMap_append, List.flatMap_cons, z]
  simp only [List.length_append]
  omega
theorem Pg.okd {D : Pg} (wf : D.Wf) (few : D.all.length ≤ 63) : okd 21 D.toD := by
  have g : ∀ i, i < 3 → K14.okd 20 (.list (D.g i)) := fun i hi => (okd_list (wf.gok i hi) (by
    have := wf.few i (by omega)
    match i, hi, this with
    | 0, _, h => exact Nat.le_trans h (by decide)
    | 1, _, h => exact Nat.le_trans h (by decide)
    | 2, _, h => exact Nat.le_trans h (by decide))).mono (by decide)
  have h3 : K14.okd 20 (.list (D.hds.map Hd.toD)) := by
    have l3 := wf.few 3 (by decide)
    refine okd_list (fun d m => ?_) (Nat.le_trans l3 (by decide))
    obtain ⟨c, mc, rfl⟩ := List.mem_map.mp m
    have ok := wf.ok c mc
    have hx : PyData.strOk c.x = true := wf.str 3 (by decide) c.x (by rw [Pg.nm3]; exact List.mem_map.mpr ⟨c, mc, rfl⟩)
    have fc := all_fl D mc
    refine okd_tup (n := 18) fun d md => ?_
    rcases List.mem_cons.mp md with z | z
    · rw [z]; exact okd_str _ hx
    rcases List.mem_cons.mp z with z | z
    · rw [z]
      have f3 := ok.few
      refine okd_list (n := 17) (fun d md => ?_) (by rw [List.length_map]; omega)
      obtain ⟨x, mx, rfl⟩ := List.mem_map.mp md
      exact okd_str _ (ok.str x mx)
    · rw [List.mem_singleton.mp z]
      have lb : c.b.length ≤ (fl 6 c.b).length := fl_len 5 c.b
      refine okd_list (n := 17) (fun d md => ?_) (by rw [List.length_map]; omega)
      obtain ⟨s, ms, rfl⟩ := List.mem_map.mp md
      exact stm_okd 6 c.b ok.val (by omega) s ms
  refine okd_tup (n := 20) fun d m => ?_
  rcases List.mem_cons.mp m with z | z
  · rw [z]; exact g 0 (by decide)
  rcases List.mem_cons.mp z with z | z
  · rw [z]; exact g 1 (by decide)
  rcases List.mem_cons.mp z with z | z
  · rw [z]; exact g 2 (by decide)
  · rw [List.mem_singleton.mp z]; exact h3
theorem name_ok {s : Stm} (fo : Form s) {i : Nat} (hk : kindS s.w = some i) : PyData.strOk (nameS s) = true := by
  cases fo with
  | deed hw hn he =>
    rename_i w' k' nm' e'
    have en : nameS (.mk w' k' [.str nm', e'] []) = nm' := if_neg ((by decide +kernel : ∀ x ∈ deedL, x ≠ ("draw" : Str)) _ hw)
    rw [en]; exact hn
  | draw h1 h2 => exact h2
  | start h1 h2 h3 => exact h1
  | wait => exact absurd (show (none : Option Nat) = some i from hk) (fun z => nomatch z)
  | stop => exact absurd (show (none : Option Nat) = some i from hk) (fun z => nomatch z)
  | iff => exact absurd (show (none : Option Nat) = some i from hk) (fun z => nomatch z)
  | whl => exact absurd (show (none : Option Nat) = some i from hk) (fun z => nomatch z)
theorem ft_okd {a : Str} {k : Int} {x : Str} (ha : PyData.strOk a = true) (hx : PyData.strOk x = true) : okd 1 (ftD a k x) := okd_tup (n := 0) fun d m => by
  rcases List.mem_cons.mp m with z | z
  · rw [z]; exact okd_str _ ha
  rcases List.mem_cons.mp z with z | z
  · rw [z]; exact okd_int _ _
  · rw [List.mem_singleton.mp z]; exact okd_str _ hx
theorem kNm_ok (i : Nat) : PyData.strOk (kNm i) = true := by
  match i with
  | 0 => decide +kernel
  | 1 => decide +kernel
  | 2 => decide +kernel
  | _ + 3 => exact (by decide +kernel : PyData.strOk ("hand" : Str) = true)
theorem look_okd {D : Pg} {s : Stm} (fo : Form s) : ∀ d ∈ lookF D s, okd 1 d := by
  intro d m
  unfold lookF at m
  split at m
  · exact nomatch m
  · rename_i i hk
    have ok := name_ok fo hk
    split at m
    · split at m
      · rw [List.mem_singleton.mp m]; exact ft_okd (by decide +kernel) ok
      · exact nomatch m
    · rw [List.mem_singleton.mp m]; exact ft_okd (kNm_ok i) ok
theorem all_form {D : Pg} (wf : D.Wf) : ∀ t ∈ D.all, Val (t.1 + 1) t.2 := fun t m => by
  obtain ⟨c, mc, m⟩ := List.mem_flatMap.mp m
  exact flN_val 6 c.b (wf.ok c mc).val t m
theorem faults_okd {D : Pg} (wf : D.Wf) (few : D.all.length ≤ 63) : okd 2 (.list D.faults) := by
  have l := lookL_le D D.all
  refine okd_list (fun d m => ?_) (by show (lookL D D.all).length ≤ _; omega)
  obtain ⟨t, mt, m⟩ := List.mem_flatMap.mp m
  exact look_okd (all_form wf t mt).1 d m
section
variable {P : Program} {w : World} {K : PySem.W.Frag} {mg : Str → Option Value} {base : Heap}
def sp_told : Sp := fun vs H Q _ => ∃ (u : V) (D : Pg) (S : List Addr), vs = [u] ∧ D.Wf ∧ Sb S H ∧ R H S u D.toD ∧ D.all.length ≤ 63 ∧
  ∀ v H', Same H H' → R H' S v (.list [.list D.faults, .bool D.faults.isEmpty]) → Q v H'
theorem ok_told (d : Df K mg "_law_told" s_told pp_told) (T : Tx mg) (g_copied : Ok P w K mg base 40 "_law_copied" pp_copied (sp_copied 40)) (g_faults : Ok P w K mg base 9 "faults" pp_faults sp_faults) (g_sound : Ok P w K mg base 10 "sound" pp_sound sp_sound) : Ok P w K mg base 41 "_law_told" pp_told sp_told := by
  refine d.mk sc_told (fun vs H Q E h => ?_) (fun f cdv A outer s H vs Q E hr h => ?_)
  · obtain ⟨u, D, S, rfl, _⟩ := h; rfl
  obtain ⟨u, D, S, rfl, wf, sb, ru, few, q⟩ := h
  refine ⟨_, (pss_cons (ps_set (i := 1) sc_told.nd rfl (by first | exact .inl rfl | exact .inr rfl) (pcall g_copied hr (by omega) rfl (pa_cons (pv 0) pa_nil)))
      (pss_cons (ps_set (i := 2) sc_told.nd rfl (by first | exact .inl rfl | exact .inr rfl) (pcall g_faults hr (by omega) rfl (pa_cons (pv 1) pa_nil)))
      (pss_cons (ps_set (i := 3) sc_told.nd rfl (by first | exact .inl rfl | exact .inr rfl) (pcall g_copied hr (by omega) rfl (pa_cons (pv 0) pa_nil)))
      (pss_cons (ps_set (i := 4) sc_told.nd rfl (by first | exact .inl rfl | exact .inr rfl) (pcall g_sound hr (by omega) rfl (pa_cons (pv 3) pa_nil)))
      (pss_cons (ps_if (PW.pt (pw_or (pt_cmpR (op_neDK K rfl hr.units) (pv 1) (pv 0) (nomark _)) (pw_or (pt_cmpR (op_neDK K rfl hr.units) (pv 3) (pv 0) (nomark _)) (pw_or1 (pt_not (pt_val (pe_callB (call_isiK2 K rfl) (by rfl) T.isinstance (by decide +kernel) (pa_cons (pv 4) (pa_cons (pe_bltn (v := .ty "bool") (by rfl) T.bool (by decide +kernel) rfl) pa_nil))))))))) (pss_one (ps_ret pe_non)) pss_nil)
      (pss_one (ps_ret (pe_lst (pa_cons (pv 2) (pa_cons (pv 4) pa_nil)))))))))), ?_⟩
  have ok := Pg.okd wf few
  have sh := ok.shaped (by decide)
  have er : PyData.eqv D.toD D.toD = true := PySem.SeqAt.eqv_refl _ ok.1
  refine ⟨u, rfl, u, D.toD, S, 39, rfl, rfl, sb, ru, ok.2.2.mono (by decide), fun v1 H1 s1 r1 => ?_⟩
  refine ⟨v1, rfl, v1, D, S, rfl, wf, sb.same s1, r1, few, fun p H2 ys s2 fp hp ra => ?_⟩
  have s12 := s1.trans s2
  refine ⟨u, rfl, u, D.toD, S, 39, rfl, rfl, sb.same s12, ru.mono s12, ok.2.2.mono (by decide), fun v3 H3 s3 r3 => ?_⟩
  have s13 := s12.trans s3
  refine ⟨v3, rfl, v3, D, S, rfl, wf, sb.same s13, r3, few, fun H4 s4 => ?_⟩
  have s14 := s13.trans s4
  refine g_name ?_
  dsimp only
  refine s_seq ?_
  refine if_r (b := (false || (false || false))) (tst_or (fun Q1 q1 => ?_) fun _ H5 s5 => tst_or (fun Q1 q1 => ?_) fun _ H6 s6 Q1 q1 => ?_) (fun h => nomatch h) (fun _ H7 s7 => ?_)
  · refine ⟨v1, rfl, u, rfl, D.toD, D.toD, (r1.mono (s2.trans (s3.trans s4))).dp, (ru.mono s14).dp, sh, sh, ?_⟩
    rw [er]
    exact ⟨_, rfl, q1 _ (Same.refl _)⟩
  · refine ⟨v3, rfl, u, rfl, D.toD, D.toD, (r3.mono (s4.trans s5)).dp, (ru.mono (s14.trans s5)).dp, sh, sh, ?_⟩
    rw [er]
    exact ⟨_, rfl, q1 _ (Same.refl _)⟩
  · exact ⟨_, rfl, .bl _, .ty "bool", .type "bool", .type "bool", true, rfl, .ty _, .base (.bl _), kit_ty (by decide), true, rfl, q1 _ (Same.refl _)⟩
  · have s27 := s3.trans (s4.trans s7)
    refine ⟨.ref p, rfl, .bl D.faults.isEmpty, rfl, small5 (by simp), fun p1 hp1 => ?_⟩
    have rp : R H7 S (.ref p) (.list D.faults) := .mkL (s27 _ _ hp) ((sb.same s1).out fp) (ra.mono s27)
    exact q (.ref p1) _ (s14.trans (s7.trans (nw hp1 _))) (R.newL (sb.same (s14.trans s7)) hp1 (.cons rp (.one (.rbl _))))
end
end K14
/-! ## K15E -/
namespace K14
open PySem PySem.Spec PyProof.Rows L2 KR TL
def keyN (p : Nat × Stm) : Int := p.2.k
def allK (hds : List Hd) : List Int := hds.flatMap fun c => ksB 6 c.b
theorem all_keys (hds : List Hd) : (allP hds).map keyN = allK hds := by
  unfold allP allK
  rw [List.map_flatMap]
  congr 1
  funext c
  unfold ksB
  rw [← flN_snd, List.map_map]
  rfl
/-! ### the program as it is made -/
structure Made (h : Int) (D : Pg) : Prop where
  goods : GoodsOk h D.g
  hands : HandsOk h D.hds
theorem namesF_str {h k : Int} {m : Nat} (hm : m ≤ 8) {x : Str} (hx : x ∈ namesF h k m) : PyData.strOk x = true := (namesF_small hm hx).2
theorem Made.nm {h : Int} {D : Pg} (M : Made h D) {i : Nat} (hi : i < 4) : ∃ k m, m ≤ 8 ∧ ∀ x ∈ D.nm i, x ∈ namesF h k m := by
  have g : ∀ j, j < 3 → ∀ x ∈ (D.g j).map nmD, x ∈ namesF h 400 5 := fun j hj x hx => by
    obtain ⟨t, mt, rfl⟩ := List.mem_map.mp hx
    obtain ⟨y, my, r, rfl, _⟩ := (M.goods j hj).2 t mt
    exact my
  match i, hi with
  | 0, _ => exact ⟨400, 5, by decide, g 0 (by decide)⟩
  | 1, _ => exact ⟨400, 5, by decide, g 1 (by decide)⟩
  | 2, _ => exact ⟨400, 5, by decide, g 2 (by decide)⟩
  | 3, _ =>
    refine ⟨hkF h, 8, by decide, fun x hx => ?_⟩
    rw [Pg.nm3, M.hands.nm] at hx
    exact List.mem_of_mem_take hx
theorem Made.wf {h : Int} {D : Pg} (M : Made h D) : D.Wf where
  fd := fun i hi d md => by
    have g : ∀ j, j < 3 → ∀ d ∈ D.g j, Fd d := fun j hj d md => by
      obtain ⟨y, _, r, e, _⟩ := (M.goods j hj).2 d md
      exact ⟨y, r, e⟩
    match i, hi, md with
    | 0, _, md => exact g 0 (by decide) d md
    | 1, _, md => exact g 1 (by decide) d md
    | 2, _, md => exact g 2 (by decide) d md
    | 3, _, md =>
      obtain ⟨c, _, rfl⟩ := List.mem_map.mp md
      exact ⟨_, _, rfl⟩
  few := fun i hi => by
    match i, hi with
    | 0, _ => exact Nat.le_trans (M.goods 0 (by decide)).1 (by decide)
    | 1, _ => exact Nat.le_trans (M.goods 1 (by decide)).1 (by decide)
    | 2, _ => exact Nat.le_trans (M.goods 2 (by decide)).1 (by decide)
    | 3, _ =>
      show (D.hds.map Hd.toD).length ≤ 8
      rw [List.length_map]
      exact M.hands.len
  ok := M.hands.ok
  str := fun i hi x hx => by
    obtain ⟨k, m, hm, hs⟩ := M.nm hi
    exact namesF_str hm (hs x hx)
  nd := by
    rw [M.hands.nm]
    exact (namesF_nd h (hkF h) 8 (by decide)).sublist (List.take_sublist ..)
  gok := fun i hi d md => by
    obtain ⟨y, my, r, rfl, lr, ok⟩ := (M.goods i hi).2 d md
    refine okd_tup (n := 3) (fun d md => ?_) (by rw [List.length_cons]; omega)
    rcases List.mem_cons.mp md with z | z
    · rw [z]; exact okd_str _ (namesF_str (by decide) my)
    · exact (ok d z).mono (by decide)
theorem Made.free {h : Int} {D : Pg} (M : Made h D) : ∀ j, j < 4 → ("nought" : Str) ∉ D.nm j ∨ ("zzzzzzzz" : Str) ∉ D.nm j := fun j hj => by
  obtain ⟨k, m, hm, hs⟩ := M.nm hj
  rcases one_free (h := h) (k := k) hm with z | z
  · exact .inl fun y => z (hs _ y)
  · exact .inr fun y => z (hs _ y)
theorem Made.bok {h : Int} {D : Pg} (M : Made h D) : ∀ c ∈ D.hds, Bok 6 c.b := fun c mc => by
  refine ⟨(M.hands.ok c mc).val, fun k mk => M.hands.pos k (List.mem_flatMap.mpr ⟨c, mc, mk⟩), ?_⟩
  obtain ⟨l1, l2, e⟩ := List.append_of_mem mc
  have f := M.hands.few
  rw [e, List.flatMap_append, List.flatMap_cons] at f
  simp only [List.length_append] at f
  have : (ksB 6 c.b).length = (fl 6 c.b).length := by unfold ksB; rw [List.length_map]
  omega
/-! ### the same but for the statements -/
structure Alike (D D' : Pg) : Prop where
  g : D'.g = D.g
  len : D'.hds.length = D.hds.length
  at_ : ∀ (i : Nat) (c c' : Hd), D.hds[i]? = some c → D'.hds[i]? = some c' → c'.x = c.x ∧ c'.ps = c.ps
theorem Alike.maps {D D' : Pg} (a : Alike D D') {β : Type} (f : Hd → β) (hf : ∀ c c' : Hd, c'.x = c.x → c'.ps = c.ps → f c' = f c) : D'.hds.map f = D.hds.map f := by
  have key : ∀ (l' l : List Hd), l'.length = l.length → (∀ (i : Nat) (c c' : Hd), l[i]? = some c → l'[i]? = some c' → c'.x = c.x ∧ c'.ps = c.ps) → l'.map f = l.map f := by
    intro l'
    induction l' with
    | nil =>
      intro l e _
      cases l with
      | nil => rfl
      | cons _ _ => cases e
    | cons c' r' ih =>
      intro l e h
      cases l with
      | nil => cases e
      | cons c r =>
        obtain ⟨h1, h2⟩ := h 0 c c' rfl rfl
        rw [List.map_cons, List.map_cons, hf c c' h1 h2, ih r (Nat.succ.inj e) fun i a b => h (i + 1) a b]
  exact key _ _ a.len a.at_
theorem Alike.nm {D D' : Pg} (a : Alike D D') (i : Nat) : D'.nm i = D.nm i := by
  have h3 : D'.nm 3 = D.nm 3 := by rw [Pg.nm3, Pg.nm3]; exact a.maps Hd.x fun _ _ e _ => e
  match i with
  | 0 => show (D'.g 0).map _ = (D.g 0).map _; rw [a.g]
  | 1 => show (D'.g 1).map _ = (D.g 1).map _; rw [a.g]
  | 2 => show (D'.g 2).map _ = (D.g 2).map _; rw [a.g]
  | 3 => exact h3
  | _ + 4 => exact h3
theorem many_form (hds : List Hd) (x : Str) : ((hds.filter fun c => decide (c.x = x)).map fun c => c.ps.length) = (((hds.map fun c : Hd => (c.x, c.ps.length)).filter fun p : Str × Nat => decide (p.1 = x)).map fun p : Str × Nat => p.2) := by
  induction hds with
  | nil => rfl
  | cons c r ih =>
    rw [List.map_cons, List.filter_cons, List.filter_cons]
    by_cases e : c.x = x
    · rw [if_pos (decide_eq_true e), if_pos (decide_eq_true e), List.map_cons, List.map_cons, ih]
    · rw [if_neg (by simpa using e), if_neg (by simpa using e), ih]
theorem Alike.many {D D' : Pg} (a : Alike D D') (x : Str) : D'.many x = D.many x := by
  unfold Pg.many Pg.manyL
  rw [many_form, many_form, a.maps (fun c : Hd => (c.x, c.ps.length)) fun _ _ e1 e2 => by rw [e1, e2]]
theorem Alike.look {D D' : Pg} (a : Alike D D') (s : Stm) : lookF D' s = lookF D s := by
  unfold lookF
  split
  · rfl
  · rw [a.nm, a.many]
theorem Alike.wf {D D' : Pg} (a : Alike D D') (wf : D.Wf) (hv : ∀ c' ∈ D'.hds, ∀ s ∈ c'.b, Val 6 s) : D'.Wf where
  fd := fun i hi d md => by
    match i, hi, md with
    | 0, _, md => exact wf.fd 0 (by decide) d (by have z : d ∈ D'.g 0 := md; rw [a.g] at z; exact z)
    | 1, _, md => exact wf.fd 1 (by decide) d (by have z : d ∈ D'.g 1 := md; rw [a.g] at z; exact z)
    | 2, _, md => exact wf.fd 2 (by decide) d (by have z : d ∈ D'.g 2 := md; rw [a.g] at z; exact z)
    | 3, _, md =>
      obtain ⟨c, _, rfl⟩ := List.mem_map.mp md
      exact ⟨_, _, rfl⟩
  few := fun i hi => by
    have e : (D'.nm i).length = (D.nm i).length := by rw [a.nm]
    unfold Pg.nm at e
    rw [List.length_map, List.length_map] at e
    rw [e]
    exact wf.few i hi
  ok := fun c' mc => by
    obtain ⟨i, hi⟩ := List.getElem?_of_mem mc
    have li := (List.getElem?_eq_some_iff.mp hi).1
    obtain ⟨c, hc⟩ : ∃ c, D.hds[i]? = some c := ⟨D.hds[i]'(by rw [← a.len]; exact li), List.getElem?_eq_getElem _⟩
    obtain ⟨_, e2⟩ := a.at_ i c c' hc hi
    have ok := wf.ok c (List.mem_of_getElem? hc)
    exact ⟨by rw [e2]; exact ok.few, by rw [e2]; exact ok.str, hv c' mc⟩
  str := fun i hi x hx => by
    rw [a.nm] at hx
    exact wf.str i hi x hx
  nd := by
    rw [a.maps Hd.x fun _ _ e _ => e]
    exact wf.nd
  gok := fun i hi d md => by
    rw [a.g] at md
    exact wf.gok i hi d md
/-! ### the program with names such as there are -/
theorem Nam.alike {D D' : Pg} (n : Nam D D') : Alike D D' := ⟨n.g, n.len, fun i c c' h h' => ⟨(n.at_ i c c' h h').1, (n.at_ i c c' h h').2.1⟩⟩
theorem Nam.pair {D D' : Pg} (n : Nam D D') {c' : Hd} (m : c' ∈ D'.hds) : ∃ c ∈ D.hds, (∀ s ∈ c'.b, Val 6 s) ∧ ksB 6 c'.b = ksB 6 c.b ∧ ∀ s ∈ fl 6 c'.b, Nmd D s := by
  obtain ⟨i, hi⟩ := List.getElem?_of_mem m
  have li := (List.getElem?_eq_some_iff.mp hi).1
  obtain ⟨c, hc⟩ : ∃ c, D.hds[i]? = some c := ⟨D.hds[i]'(by rw [← n.len]; exact li), List.getElem?_eq_getElem _⟩
  obtain ⟨_, _, h3, h4, h5⟩ := n.at_ i c c' hc hi
  exact ⟨c, List.mem_of_getElem? hc, h3, h4, h5⟩
theorem Nam.keys {D D' : Pg} (n : Nam D D') : allK D'.hds = allK D.hds := by
  have key : ∀ (l' l : List Hd), l'.length = l.length → (∀ (i : Nat) (c c' : Hd), l[i]? = some c → l'[i]? = some c' → ksB 6 c'.b = ksB 6 c.b) → allK l' = allK l := by
    intro l'
    induction l' with
    | nil =>
      intro l e _
      cases l with
      | nil => rfl
      | cons _ _ => cases e
    | cons c' r' ih =>
      intro l e h
      cases l with
      | nil => cases e
      | cons c r =>
        have ih' := ih r (Nat.succ.inj e) fun i a b => h (i + 1) a b
        unfold allK at ih' ⊢
        rw [List.flatMap_cons, List.flatMap_cons, h 0 c c' rfl rfl, ih']
  exact key _ _ n.len fun i c c' h h' => (n.at_ i c c' h h').2.2.2.1
theorem Nmd.look {D : Pg} {s : Stm} (h : Nmd D s) : ∀ d ∈ lookF D s, ∃ a k, d = ftD a k "none" := by
  intro d m
  unfold lookF at m
  split at m
  · exact nomatch m
  · rename_i i hk
    obtain ⟨h1, h2⟩ := h i hk
    split at m
    · rename_i hin
      split at m
      · rename_i h3
        exact absurd (h2 h3.1).symm h3.2
      · exact nomatch m
    · rename_i hin
      rcases h1 with h1 | ⟨_, h1⟩
      · exact absurd h1 hin
      · rw [List.mem_singleton.mp m, h1]
        exact ⟨_, _, rfl⟩
theorem Nam.faults {D D' : Pg} (n : Nam D D') : ∀ d ∈ D'.faults, ∃ a k, d = ftD a k "none" := fun d m => by
  obtain ⟨t, mt, m⟩ := List.mem_flatMap.mp m
  obtain ⟨c', mc', mt⟩ := List.mem_flatMap.mp mt
  obtain ⟨c, _, _, _, h⟩ := n.pair mc'
  rw [n.alike.look] at m
  refine (h t.2 ?_).look d m
  rw [← flN_snd]
  exact List.mem_map.mpr ⟨t, mt, rfl⟩
/-! ### one statement exchanged -/
theorem one_hit {α β : Type} {key : α → Int} {k0 : Int} {X : List β} : ∀ (l : List α), (l.map key).Nodup → ∀ t ∈ l, key t = k0 → (l.flatMap fun p => if key p = k0 then X else []) = X
  | [], _, t, m, _ => nomatch m
  | a :: r, nd, t, m, e => by
    have nd' := List.nodup_cons.mp (show (key a :: r.map key).Nodup from nd)
    rw [List.flatMap_cons]
    by_cases ea : key a = k0
    · rw [if_pos ea]
      have z : (r.flatMap fun p => if key p = k0 then X else []) = [] := by
        refine List.flatMap_eq_nil_iff.mpr fun p mp => ?_
        refine if_neg fun ep => nd'.1 ?_
        rw [ea, ← ep]
        exact List.mem_map.mpr ⟨p, mp, rfl⟩
      rw [z, List.append_nil]
    · rw [if_neg ea, List.nil_append]
      rcases List.mem_cons.mp m with z | z
      · exact absurd (z ▸ e) ea
      · exact one_hit r nd'.2 t z e
theorem flN_cons (n : Nat) (s : Stm) (b : List Stm) : flN (n + 1) (s :: b) = (n, s) :: (s.bs.flatMap (flN n) ++ flN (n + 1) b) := by
  show List.flatMap _ _ = _ :: (_ ++ List.flatMap _ _)
  rw [List.flatMap_cons]
  rfl
theorem ex_look {D : Pg} {k0 : Int} {new : Stm} (hb : new.bs = []) : ∀ (n : Nat) (b : List Stm), (∀ p ∈ flN n b, p.2.k = k0 → p.2.bs = []) →
    lookL D (flN n (exB k0 new n b)) = (flN n b).flatMap (fun p => if keyN p = k0 then lookF D new else lookF D p.2) ∧ (flN n (exB k0 new n b)).length = (flN n b).length
  | 0, _, _ => ⟨rfl, rfl⟩
  | n + 1, b, hl => by
    induction b with
    | nil => exact ⟨rfl, rfl⟩
    | cons s r ih =>
      have hr := ih fun p mp => hl p (by rw [flN_cons]; exact List.mem_cons_of_mem _ (List.mem_append_right _ mp))
      have e0 : exB k0 new (n + 1) (s :: r) = (if s.k = k0 then new else .mk s.w s.k s.fs (s.bs.map (exB k0 new n))) :: exB k0 new (n + 1) r := rfl
      rw [e0]
      by_cases c : s.k = k0
      · have hs : s.bs = [] := hl (n, s) (by rw [flN_cons]; exact List.mem_cons_self ..) c
        rw [if_pos c, flN_cons, flN_cons, hs, hb]
        constructor
        · show List.flatMap _ (_ :: ([] ++ _)) = List.flatMap _ (_ :: ([] ++ _))
          rw [List.nil_append, List.nil_append, List.flatMap_cons, List.flatMap_cons]
          rw [show (if keyN (n, s) = k0 then lookF D new else lookF D (n, s).2) = lookF D new from if_pos c]
          exact congrArg (lookF D new ++ ·) hr.1
        · show ([] ++ _ : List (Nat × Stm)).length + 1 = ([] ++ _ : List (Nat × Stm)).length + 1
          rw [List.nil_append, List.nil_append, hr.2]
      · rw [if_neg c, flN_cons, flN_cons]
        have hbs : ∀ cs : List (List Stm), (∀ c ∈ cs, ∀ p ∈ flN n c, p.2.k = k0 → p.2.bs = []) →
            lookL D ((cs.map (exB k0 new n)).flatMap (flN n)) = (cs.flatMap (flN n)).flatMap (fun p => if keyN p = k0 then lookF D new else lookF D p.2) ∧ ((cs.map (exB k0 new n)).flatMap (flN n)).length = (cs.flatMap (flN n)).length := by
          intro cs
          induction cs with
          | nil => exact fun _ => ⟨rfl, rfl⟩
          | cons a cs ih2 =>
            intro h
            have i1 := ex_look (D := D) hb n a (h a (List.mem_cons_self ..))
            have i2 := ih2 fun c mc => h c (List.mem_cons_of_mem _ mc)
            rw [List.map_cons, List.flatMap_cons, List.flatMap_cons]
            refine ⟨?_, by rw [List.length_append, List.length_append, i1.2, i2.2]⟩
            rw [lookL_append, i1.1, i2.1, List.flatMap_append]
        have hb2 := hbs s.bs fun c mc p mp => hl p (by rw [flN_cons]; exact List.mem_cons_of_mem _ (List.mem_append_left _ (List.mem_flatMap.mpr ⟨c, mc, mp⟩)))
        constructor
        · show List.flatMap _ (_ :: _) = _
          rw [List.flatMap_cons, List.flatMap_cons]
          rw [show (if keyN (n, s) = k0 then lookF D new else lookF D (n, s).2) = lookF D s from if_neg c]
          refine congrArg (lookF D s ++ ·) ?_
          rw [List.flatMap_append (f := fun p => if keyN p = k0 then lookF D new else lookF D p.2)]
          refine (lookL_append D _ _).trans ?_
          exact congr (congrArg HAppend.hAppend hb2.1) hr.1
        · rw [List.length_cons, List.length_cons, List.length_append, List.length_append, hr.2]
          exact congrArg (· + _ + 1) hb2.2
def exP (k0 : Int) (new : Stm) (D : Pg) : Pg := ⟨D.g, D.hds.map fun c => ⟨c.x, c.ps, exB k0 new 6 c.b⟩⟩
theorem exP_alike (k0 : Int) (new : Stm) (D : Pg) : Alike D (exP k0 new D) := by
  refine ⟨rfl, List.length_map .., fun i c c' h h' => ?_⟩
  have h' : (D.hds.map fun c : Hd => (⟨c.x, c.ps, exB k0 new 6 c.b⟩ : Hd))[i]? = some c' := h'
  rw [List.getElem?_map, h] at h'
  have z := Option.some.inj h'
  rw [← z]
  exact ⟨rfl, rfl⟩
theorem exP_wf {k0 : Int} {new : Stm} {D : Pg} (wf : D.Wf) (fo : Form new) (hb : new.bs = []) : (exP k0 new D).Wf := by
  refine (exP_alike k0 new D).wf wf fun c' mc' s ms => ?_
  obtain ⟨c, mc, rfl⟩ := List.mem_map.mp (show c' ∈ D.hds.map fun c => (⟨c.x, c.ps, exB k0 new 6 c.b⟩ : Hd) from mc')
  exact ex_val fo hb 6 c.b (wf.ok c mc).val s ms
theorem exP_look {D : Pg} {k0 : Int} {new : Stm} {t : Nat × Stm} {ft : PyData} (hb : new.bs = []) (nd : (D.all.map keyN).Nodup) (mt : t ∈ D.all) (et : t.2.k = k0) (lt : t.2.bs = []) (h0 : D.faults = []) (hn : lookF D new = [ft]) :
    (exP k0 new D).faults = [ft] ∧ (exP k0 new D).all.length = D.all.length := by
  have leaf : ∀ p ∈ D.all, p.2.k = k0 → p.2.bs = [] := fun p mp ep => by
    have e : p = t := by
      have key : ∀ (l : List (Nat × Stm)), (l.map keyN).Nodup → ∀ p ∈ l, ∀ t ∈ l, keyN p = keyN t → p = t := by
        intro l
        induction l with
        | nil => exact fun _ p m => nomatch m
        | cons a r ih =>
          intro nd p mp t mt e
          have nd' := List.nodup_cons.mp (show (keyN a :: r.map keyN).Nodup from nd)
          rcases List.mem_cons.mp mp with z | z
          · rcases List.mem_cons.mp mt with y | y
            · rw [z, y]
            · exact absurd (show keyN a ∈ r.map keyN from List.mem_map.mpr ⟨t, y, by rw [← e, z]⟩) nd'.1
          · rcases List.mem_cons.mp mt with y | y
            · exact absurd (show keyN a ∈ r.map keyN from List.mem_map.mpr ⟨p, z, by rw [e, y]⟩) nd'.1
            · exact ih nd'.2 p z t y e
      exact key D.all nd p mp t mt (by show p.2.k = t.2.k; rw [ep, et])
    rw [e]; exact lt
  have key : ∀ hds : List Hd, (∀ p ∈ allP hds, p.2.k = k0 → p.2.bs = []) → lookL D (allP (hds.map fun c => ⟨c.x, c.ps, exB k0 new 6 c.b⟩)) = (allP hds).flatMap (fun p => if keyN p = k0 then lookF D new else lookF D p.2) ∧ (allP (hds.map fun c => ⟨c.x, c.ps, exB k0 new 6 c.b⟩)).length = (allP hds).length := by
    intro hds
    induction hds with
    | nil => exact fun _ => ⟨rfl, rfl⟩
    | cons c r ih =>
      intro h
      have ec : allP (c :: r) = flN 6 c.b ++ allP r := by unfold allP; rw [List.flatMap_cons]
      have ec' : allP ((c :: r).map fun c => ⟨c.x, c.ps, exB k0 new 6 c.b⟩) = flN 6 (exB k0 new 6 c.b) ++ allP (r.map fun c => ⟨c.x, c.ps, exB k0 new 6 c.b⟩) := by unfold allP; rw [List.map_cons, List.flatMap_cons]
      have i1 := ex_look (D := D) hb 6 c.b fun p mp => h p (by rw [ec]; exact List.mem_append_left _ mp)
      have i2 := ih fun p mp => h p (by rw [ec]; exact List.mem_append_right _ mp)
      rw [ec, ec']
      refine ⟨?_, by rw [List.length_append, List.length_append, i1.2, i2.2]⟩
      rw [lookL_append, i1.1, i2.1, List.flatMap_append]
  obtain ⟨k1, k2⟩ := key D.hds leaf
  refine ⟨?_, k2⟩
  have e1 : (exP k0 new D).faults = lookL D (allP (D.hds.map fun c => ⟨c.x, c.ps, exB k0 new 6 c.b⟩)) := by
    show List.flatMap _ _ = List.flatMap _ _
    congr 1
    funext p
    exact (exP_alike k0 new D).look p.2
  rw [e1, k1]
  have h00 : ∀ p ∈ D.all, lookF D p.2 = [] := fun p mp => List.flatMap_eq_nil_iff.mp h0 p mp
  have e2 : (allP D.hds).flatMap (fun p => if keyN p = k0 then lookF D new else lookF D p.2) = (allP D.hds).flatMap (fun p => if keyN p = k0 then [ft] else []) := by
    refine flat_same rfl fun i a b ha hb => ?_
    rw [ha] at hb
    cases hb
    rw [hn, h00 a (List.mem_of_getElem? ha)]
  rw [e2]
  exact one_hit D.all nd t mt et
end K14
/-! ## K15F -/
namespace K14
open PySem PySem.Spec PyProof.Rows L2 KR TL
theorem fm_none {α β : Type} : ∀ l : List α, (l.map fun _ => (none : Option β)).filterMap id = []
  | [] => rfl
  | a :: r => by rw [List.map_cons, List.filterMap_cons]; exact fm_none r
theorem RA.empty {H : Hp} {S : List Addr} {vs : List V} {ds : List PyData} (r : RA H S vs ds) : vs.isEmpty = ds.isEmpty := by
  have := r.length
  cases vs with
  | nil => cases ds with
    | nil => rfl
    | cons _ _ => cases this
  | cons _ _ => cases ds with
    | nil => cases this
    | cons _ _ => rfl
def sixL : List Str := ["take", "give", "put", "get", "draw", "start"]
theorem six_kind {w : Str} (h : w ∈ sixL) : ∃ i, kindS w = some i := by
  have z : ∀ x ∈ sixL, (kindS x).isSome = true := by decide +kernel
  exact Option.isSome_iff_exists.mp (z w h)
theorem kind_leaf {s : Stm} (fo : Form s) {i : Nat} (h : kindS s.w = some i) : s.bs = [] := leaf_of fo fun z => by rw [ifw_kind z] at h; cases h
section
variable {P : Program} {w : World} {K : PySem.W.Frag} {mg : Str → Option Value} {base : Heap}
def sp_law (K : PySem.W.Frag) : Sp := fun vs H Q _ => ∃ (a : Addr) (ns : List Int), vs = [.ref a] ∧ SqL K H a (ns.map V.int) ∧ ns.length ≤ 63 ∧ ∀ H', Q (.bl true) H'
theorem law_fn {f : Addr} {fd : FuncData} (F : Fun K "law" "law" s_law f fd) (T : Tx mg) (g_cell : Ok P w K mg base 1 "_law_cell_at" pp_cell (sp_cell K)) (g_stir : Ok P w K mg base 1 "_law_stir" pp_stir sp_stir) (g_built : Ok P w K mg base 10 "_law_built" pp_built (sp_built K)) (g_named : Ok P w K mg base 10 "_law_named" pp_named sp_named)
    (g_due : Ok P w K mg base 2 "_law_due" pp_due sp_due) (g_told : Ok P w K mg base 41 "_law_told" pp_told sp_told) (g_order : Ok P w K mg base 1 "_law_in_order" pp_order sp_order) (g_spoilt : Ok P w K mg base 1 "_law_spoilt" pp_spoilt sp_spoilt) (g_exch : Ok P w K mg base 7 "_law_exchanged" pp_exch (sp_exch 7)) :
    FnOk P w K mg base CX0 42 f fd pp_law (sp_law K) := by
  refine F.ok sc_law (fun vs H Q E h => ?_) (fun cdv A outer s H vs Q E hr h => ?_)
  · obtain ⟨a, ns, rfl, _⟩ := h; rfl
  obtain ⟨a, ns, rfl, hl, hns, q⟩ := h
  refine ⟨_, (pss_cons (ps_set (i := 1) sc_law.nd rfl (by first | exact .inl rfl | exact .inr rfl) (pcall g_cell hr (by omega) rfl (pa_cons (pv 0) (pa_cons pe_int pa_nil))))
      (pss_cons (ps_set (i := 2) sc_law.nd rfl (by first | exact .inl rfl | exact .inr rfl) (pcall g_named hr (by omega) rfl (pa_cons (pe_ix (ix_listK K rfl) (pcall g_built hr (by omega) rfl (pa_cons (pv 0) (pa_cons (pv 1) pa_nil))) pe_int (fun _ _ => rfl)) (pa_cons (pv 1) (pa_cons pe_bl pa_nil)))))
      (pss_cons (ps_set (i := 3) sc_law.nd rfl (by first | exact .inl rfl | exact .inr rfl) (pcall g_due hr (by omega) rfl (pa_cons (pv 2) pa_nil)))
      (pss_cons (ps_if (PW.pt (pw_or (pt_cmpR (op_neDK K rfl hr.units) (pcall g_told hr (by omega) rfl (pa_cons (pv 2) pa_nil)) (pe_lst (pa_cons (pv 3) (pa_cons (pe_cmpR (op_eqNilK K rfl hr.units) (pv 3) (pe_lst pa_nil) (nomark _)) pa_nil))) (nomark _)) (pw_or1 (pt_cmpR (op_neNilK K rfl hr.units) (pe_lc (own := [("fault", 9)]) (g := gName 9) rfl sc_law.nd (pi_listK K rfl (pv 3)) (blkOk_by (own := [("fault", 9)]) (N := N_law) (sc := defScope s_law) (by decide +kernel)) (fun _ _ _ _ _ => (pg_name (i := 9) sc_law.nd rfl (by first | exact .inl rfl | exact .inr rfl))) (fun _ _ _ _ _ => (pts_one (pt_cmpR op_ne (pe_ix (ix_tupK K rfl) (pv 9) pe_int (fun _ _ => rfl)) pe_str (nomark _)))) (fun _ _ _ _ _ => (pv 9))) (pe_lst pa_nil) (nomark _))))) (pss_one (ps_ret pe_bl)) pss_nil)
      (pss_cons (ps_setLc (i := 4) (own := [("told", 10)]) (g := gName 10) rfl sc_law.nd rfl rfl (sw_true rfl rfl rfl (by decide +kernel)) (pi_listK K rfl (pcall g_order hr (by omega) rfl (pa_cons (pv 2) pa_nil))) (blkOk_by (own := [("told", 10)]) (N := N_law) (sc := defScope s_law) (by decide +kernel)) (fun _ _ _ _ _ => (pg_name (i := 10) sc_law.nd rfl (by first | exact .inl rfl | exact .inr rfl))) (fun _ _ _ _ _ => (pts_one (pt_cmpR (op_inK K rfl) (pe_ix (ix_tupK K rfl) (pv 10) pe_int (fun _ _ => rfl)) (pe_lst (pa_cons pe_str (pa_cons pe_str (pa_cons pe_str (pa_cons pe_str (pa_cons pe_str (pa_cons pe_str pa_nil))))))) (by rfl)))) (fun _ _ _ _ _ => (pv 10)))
      (pss_cons (ps_if (PW.pt (pw_or (pt_cmpR (op_neNilK K rfl hr.units) (pv 3) (pe_lst pa_nil) (nomark _)) (pw_or1 (pt_cmpR (op_eqNilK K rfl hr.units) (pv 4) (pe_lst pa_nil) (nomark _))))) (pss_one (ps_ret pe_bl)) pss_nil)
      (pss_cons (ps_set (i := 5) sc_law.nd rfl (by first | exact .inl rfl | exact .inr rfl) (pcall g_stir hr (by omega) rfl (pa_cons (pcall g_cell hr (by omega) rfl (pa_cons (pv 0) (pa_cons pe_int pa_nil))) (pa_cons pe_int pa_nil))))
      (pss_cons (ps_set (i := 6) sc_law.nd rfl (by first | exact .inl rfl | exact .inr rfl) (pe_ix (ix_listK K rfl) (pv 4) (pe_op op_mod (pv 5) (pe_callB (call_lenK K rfl) (by rfl) T.len PySem.boot_len (pa_cons (pv 4) pa_nil))) (fun _ _ => rfl)))
      (pss_cons (ps_asg (pcall g_spoilt hr (by omega) rfl (pa_cons (pv 6) (pa_cons (pv 2) (pa_cons (pe_op op_fdiv (pv 5) pe_int) pa_nil)))) (pg_unlK (n := 2) K rfl rfl (pgs_cons (pg_name (i := 8) sc_law.nd rfl (by first | exact .inl rfl | exact .inr rfl)) (pgs_cons (pg_name (i := 9) sc_law.nd rfl (by first | exact .inl rfl | exact .inr rfl)) pgs_nil))))
      (pss_cons (ps_setLc (i := 7) (own := [("name", 11), ("names", 12), ("body", 13)]) (tt := tYes) rfl sc_law.nd rfl rfl (sw_true rfl rfl rfl (by decide +kernel)) (pi_listK K rfl (pe_ix (ix_tupK K rfl) (pv 2) pe_int (fun _ _ => rfl))) (blkOk_by (own := [("name", 11), ("names", 12), ("body", 13)]) (N := N_law) (sc := defScope s_law) (by decide +kernel)) (fun _ _ _ _ _ => (pg_tupK (n := 3) K rfl rfl (pgs_cons (pg_name (i := 11) sc_law.nd rfl (by first | exact .inl rfl | exact .inr rfl)) (pgs_cons (pg_name (i := 12) sc_law.nd rfl (by first | exact .inl rfl | exact .inr rfl)) (pgs_cons (pg_name (i := 13) sc_law.nd rfl (by first | exact .inl rfl | exact .inr rfl)) pgs_nil))))) (fun _ _ _ _ _ => pts_nil) (fun _ _ _ _ _ => (pe_tup (pa_cons (pv 11) (pa_cons (pv 12) (pa_cons (pcall g_exch hr (by omega) rfl (pa_cons (pv 13) (pa_cons (pv 6) (pa_cons (pv 8) pa_nil)))) pa_nil))))))
      (pss_one (ps_ret (pe_cmpR (op_eqDK K rfl hr.units) (pcall g_told hr (by omega) rfl (pa_cons (pe_op (op_catTK K rfl) (pe_slice (sl_tupK K rfl) (pv 2) po_none (po_some pe_int)) (pe_tup (pa_cons (pv 7) pa_nil))) pa_nil)) (pe_lst (pa_cons (pe_lst (pa_cons (pv 9) pa_nil)) (pa_cons pe_bl pa_nil))) (nomark _)))))))))))))), ?_⟩
  refine ⟨.ref a, rfl, a, ns, 0, rfl, hl, by decide, fun h => ?_⟩
  refine ⟨.ref a, rfl, .int h, rfl, a, ns, h, rfl, hl, hns, fun p0 x0 u H1 gd hds s1 hp0 ru go ho => ?_⟩
  have M : Made h ⟨gd, hds⟩ := ⟨go, ho⟩
  have r0 : R H1 [] u (Pg.toD ⟨gd, hds⟩) := by
    show Rp (hid H1 []) _ _
    rw [hid_nil]
    exact ru
  refine ⟨p0, _, _, u, rfl, rfl, SqL.of hp0, at_of (j := 1) rfl rfl, .int h, rfl, u, h, ⟨gd, hds⟩, [], rfl, M.wf, Sb.nil _, r0, M.bok, fun v H2 D s2 rv nam => ?_⟩
  have al := nam.alike
  have wf : D.Wf := al.wf M.wf fun c' mc => by
    obtain ⟨_, _, hv, _⟩ := nam.pair mc
    exact hv
  have keys : D.all.map keyN = allK hds := (all_keys D.hds).trans nam.keys
  have few : D.all.length ≤ 63 := by
    have z := congrArg List.length keys
    rw [List.length_map] at z
    rw [z]
    exact ho.few
  have ndk : (D.all.map keyN).Nodup := by rw [keys]; exact ho.nd
  have free : ∀ j, j < 4 → ("nought" : Str) ∉ D.nm j ∨ ("zzzzzzzz" : Str) ∉ D.nm j := fun j hj => by
    rw [al.nm]
    exact M.free j hj
  have s12 := s1.trans s2
  refine ⟨v, rfl, v, D, [], rfl, wf, Sb.nil _, rv, few, fun pd H3 dys s3 fd hd rd => ?_⟩
  have s13 := s12.trans s3
  have rv3 := rv.mono s3
  have fok := faults_okd wf few
  refine g_name ?_
  dsimp only
  refine s_seq ?_
  refine if_r (b := (false || false)) (tst_or (fun Q1 q1 => ?_) fun _ H5 s5 Q1 q1 => ?_) (fun h => nomatch h) (fun _ H7 s7 => ?_)
  · refine ⟨v, rfl, v, D, [], rfl, wf, Sb.nil _, rv3, few, fun tv H4 s4 rt => ⟨.ref pd, rfl, .ref pd, rfl, Nat.zero_le _, fun pe hpe => ?_⟩⟩
    have te := nw hpe (.lst [])
    refine ⟨pd, pe, dys, rfl, rfl, SqL.of (te _ _ (s4 _ _ hd)), SqL.of upd_same, small5 (by simp), fun pl hpl => ?_⟩
    have ok : okd 3 (.list [.list D.faults, .bool D.faults.isEmpty]) := okd_list (n := 2) fun d m => by
      rcases List.mem_cons.mp m with z | z
      · rw [z]; exact fok
      · rw [List.mem_singleton.mp z]; exact okd_bool _ _
    have rd2 : R (upd H4 pe (.lst [])) [] (.ref pd) (.list D.faults) := .mkL (te _ _ (s4 _ _ hd)) (fun m => nomatch m) (rd.mono (s4.trans te))
    have rb : R (upd H4 pe (.lst [])) [] (.bl dys.isEmpty) (.bool D.faults.isEmpty) := by rw [rd.empty]; exact .rbl _
    refine ⟨_, _, (rt.mono (te.trans (nw hpl _))).dp, (R.newL (Sb.nil _) hpl (.cons rd2 (.one rb))).dp, ok.shaped (by decide), ok.shaped (by decide), ?_⟩
    rw [PySem.SeqAt.eqv_refl _ ok.1]
    exact ⟨_, rfl, q1 _ (s4.trans (te.trans (nw hpl _)))⟩
  · have ld := rd.length
    have lfa : D.faults.length ≤ D.all.length := lookL_le D D.all
    refine ⟨.ref pd, rfl, pd, rfl, ⟨dys, SqL.of (s5 _ _ hd)⟩, fun D1 nD => ?_⟩
    refine lc_gen (S := []) (os := D.faults.map fun _ => (none : Option PyData)) (Src.list (SqL.of (s5 _ _ hd))) nD (Sb.nil _) (by rw [List.length_map, ld]) (by omega) (fun i x o H6 hx ho' sm sb Q2 N2 hq hn => ?_) (fun H6 s6 r6 => ?_)
    · obtain ⟨d1, hd1, rx⟩ := rd.getV hx
      obtain ⟨d2, hd2, eo⟩ := map_get ho'
      obtain ⟨fa, fk, rfl⟩ := nam.faults d1 (List.mem_of_getElem? hd1)
      obtain ⟨b1, ys1, rfl, hb1, _, rb1⟩ := rx.tuple
      obtain ⟨y1, zs1, rfl, _, rb2⟩ := rb1.uncons
      obtain ⟨y2, zs2, rfl, _, rb3⟩ := rb2.uncons
      obtain ⟨y3, zs3, rfl, r3, rb4⟩ := rb3.uncons
      have e3 := r3.str_inv
      subst e3
      refine ⟨rfl, .ref b1, rfl, b1, _, _, .str "none", rfl, rfl, SqT.of (sm _ _ (s5 _ _ hb1)), at_of (j := 2) rfl rfl, rfl, _, rfl, iteF (hn _ eo (Same.refl _))⟩
    · rw [fm_none] at r6
      obtain ⟨a6, xs6, e6, h6, _, ra6⟩ := r6.list
      cases e6
      have ex := ra6.nil_inv
      subst ex
      refine ⟨Nat.zero_le _, fun pe hpe => ⟨D1, pe, [], rfl, rfl, SqL.of ((nw hpe _) _ _ h6), SqL.of upd_same, _, rfl, q1 _ (s6.trans (nw hpe _))⟩⟩
  refine t_next ?_
  dsimp only
  have s17 := s13.trans s7
  have rv7 := rv3.mono s7
  have hd7 := s7 _ _ hd
  refine ⟨v, rfl, v, D, [], rfl, wf, Sb.nil _, rv7, few, fun po H8 oys s8 ho8 no8 ro8 => ⟨po, rfl, ⟨_, SqL.of ho8⟩, fun D2 nD2 => ?_⟩⟩
  have lo8 := ro8.length
  rw [List.length_map] at lo8
  refine lc_gen (S := []) (os := D.all.map fun t => if decide (t.2.w ∈ sixL) = true then some (dN t) else none) (Src.list (SqL.of ho8)) nD2 (Sb.nil _) (by rw [List.length_map, lo8]) (by omega) (fun i x o H9 hx ho' sm sb Q2 N2 hq hn => ?_) (fun H9 s9 r9 => ?_)
  · obtain ⟨d1, hd1, rx⟩ := ro8.getV hx
    obtain ⟨t, ht, rfl⟩ := map_get hd1
    obtain ⟨t', ht', rfl⟩ := map_get ho'
    rw [ht] at ht'
    cases ht'
    obtain ⟨b1, ys1, rfl, hb1, _, _⟩ := stm_at (n := t.1) (s := t.2) rx
    refine ⟨rfl, .ref b1, rfl, b1, _, _, .str t.2.w, rfl, rfl, SqT.of (sm _ _ hb1), at_of (j := 0) rfl rfl, small5 (by simp), fun pl hpl => rin_f (L := sixL) (SqL.of upd_same) ⟨_, rfl, ?_⟩⟩
    cases c : decide (t.2.w ∈ sixL) with
    | true =>
      rw [c] at hq
      exact iteT ⟨.ref b1, rfl, hq _ _ (dN t) rfl (nw hpl _) ((rx.hide nD2 (sm.trans (nw hpl _))))⟩
    | false =>
      rw [c] at hn
      exact iteF (hn _ rfl (nw hpl _))
  rw [fm_if] at r9
  obtain ⟨a9, sys, e9, h9, _, ra9⟩ := r9.list
  cases e9
  have s19 := s17.trans (s8.trans s9)
  have hd9 := (s8.trans s9) _ _ hd7
  have rv9 := rv7.mono (s8.trans s9)
  refine g_name ?_
  dsimp only
  refine s_seq ?_
  refine if_r (b := (!dys.isEmpty || sys.isEmpty)) (tst_or (fun Q1 q1 => ?_) fun _ H5 s5 Q1 q1 => ?_) (fun _ H5 s5 => q _) (fun hb H10 s10 => ?_)
  · exact ⟨.ref pd, rfl, Nat.zero_le _, fun pe hpe => ⟨pd, pe, dys, rfl, rfl, SqL.of ((nw hpe _) _ _ hd9), SqL.of upd_same, _, rfl, q1 _ (nw hpe _)⟩⟩
  · exact ⟨.ref D2, rfl, Nat.zero_le _, fun pe hpe => ⟨D2, pe, sys, rfl, rfl, SqL.of ((nw hpe _) _ _ (s5 _ _ h9)), SqL.of upd_same, _, rfl, q1 _ (nw hpe _)⟩⟩
  refine t_next ?_
  dsimp only
  have hb2 : dys.isEmpty = true ∧ sys.isEmpty = false := by
    rw [Bool.or_eq_false_iff] at hb
    exact ⟨by simpa using hb.1, hb.2⟩
  have h0 : D.faults = [] := by
    have z := rd.empty
    rw [hb2.1] at z
    exact List.isEmpty_iff.mp z.symm
  have s1a := s19.trans s10
  have h10 := s10 _ _ h9
  have rv10 := rv9.mono s10
  have ra10 := ra9.mono s10
  have hla : SqL K H10 a (ns.map V.int) := s1a.seq hl
  have lpos : 0 < sys.length := by
    cases sys with
    | nil => cases hb2.2
    | cons _ _ => exact Nat.zero_lt_succ _
  have lpos' : 0 < ((sys.length : Nat) : Int) := by omega
  refine ⟨.ref a, rfl, a, ns, 1, rfl, hla, by decide, fun c1 => ⟨c1, 95, rfl, by decide, ?_⟩⟩
  generalize stirF c1 95 = m
  obtain ⟨ov, hov, hat⟩ := atI_mem (xs := sys) (i := m % ((sys.length : Nat) : Int)) (Int.emod_nonneg _ (by omega)) (Int.emod_lt_of_pos _ lpos')
  obtain ⟨j, hj⟩ := List.getElem?_of_mem hov
  obtain ⟨d1, hd1, rov⟩ := ra10.getV hj
  obtain ⟨t, ht, rfl⟩ := map_get hd1
  obtain ⟨mt, six⟩ := List.mem_filter.mp (List.mem_of_getElem? ht)
  obtain ⟨i, hk⟩ := six_kind (of_decide_eq_true six)
  have vt := all_form wf t mt
  have lk0 : lookF D t.2 = [] := List.flatMap_eq_nil_iff.mp h0 t mt
  refine ⟨.ref D2, rfl, .int m, rfl, .ref D2, rfl, D2, _, rfl, .inl (SqL.of h10), _, _, rfl, rfl, lpos', D2, _, _, ov, rfl, rfl, SqL.of h10, hat, ?_⟩
  refine ⟨ov, rfl, v, rfl, .int m, rfl, _, _, rfl, rfl, ⟨by decide, by decide⟩, ov, v, m / 63, t.1, t.2, i, D, [], rfl, wf, Sb.nil _, rv10, rov, vt.1, hk, lk0, free, fun ps H11 nv fv new ft s11 hps rn rf nb nf nk nl => ?_⟩
  refine ⟨ps, _, rfl, SqL.of hps, rfl, nv, _, rfl, fv, _, rfl, rfl, ?_⟩
  have rv11 := rv10.mono s11
  have rov11 := rov.mono s11
  obtain ⟨xf, xl⟩ := exP_look (k0 := t.2.k) nb ndk mt rfl (kind_leaf vt.1 hk) h0 nl
  have wf2 := exP_wf (k0 := t.2.k) wf nf nb
  have few2 : (exP t.2.k new D).all.length ≤ 63 := by rw [xl]; exact few
  obtain ⟨pa, pxs, pb, hvs, rfl, hpa, lpx, hpx, hpb, npb, rhs⟩ := part_at rv11 (show 3 < 4 by decide)
  have lh := wf.few 3 (by decide)
  have lhv := rhs.length
  have lhd : (D.part 3).length = D.hds.length := List.length_map ..
  show tSeq _ _ _ [some (.ref a), some (.int h), some (.ref pa), some (.ref pd), some (.ref D2), some (.int m), some ov, none, some nv, some fv, none, none, none, none] H11
  refine ⟨.ref pa, rfl, pa, _, _, .ref pb, rfl, rfl, SqT.of hpa, at_of (j := 3) rfl hpx, pb, rfl, ⟨_, SqL.of hpb⟩, fun D3 nD3 => ?_⟩
  refine lc_data (S := []) (ds := (exP t.2.k new D).hds.map Hd.toD) (Src.list (SqL.of hpb)) nD3 (Sb.nil _) (by rw [List.length_map, (exP_alike t.2.k new D).len]; omega) (by omega) (fun j y dd H12 hy hdd sm sb Q2 q2 => ?_) (fun H12 s12' r12 => ?_) (fun _ _ _ _ h p => by
    obtain ⟨a, xs, e1, h1, e2, y1, ys1, e3, y2, ys2, e4, y3, ys3, e5, e6, pp⟩ := p
    exact ⟨a, xs, e1, h1, e2, y1, ys1, e3, y2, ys2, e4, y3, ys3, e5, e6, h _ _ pp⟩)
  · obtain ⟨c, a', pn', pb', hc, rfl, ha', hn', rb', rn'⟩ := hand_at rhs hy
    obtain ⟨c', hc', rfl⟩ := map_get hdd
    have hc' : (D.hds.map fun c => (⟨c.x, c.ps, exB t.2.k new 6 c.b⟩ : Hd))[j]? = some c' := hc'
    rw [List.getElem?_map, hc] at hc'
    have ec := Option.some.inj hc'
    subst ec
    have mc := List.mem_of_getElem? hc
    have fc := all_fl D mc
    refine ⟨a', _, rfl, SqT.of (sm _ _ ha'), rfl, .str c.x, _, rfl, .ref pn', _, rfl, .ref pb', _, rfl, rfl, rfl, ?_⟩
    refine ⟨.str c.x, rfl, .ref pn', rfl, .ref pb', rfl, ov, rfl, nv, rfl, .ref pb', ov, nv, c.b, t.1, t.2, new, [D3], 6, rfl, rfl, sb, rb'.hide nD3 sm, rov11.hide nD3 sm, rn.hide nD3 sm, nb, nf, (wf.ok c mc).val, by omega, fun v' H13 s13' r13 => ⟨small5 (by simp), fun p hp => ?_⟩⟩
    exact q2 (.ref p) _ (s13'.trans (nw hp _)) (R.newT (sb.same s13') hp (.cons (.rstr _) (.cons ((rn'.hide nD3 sm).mono s13') (.one r13))))
  refine ⟨.ref pa, rfl, 3, rfl, pa, pxs, rfl, SqT.of (s12' _ _ hpa), fun z => ?_, fun p2 hp2 => ⟨.ref D3, rfl, small5 (by simp), fun p3 hp3 => ⟨p2, p3, _, _, rfl, rfl, SqT.of ((nw hp3 _) _ _ upd_same), SqT.of upd_same, fun z => ?_, small5 ?_, (fun z => nomatch z), fun _ p4 hp4 => ?_⟩⟩⟩
  · have z1 : HT.sIx pxs.length pxs.length (some ((3 : Nat) : Int)) = pxs.length := z.2
    rw [HT.sIx_nat] at z1
    omega
  · rw [cut3] at z
    have := congrArg List.length z
    rw [List.length_take] at this
    have z2 : min 3 pxs.length = 0 := this
    omega
  · have := cutV_length pxs none (some 3)
    show _ + 1 ≤ 100000
    omega
  have t2 := nw hp2 (.tup (cutV pxs none (some 3)))
  have t3 := nw hp3 (.tup [V.ref D3])
  have t4 := nw hp4 (.tup (cutV pxs none (some 3) ++ [V.ref D3]))
  obtain ⟨pa', pxs', e, hpa', _, rpx⟩ := rv11.tuple
  cases e
  rw [hpa] at hpa'
  cases hpa'
  have r2 := (rpx.take 3).mono (s12'.trans (t2.trans t3))
  rw [← cut3] at r2
  have rnew := R.newT (Sb.nil _) hp4 (r2.append (.one (r12.mono (t2.trans t3))))
  refine ⟨.ref p4, exP t.2.k new D, [], rfl, wf2, Sb.nil _, rnew, few2, fun tv H14 s14 rt => ?_⟩
  rw [xf] at rt
  refine ⟨fv, rfl, small5 (by simp), fun p5 hp5 => ⟨small5 (by simp), fun p6 hp6 => ?_⟩⟩
  have fok2 := faults_okd wf2 few2
  rw [xf] at fok2
  have ok : okd 3 (.list [.list [ft], .bool false]) := okd_list (n := 2) fun d m => by
    rcases List.mem_cons.mp m with z | z
    · rw [z]; exact fok2
    · rw [List.mem_singleton.mp z]; exact okd_bool _ _
  have sall := (s12'.trans (t2.trans (t3.trans t4))).trans s14
  have r5 := R.newL (Sb.nil _) hp5 (.one (rf.mono sall))
  have r6 := R.newL (Sb.nil _) hp6 (.cons r5 (.one (.rbl false)))
  refine ⟨_, _, (rt.mono ((nw hp5 _).trans (nw hp6 _))).dp, r6.dp, ok.shaped (by decide), ok.shaped (by decide), ?_⟩
  have er : PyData.eqv (.list [.list [ft], .bool false]) (.list [.list [ft], .bool false]) = true := PySem.SeqAt.eqv_refl _ ok.1
  have er2 : PyData.eqv (.list [.list [ft], .bool ([ft] : List PyData).isEmpty]) (.list [.list [ft], .bool false]) = true := er
  rw [er2]
  exact q _
end
end K14
/-! ## K15G -/
namespace K14
open PySem PySem.Spec PyProof.Rows L2 KR TL
theorem all_mk {l : PySem.W.OpenLaw} {w : World} {K : PySem.W.Frag} {h : Heap} {mg : Str → Option Value} {fa C f1 f2 f3 f4 f5 f6 f7 f8 f9 f10 f11 f12 f13 f14 f15 f16 f17 f18 f19 f20 f21 f22 f23 f24 f25 f26 f27 f28 f29 f30 f31 f32 f33 f34 f35 : Addr} (X : K.In h) (G : h.Ns mainGlobals mg) (hfa : mg "law" = some (.ref fa))
    {od1 an1 : Option Addr} {sl1 : Array (Option Value)} {oc1 kV1 dc1 pm1 cd1 ct1 : Value}
    {od2 an2 : Option Addr} {sl2 : Array (Option Value)} {oc2 kV2 dc2 pm2 cd2 ct2 : Value}
    {od3 an3 : Option Addr} {sl3 : Array (Option Value)} {oc3 kV3 dc3 pm3 cd3 ct3 : Value}
    {od4 an4 : Option Addr} {sl4 : Array (Option Value)} {oc4 kV4 dc4 pm4 cd4 ct4 : Value}
    {od5 an5 : Option Addr} {sl5 : Array (Option Value)} {oc5 kV5 dc5 pm5 cd5 ct5 : Value}
    {od6 an6 : Option Addr} {sl6 : Array (Option Value)} {oc6 kV6 dc6 pm6 cd6 ct6 : Value}
    {od7 an7 : Option Addr} {sl7 : Array (Option Value)} {oc7 kV7 dc7 pm7 cd7 ct7 : Value}
    {od8 an8 : Option Addr} {sl8 : Array (Option Value)} {oc8 kV8 dc8 pm8 cd8 ct8 : Value}
    {od9 an9 : Option Addr} {sl9 : Array (Option Value)} {oc9 kV9 dc9 pm9 cd9 ct9 : Value}
    {od10 an10 : Option Addr} {sl10 : Array (Option Value)} {oc10 kV10 dc10 pm10 cd10 ct10 : Value}
    {od11 an11 : Option Addr} {sl11 : Array (Option Value)} {oc11 kV11 dc11 pm11 cd11 ct11 : Value}
    {od12 an12 : Option Addr} {sl12 : Array (Option Value)} {oc12 kV12 dc12 pm12 cd12 ct12 : Value}
    {od13 an13 : Option Addr} {sl13 : Array (Option Value)} {oc13 kV13 dc13 pm13 cd13 ct13 : Value}
    {od14 an14 : Option Addr} {sl14 : Array (Option Value)} {oc14 kV14 dc14 pm14 cd14 ct14 : Value}
    {od15 an15 : Option Addr} {sl15 : Array (Option Value)} {oc15 kV15 dc15 pm15 cd15 ct15 : Value}
    {od16 an16 : Option Addr} {sl16 : Array (Option Value)} {oc16 kV16 dc16 pm16 cd16 ct16 : Value}
    {od17 an17 : Option Addr} {sl17 : Array (Option Value)} {oc17 kV17 dc17 pm17 cd17 ct17 : Value}
    {od18 an18 : Option Addr} {sl18 : Array (Option Value)} {oc18 kV18 dc18 pm18 cd18 ct18 : Value}
    {od19 an19 : Option Addr} {sl19 : Array (Option Value)} {oc19 kV19 dc19 pm19 cd19 ct19 : Value}
    {od20 an20 : Option Addr} {sl20 : Array (Option Value)} {oc20 kV20 dc20 pm20 cd20 ct20 : Value}
    {od21 an21 : Option Addr} {sl21 : Array (Option Value)} {oc21 kV21 dc21 pm21 cd21 ct21 : Value}
    {od22 an22 : Option Addr} {sl22 : Array (Option Value)} {oc22 kV22 dc22 pm22 cd22 ct22 : Value}
    {od23 an23 : Option Addr} {sl23 : Array (Option Value)} {oc23 kV23 dc23 pm23 cd23 ct23 : Value}
    {od24 an24 : Option Addr} {sl24 : Array (Option Value)} {oc24 kV24 dc24 pm24 cd24 ct24 : Value}
    {od25 an25 : Option Addr} {sl25 : Array (Option Value)} {oc25 kV25 dc25 pm25 cd25 ct25 : Value}
    {od26 an26 : Option Addr} {sl26 : Array (Option Value)} {oc26 kV26 dc26 pm26 cd26 ct26 : Value}
    {od27 an27 : Option Addr} {sl27 : Array (Option Value)} {oc27 kV27 dc27 pm27 cd27 ct27 : Value}
    {od28 an28 : Option Addr} {sl28 : Array (Option Value)} {oc28 kV28 dc28 pm28 cd28 ct28 : Value}
    {od29 an29 : Option Addr} {sl29 : Array (Option Value)} {oc29 kV29 dc29 pm29 cd29 ct29 : Value}
    {od30 an30 : Option Addr} {sl30 : Array (Option Value)} {oc30 kV30 dc30 pm30 cd30 ct30 : Value}
    {od31 an31 : Option Addr} {sl31 : Array (Option Value)} {oc31 kV31 dc31 pm31 cd31 ct31 : Value}
    {od32 an32 : Option Addr} {sl32 : Array (Option Value)} {oc32 kV32 dc32 pm32 cd32 ct32 : Value}
    {od33 an33 : Option Addr} {sl33 : Array (Option Value)} {oc33 kV33 dc33 pm33 cd33 ct33 : Value}
    {od34 an34 : Option Addr} {sl34 : Array (Option Value)} {oc34 kV34 dc34 pm34 cd34 ct34 : Value}
    {od35 an35 : Option Addr} {sl35 : Array (Option Value)} {oc35 kV35 dc35 pm35 cd35 ct35 : Value}
    (a1 : PySem.W.nsIn K mainGlobals "inner_bodies" = some (some (.ref f1))) (l1 : K.lookup f1 = some ⟨oc1, od1, .func (PySem.W.fnOf "inner_bodies" "inner_bodies" (defArgs s_inner) (defBody s_inner) (defScope s_inner) .none kV1 dc1 pm1 an1 cd1 ct1), sl1⟩) (c1 : PySem.W.codeIn K cd1 "inner_bodies" = true) (k1 : PySem.W.keepIn K (.ref f1) = true)
    (a2 : PySem.W.nsIn K mainGlobals "all_statements" = some (some (.ref f2))) (l2 : K.lookup f2 = some ⟨oc2, od2, .func (PySem.W.fnOf "all_statements" "all_statements" (defArgs s_allst) (defBody s_allst) (defScope s_allst) .none kV2 dc2 pm2 an2 cd2 ct2), sl2⟩) (c2 : PySem.W.codeIn K cd2 "all_statements" = true) (k2 : PySem.W.keepIn K (.ref f2) = true)
    (a3 : PySem.W.nsIn K mainGlobals "faults" = some (some (.ref f3))) (l3 : K.lookup f3 = some ⟨oc3, od3, .func (PySem.W.fnOf "faults" "faults" (defArgs s_faults) (defBody s_faults) (defScope s_faults) .none kV3 dc3 pm3 an3 cd3 ct3), sl3⟩) (c3 : PySem.W.codeIn K cd3 "faults" = true) (k3 : PySem.W.keepIn K (.ref f3) = true)
    (a4 : PySem.W.nsIn K mainGlobals "sound" = some (some (.ref f4))) (l4 : K.lookup f4 = some ⟨oc4, od4, .func (PySem.W.fnOf "sound" "sound" (defArgs s_sound) (defBody s_sound) (defScope s_sound) .none kV4 dc4 pm4 an4 cd4 ct4), sl4⟩) (c4 : PySem.W.codeIn K cd4 "sound" = true) (k4 : PySem.W.keepIn K (.ref f4) = true)
    (a5 : PySem.W.nsIn K mainGlobals "_law_cell_at" = some (some (.ref f5))) (l5 : K.lookup f5 = some ⟨oc5, od5, .func (PySem.W.fnOf "_law_cell_at" "_law_cell_at" (defArgs s_cell) (defBody s_cell) (defScope s_cell) .none kV5 dc5 pm5 an5 cd5 ct5), sl5⟩) (c5 : PySem.W.codeIn K cd5 "_law_cell_at" = true) (k5 : PySem.W.keepIn K (.ref f5) = true)
    (a6 : PySem.W.nsIn K mainGlobals "_law_stir" = some (some (.ref f6))) (l6 : K.lookup f6 = some ⟨oc6, od6, .func (PySem.W.fnOf "_law_stir" "_law_stir" (defArgs s_stir) (defBody s_stir) (defScope s_stir) .none kV6 dc6 pm6 an6 cd6 ct6), sl6⟩) (c6 : PySem.W.codeIn K cd6 "_law_stir" = true) (k6 : PySem.W.keepIn K (.ref f6) = true)
    (a7 : PySem.W.nsIn K mainGlobals "_law_barred" = some (some (.ref f7))) (l7 : K.lookup f7 = some ⟨oc7, od7, .func (PySem.W.fnOf "_law_barred" "_law_barred" (defArgs s_barred) (defBody s_barred) (defScope s_barred) .none kV7 dc7 pm7 an7 cd7 ct7), sl7⟩) (c7 : PySem.W.codeIn K cd7 "_law_barred" = true) (k7 : PySem.W.keepIn K (.ref f7) = true)
    (a8 : PySem.W.nsIn K mainGlobals "_law_names" = some (some (.ref f8))) (l8 : K.lookup f8 = some ⟨oc8, od8, .func (PySem.W.fnOf "_law_names" "_law_names" (defArgs s_names) (defBody s_names) (defScope s_names) .none kV8 dc8 pm8 an8 cd8 ct8), sl8⟩) (c8 : PySem.W.codeIn K cd8 "_law_names" = true) (k8 : PySem.W.keepIn K (.ref f8) = true)
    (a9 : PySem.W.nsIn K mainGlobals "_law_name" = some (some (.ref f9))) (l9 : K.lookup f9 = some ⟨oc9, od9, .func (PySem.W.fnOf "_law_name" "_law_name" (defArgs s_name) (defBody s_name) (defScope s_name) .none kV9 dc9 pm9 an9 cd9 ct9), sl9⟩) (c9 : PySem.W.codeIn K cd9 "_law_name" = true) (k9 : PySem.W.keepIn K (.ref f9) = true)
    (a10 : PySem.W.nsIn K mainGlobals "_law_leaf" = some (some (.ref f10))) (l10 : K.lookup f10 = some ⟨oc10, od10, .func (PySem.W.fnOf "_law_leaf" "_law_leaf" (defArgs s_leaf) (defBody s_leaf) (defScope s_leaf) .none kV10 dc10 pm10 an10 cd10 ct10), sl10⟩) (c10 : PySem.W.codeIn K cd10 "_law_leaf" = true) (k10 : PySem.W.keepIn K (.ref f10) = true)
    (a11 : PySem.W.nsIn K mainGlobals "_law_tree" = some (some (.ref f11))) (l11 : K.lookup f11 = some ⟨oc11, od11, .func (PySem.W.fnOf "_law_tree" "_law_tree" (defArgs s_tree) (defBody s_tree) (defScope s_tree) .none kV11 dc11 pm11 an11 cd11 ct11), sl11⟩) (c11 : PySem.W.codeIn K cd11 "_law_tree" = true) (k11 : PySem.W.keepIn K (.ref f11) = true)
    (a12 : PySem.W.nsIn K mainGlobals "_law_worded" = some (some (.ref f12))) (l12 : K.lookup f12 = some ⟨oc12, od12, .func (PySem.W.fnOf "_law_worded" "_law_worded" (defArgs s_worded) (defBody s_worded) (defScope s_worded) .none kV12 dc12 pm12 an12 cd12 ct12), sl12⟩) (c12 : PySem.W.codeIn K cd12 "_law_worded" = true) (k12 : PySem.W.keepIn K (.ref f12) = true)
    (a13 : PySem.W.nsIn K mainGlobals "_law_deepest" = some (some (.ref f13))) (l13 : K.lookup f13 = some ⟨oc13, od13, .func (PySem.W.fnOf "_law_deepest" "_law_deepest" (defArgs s_deepest) (defBody s_deepest) (defScope s_deepest) .none kV13 dc13 pm13 an13 cd13 ct13), sl13⟩) (c13 : PySem.W.codeIn K cd13 "_law_deepest" = true) (k13 : PySem.W.keepIn K (.ref f13) = true)
    (a14 : PySem.W.nsIn K mainGlobals "_law_expr" = some (some (.ref f14))) (l14 : K.lookup f14 = some ⟨oc14, od14, .func (PySem.W.fnOf "_law_expr" "_law_expr" (defArgs s_expr) (defBody s_expr) (defScope s_expr) .none kV14 dc14 pm14 an14 cd14 ct14), sl14⟩) (c14 : PySem.W.codeIn K cd14 "_law_expr" = true) (k14 : PySem.W.keepIn K (.ref f14) = true)
    (a15 : PySem.W.nsIn K mainGlobals "_law_good" = some (some (.ref f15))) (l15 : K.lookup f15 = some ⟨oc15, od15, .func (PySem.W.fnOf "_law_good" "_law_good" (defArgs s_good) (defBody s_good) (defScope s_good) .none kV15 dc15 pm15 an15 cd15 ct15), sl15⟩) (c15 : PySem.W.codeIn K cd15 "_law_good" = true) (k15 : PySem.W.keepIn K (.ref f15) = true)
    (a16 : PySem.W.nsIn K mainGlobals "_law_goods" = some (some (.ref f16))) (l16 : K.lookup f16 = some ⟨oc16, od16, .func (PySem.W.fnOf "_law_goods" "_law_goods" (defArgs s_goods) (defBody s_goods) (defScope s_goods) .none kV16 dc16 pm16 an16 cd16 ct16), sl16⟩) (c16 : PySem.W.codeIn K cd16 "_law_goods" = true) (k16 : PySem.W.keepIn K (.ref f16) = true)
    (a17 : PySem.W.nsIn K mainGlobals "_law_plain" = some (some (.ref f17))) (l17 : K.lookup f17 = some ⟨oc17, od17, .func (PySem.W.fnOf "_law_plain" "_law_plain" (defArgs s_plain) (defBody s_plain) (defScope s_plain) .none kV17 dc17 pm17 an17 cd17 ct17), sl17⟩) (c17 : PySem.W.codeIn K cd17 "_law_plain" = true) (k17 : PySem.W.keepIn K (.ref f17) = true)
    (a18 : PySem.W.nsIn K mainGlobals "_law_opener" = some (some (.ref f18))) (l18 : K.lookup f18 = some ⟨oc18, od18, .func (PySem.W.fnOf "_law_opener" "_law_opener" (defArgs s_opener) (defBody s_opener) (defScope s_opener) .none kV18 dc18 pm18 an18 cd18 ct18), sl18⟩) (c18 : PySem.W.codeIn K cd18 "_law_opener" = true) (k18 : PySem.W.keepIn K (.ref f18) = true)
    (a19 : PySem.W.nsIn K mainGlobals "_law_hand" = some (some (.ref f19))) (l19 : K.lookup f19 = some ⟨oc19, od19, .func (PySem.W.fnOf "_law_hand" "_law_hand" (defArgs s_hand) (defBody s_hand) (defScope s_hand) .none kV19 dc19 pm19 an19 cd19 ct19), sl19⟩) (c19 : PySem.W.codeIn K cd19 "_law_hand" = true) (k19 : PySem.W.keepIn K (.ref f19) = true)
    (a20 : PySem.W.nsIn K mainGlobals "_law_row" = some (some (.ref f20))) (l20 : K.lookup f20 = some ⟨oc20, od20, .func (PySem.W.fnOf "_law_row" "_law_row" (defArgs s_row) (defBody s_row) (defScope s_row) .none kV20 dc20 pm20 an20 cd20 ct20), sl20⟩) (c20 : PySem.W.codeIn K cd20 "_law_row" = true) (k20 : PySem.W.keepIn K (.ref f20) = true)
    (a21 : PySem.W.nsIn K mainGlobals "_law_built" = some (some (.ref f21))) (l21 : K.lookup f21 = some ⟨oc21, od21, .func (PySem.W.fnOf "_law_built" "_law_built" (defArgs s_built) (defBody s_built) (defScope s_built) .none kV21 dc21 pm21 an21 cd21 ct21), sl21⟩) (c21 : PySem.W.codeIn K cd21 "_law_built" = true) (k21 : PySem.W.keepIn K (.ref f21) = true)
    (a22 : PySem.W.nsIn K mainGlobals "_law_menu" = some (some (.ref f22))) (l22 : K.lookup f22 = some ⟨oc22, od22, .func (PySem.W.fnOf "_law_menu" "_law_menu" (defArgs s_menu) (defBody s_menu) (defScope s_menu) .none kV22 dc22 pm22 an22 cd22 ct22), sl22⟩) (c22 : PySem.W.codeIn K cd22 "_law_menu" = true) (k22 : PySem.W.keepIn K (.ref f22) = true)
    (a23 : PySem.W.nsIn K mainGlobals "_law_statement" = some (some (.ref f23))) (l23 : K.lookup f23 = some ⟨oc23, od23, .func (PySem.W.fnOf "_law_statement" "_law_statement" (defArgs s_stmt) (defBody s_stmt) (defScope s_stmt) .none kV23 dc23 pm23 an23 cd23 ct23), sl23⟩) (c23 : PySem.W.codeIn K cd23 "_law_statement" = true) (k23 : PySem.W.keepIn K (.ref f23) = true)
    (a24 : PySem.W.nsIn K mainGlobals "_law_body" = some (some (.ref f24))) (l24 : K.lookup f24 = some ⟨oc24, od24, .func (PySem.W.fnOf "_law_body" "_law_body" (defArgs s_body) (defBody s_body) (defScope s_body) .none kV24 dc24 pm24 an24 cd24 ct24), sl24⟩) (c24 : PySem.W.codeIn K cd24 "_law_body" = true) (k24 : PySem.W.keepIn K (.ref f24) = true)
    (a25 : PySem.W.nsIn K mainGlobals "_law_named" = some (some (.ref f25))) (l25 : K.lookup f25 = some ⟨oc25, od25, .func (PySem.W.fnOf "_law_named" "_law_named" (defArgs s_named) (defBody s_named) (defScope s_named) .none kV25 dc25 pm25 an25 cd25 ct25), sl25⟩) (c25 : PySem.W.codeIn K cd25 "_law_named" = true) (k25 : PySem.W.keepIn K (.ref f25) = true)
    (a26 : PySem.W.nsIn K mainGlobals "_law_in_order" = some (some (.ref f26))) (l26 : K.lookup f26 = some ⟨oc26, od26, .func (PySem.W.fnOf "_law_in_order" "_law_in_order" (defArgs s_order) (defBody s_order) (defScope s_order) .none kV26 dc26 pm26 an26 cd26 ct26), sl26⟩) (c26 : PySem.W.codeIn K cd26 "_law_in_order" = true) (k26 : PySem.W.keepIn K (.ref f26) = true)
    (a27 : PySem.W.nsIn K mainGlobals "_law_due" = some (some (.ref f27))) (l27 : K.lookup f27 = some ⟨oc27, od27, .func (PySem.W.fnOf "_law_due" "_law_due" (defArgs s_due) (defBody s_due) (defScope s_due) .none kV27 dc27 pm27 an27 cd27 ct27), sl27⟩) (c27 : PySem.W.codeIn K cd27 "_law_due" = true) (k27 : PySem.W.keepIn K (.ref f27) = true)
    (a28 : PySem.W.nsIn K mainGlobals "_law_copied" = some (some (.ref f28))) (l28 : K.lookup f28 = some ⟨oc28, od28, .func (PySem.W.fnOf "_law_copied" "_law_copied" (defArgs s_copied) (defBody s_copied) (defScope s_copied) .none kV28 dc28 pm28 an28 cd28 ct28), sl28⟩) (c28 : PySem.W.codeIn K cd28 "_law_copied" = true) (k28 : PySem.W.keepIn K (.ref f28) = true)
    (a29 : PySem.W.nsIn K mainGlobals "_law_spoilt" = some (some (.ref f29))) (l29 : K.lookup f29 = some ⟨oc29, od29, .func (PySem.W.fnOf "_law_spoilt" "_law_spoilt" (defArgs s_spoilt) (defBody s_spoilt) (defScope s_spoilt) .none kV29 dc29 pm29 an29 cd29 ct29), sl29⟩) (c29 : PySem.W.codeIn K cd29 "_law_spoilt" = true) (k29 : PySem.W.keepIn K (.ref f29) = true)
    (a30 : PySem.W.nsIn K mainGlobals "_law_exchanged" = some (some (.ref f30))) (l30 : K.lookup f30 = some ⟨oc30, od30, .func (PySem.W.fnOf "_law_exchanged" "_law_exchanged" (defArgs s_exch) (defBody s_exch) (defScope s_exch) .none kV30 dc30 pm30 an30 cd30 ct30), sl30⟩) (c30 : PySem.W.codeIn K cd30 "_law_exchanged" = true) (k30 : PySem.W.keepIn K (.ref f30) = true)
    (a31 : PySem.W.nsIn K mainGlobals "_law_told" = some (some (.ref f31))) (l31 : K.lookup f31 = some ⟨oc31, od31, .func (PySem.W.fnOf "_law_told" "_law_told" (defArgs s_told) (defBody s_told) (defScope s_told) .none kV31 dc31 pm31 an31 cd31 ct31), sl31⟩) (c31 : PySem.W.codeIn K cd31 "_law_told" = true) (k31 : PySem.W.keepIn K (.ref f31) = true)
    (a32 : PySem.W.nsIn K mainGlobals "law" = some (some (.ref f32))) (l32 : K.lookup f32 = some ⟨oc32, od32, .func (PySem.W.fnOf "law" "law" (defArgs s_law) (defBody s_law) (defScope s_law) .none kV32 dc32 pm32 an32 cd32 ct32), sl32⟩) (c32 : PySem.W.codeIn K cd32 "law" = true) (k32 : PySem.W.keepIn K (.ref f32) = true)
    (a33 : PySem.W.findIn K (.ref C) "__init__" = some (some (.ref f33))) (i33 : PySem.W.isFn K (.ref f33) = true) (l33 : K.lookup f33 = some ⟨oc33, od33, .func (PySem.W.fnOf "__init__" "Looker.__init__" (defArgs s_init) (defBody s_init) (defScope s_init) .none kV33 dc33 pm33 an33 cd33 ct33), sl33⟩) (c33 : PySem.W.codeIn K cd33 "Looker.__init__" = true) (k33 : PySem.W.keepIn K (.ref f33) = true)
    (a34 : PySem.W.findIn K (.ref C) "lack" = some (some (.ref f34))) (i34 : PySem.W.isFn K (.ref f34) = true) (l34 : K.lookup f34 = some ⟨oc34, od34, .func (PySem.W.fnOf "lack" "Looker.lack" (defArgs s_lack) (defBody s_lack) (defScope s_lack) .none kV34 dc34 pm34 an34 cd34 ct34), sl34⟩) (c34 : PySem.W.codeIn K cd34 "Looker.lack" = true) (k34 : PySem.W.keepIn K (.ref f34) = true)
    (a35 : PySem.W.findIn K (.ref C) "look" = some (some (.ref f35))) (i35 : PySem.W.isFn K (.ref f35) = true) (l35 : K.lookup f35 = some ⟨oc35, od35, .func (PySem.W.fnOf "look" "Looker.look" (defArgs s_look) (defBody s_look) (defScope s_look) .none kV35 dc35 pm35 an35 cd35 ct35), sl35⟩) (c35 : PySem.W.codeIn K cd35 "Looker.look" = true) (k35 : PySem.W.keepIn K (.ref f35) = true)
    (aC : PySem.W.nsIn K mainGlobals "Looker" = some (some (.ref C)))
    (pgC : PySem.W.plainGet K C Str.empty = true) (hdC : PySem.W.hasDictIn K C = true) (poC : PySem.W.plainOver K C = true) (saC : PySem.W.findIn K (.ref C) "__setattr__" = some (some (.builtin "object.__setattr__"))) (mkC : PySem.W.makesIn K C = true) (kcC : PySem.W.keepIn K (.ref C) = true)
    (nKn : PySem.W.findIn K (.ref C) "known" = some none) (nMn : PySem.W.findIn K (.ref C) "many" = some none)
    (z_len : PySem.W.nsIn K mainGlobals "len" = some none)
    (z_range : PySem.W.nsIn K mainGlobals "range" = some none)
    (z_int : PySem.W.nsIn K mainGlobals "int" = some none)
    (z_str : PySem.W.nsIn K mainGlobals "str" = some none)
    (z_max : PySem.W.nsIn K mainGlobals "max" = some none)
    (z_isinstance : PySem.W.nsIn K mainGlobals "isinstance" = some none)
    (z_tuple : PySem.W.nsIn K mainGlobals "tuple" = some none)
    (z_list : PySem.W.nsIn K mainGlobals "list" = some none)
    (z_reversed : PySem.W.nsIn K mainGlobals "reversed" = some none)
    (z_bool : PySem.W.nsIn K mainGlobals "bool" = some none)
    : ∃ fd : FuncData, (∀ (s : Shared) (v : Value), BindsTo s fd ⟨[v], []⟩ [("script", v)]) ∧ ∀ base : Heap, K.In base → base.Ns mainGlobals mg → FnOk l.prog w K mg base CX0 42 fa fd ["script"] (sp_law K) := by
  have e := hfa.symm.trans (PySem.W.mg_of X G a32)
  cases e
  have T : Tx mg := ⟨PySem.W.mg_none_of X G z_len, PySem.W.mg_none_of X G z_range, PySem.W.mg_none_of X G z_int, PySem.W.mg_none_of X G z_str, PySem.W.mg_none_of X G z_max, PySem.W.mg_none_of X G z_isinstance, PySem.W.mg_none_of X G z_tuple, PySem.W.mg_none_of X G z_list, PySem.W.mg_none_of X G z_reversed, PySem.W.mg_none_of X G z_bool⟩
  have kl : Kls K mg C := ⟨⟨pgC, hdC, poC, saC⟩, nKn, nMn, PySem.W.mg_of X G aC⟩
  have F1 := fun_mk (st := s_inner) l1 c1 k1
  have b1 := F1.binds (ps := pp_inner) fun _ _ _ _ _ _ us hl => match us, hl with | [_], _ => rfl
  have F2 := fun_mk (st := s_allst) l2 c2 k2
  have b2 := F2.binds (ps := pp_allst) fun _ _ _ _ _ _ us hl => match us, hl with | [_], _ => rfl
  have F3 := fun_mk (st := s_faults) l3 c3 k3
  have b3 := F3.binds (ps := pp_faults) fun _ _ _ _ _ _ us hl => match us, hl with | [_], _ => rfl
  have F4 := fun_mk (st := s_sound) l4 c4 k4
  have b4 := F4.binds (ps := pp_sound) fun _ _ _ _ _ _ us hl => match us, hl with | [_], _ => rfl
  have F5 := fun_mk (st := s_cell) l5 c5 k5
  have b5 := F5.binds (ps := pp_cell) fun _ _ _ _ _ _ us hl => match us, hl with | [_, _], _ => rfl
  have F6 := fun_mk (st := s_stir) l6 c6 k6
  have b6 := F6.binds (ps := pp_stir) fun _ _ _ _ _ _ us hl => match us, hl with | [_, _], _ => rfl
  have F7 := fun_mk (st := s_barred) l7 c7 k7
  have b7 := F7.binds (ps := pp_barred) fun _ _ _ _ _ _ us hl => match us, hl with | [], _ => rfl
  have F8 := fun_mk (st := s_names) l8 c8 k8
  have b8 := F8.binds (ps := pp_names) fun _ _ _ _ _ _ us hl => match us, hl with | [_, _, _], _ => rfl
  have F9 := fun_mk (st := s_name) l9 c9 k9
  have b9 := F9.binds (ps := pp_name) fun _ _ _ _ _ _ us hl => match us, hl with | [_], _ => rfl
  have F10 := fun_mk (st := s_leaf) l10 c10 k10
  have b10 := F10.binds (ps := pp_leaf) fun _ _ _ _ _ _ us hl => match us, hl with | [_], _ => rfl
  have F11 := fun_mk (st := s_tree) l11 c11 k11
  have b11 := F11.binds (ps := pp_tree) fun _ _ _ _ _ _ us hl => match us, hl with | [_, _, _], _ => rfl
  have F12 := fun_mk (st := s_worded) l12 c12 k12
  have b12 := F12.binds (ps := pp_worded) fun _ _ _ _ _ _ us hl => match us, hl with | [_, _], _ => rfl
  have F13 := fun_mk (st := s_deepest) l13 c13 k13
  have b13 := F13.binds (ps := pp_deepest) fun _ _ _ _ _ _ us hl => match us, hl with | [_], _ => rfl
  have F14 := fun_mk (st := s_expr) l14 c14 k14
  have b14 := F14.binds (ps := pp_expr) fun _ _ _ _ _ _ us hl => match us, hl with | [_, _], _ => rfl
  have F15 := fun_mk (st := s_good) l15 c15 k15
  have b15 := F15.binds (ps := pp_good) fun _ _ _ _ _ _ us hl => match us, hl with | [_, _, _], _ => rfl
  have F16 := fun_mk (st := s_goods) l16 c16 k16
  have b16 := F16.binds (ps := pp_goods) fun _ _ _ _ _ _ us hl => match us, hl with | [_], _ => rfl
  have F17 := fun_mk (st := s_plain) l17 c17 k17
  have b17 := F17.binds (ps := pp_plain) fun _ _ _ _ _ _ us hl => match us, hl with | [_, _], _ => rfl
  have F18 := fun_mk (st := s_opener) l18 c18 k18
  have b18 := F18.binds (ps := pp_opener) fun _ _ _ _ _ _ us hl => match us, hl with | [_, _], _ => rfl
  have F19 := fun_mk (st := s_hand) l19 c19 k19
  have b19 := F19.binds (ps := pp_hand) fun _ _ _ _ _ _ us hl => match us, hl with | [_, _, _], _ => rfl
  have F20 := fun_mk (st := s_row) l20 c20 k20
  have b20 := F20.binds (ps := pp_row) fun _ _ _ _ _ _ us hl => match us, hl with | [_, _, _, _], _ => rfl
  have F21 := fun_mk (st := s_built) l21 c21 k21
  have b21 := F21.binds (ps := pp_built) fun _ _ _ _ _ _ us hl => match us, hl with | [_, _], _ => rfl
  have F22 := fun_mk (st := s_menu) l22 c22 k22
  have b22 := F22.binds (ps := pp_menu) fun _ _ _ _ _ _ us hl => match us, hl with | [_, _, _], _ => rfl
  have F23 := fun_mk (st := s_stmt) l23 c23 k23
  have b23 := F23.binds (ps := pp_stmt) fun _ _ _ _ _ _ us hl => match us, hl with | [_, _, _, _], _ => rfl
  have F24 := fun_mk (st := s_body) l24 c24 k24
  have b24 := F24.binds (ps := pp_body) fun _ _ _ _ _ _ us hl => match us, hl with | [_, _, _, _], _ => rfl
  have F25 := fun_mk (st := s_named) l25 c25 k25
  have b25 := F25.binds (ps := pp_named) fun _ _ _ _ _ _ us hl => match us, hl with | [_, _, _], _ => rfl
  have F26 := fun_mk (st := s_order) l26 c26 k26
  have b26 := F26.binds (ps := pp_order) fun _ _ _ _ _ _ us hl => match us, hl with | [_], _ => rfl
  have F27 := fun_mk (st := s_due) l27 c27 k27
  have b27 := F27.binds (ps := pp_due) fun _ _ _ _ _ _ us hl => match us, hl with | [_], _ => rfl
  have F28 := fun_mk (st := s_copied) l28 c28 k28
  have b28 := F28.binds (ps := pp_copied) fun _ _ _ _ _ _ us hl => match us, hl with | [_], _ => rfl
  have F29 := fun_mk (st := s_spoilt) l29 c29 k29
  have b29 := F29.binds (ps := pp_spoilt) fun _ _ _ _ _ _ us hl => match us, hl with | [_, _, _], _ => rfl
  have F30 := fun_mk (st := s_exch) l30 c30 k30
  have b30 := F30.binds (ps := pp_exch) fun _ _ _ _ _ _ us hl => match us, hl with | [_, _, _], _ => rfl
  have F31 := fun_mk (st := s_told) l31 c31 k31
  have b31 := F31.binds (ps := pp_told) fun _ _ _ _ _ _ us hl => match us, hl with | [_], _ => rfl
  have F32 := fun_mk (st := s_law) l32 c32 k32
  have b32 := F32.binds (ps := pp_law) fun _ _ _ _ _ _ us hl => match us, hl with | [_], _ => rfl
  have F33 := fun_mk (st := s_init) l33 c33 k33
  have b33 := F33.binds (ps := pp_init) fun _ _ _ _ _ _ us hl => match us, hl with | [_, _], _ => rfl
  have F34 := fun_mk (st := s_lack) l34 c34 k34
  have b34 := F34.binds (ps := pp_lack) fun _ _ _ _ _ _ us hl => match us, hl with | [_, _, _, _], _ => rfl
  have F35 := fun_mk (st := s_look) l35 c35 k35
  have b35 := F35.binds (ps := pp_look) fun _ _ _ _ _ _ us hl => match us, hl with | [_, _], _ => rfl
  have d_inner : Df K mg "inner_bodies" s_inner pp_inner := ⟨f1, _, F1, b1, PySem.W.mg_of X G a1⟩
  have d_allst : Df K mg "all_statements" s_allst pp_allst := ⟨f2, _, F2, b2, PySem.W.mg_of X G a2⟩
  have d_faults : Df K mg "faults" s_faults pp_faults := ⟨f3, _, F3, b3, PySem.W.mg_of X G a3⟩
  have d_sound : Df K mg "sound" s_sound pp_sound := ⟨f4, _, F4, b4, PySem.W.mg_of X G a4⟩
  have d_cell : Df K mg "_law_cell_at" s_cell pp_cell := ⟨f5, _, F5, b5, PySem.W.mg_of X G a5⟩
  have d_stir : Df K mg "_law_stir" s_stir pp_stir := ⟨f6, _, F6, b6, PySem.W.mg_of X G a6⟩
  have d_barred : Df K mg "_law_barred" s_barred pp_barred := ⟨f7, _, F7, b7, PySem.W.mg_of X G a7⟩
  have d_names : Df K mg "_law_names" s_names pp_names := ⟨f8, _, F8, b8, PySem.W.mg_of X G a8⟩
  have d_name : Df K mg "_law_name" s_name pp_name := ⟨f9, _, F9, b9, PySem.W.mg_of X G a9⟩
  have d_leaf : Df K mg "_law_leaf" s_leaf pp_leaf := ⟨f10, _, F10, b10, PySem.W.mg_of X G a10⟩
  have d_tree : Df K mg "_law_tree" s_tree pp_tree := ⟨f11, _, F11, b11, PySem.W.mg_of X G a11⟩
  have d_worded : Df K mg "_law_worded" s_worded pp_worded := ⟨f12, _, F12, b12, PySem.W.mg_of X G a12⟩
  have d_deepest : Df K mg "_law_deepest" s_deepest pp_deepest := ⟨f13, _, F13, b13, PySem.W.mg_of X G a13⟩
  have d_expr : Df K mg "_law_expr" s_expr pp_expr := ⟨f14, _, F14, b14, PySem.W.mg_of X G a14⟩
  have d_good : Df K mg "_law_good" s_good pp_good := ⟨f15, _, F15, b15, PySem.W.mg_of X G a15⟩
  have d_goods : Df K mg "_law_goods" s_goods pp_goods := ⟨f16, _, F16, b16, PySem.W.mg_of X G a16⟩
  have d_plain : Df K mg "_law_plain" s_plain pp_plain := ⟨f17, _, F17, b17, PySem.W.mg_of X G a17⟩
  have d_opener : Df K mg "_law_opener" s_opener pp_opener := ⟨f18, _, F18, b18, PySem.W.mg_of X G a18⟩
  have d_hand : Df K mg "_law_hand" s_hand pp_hand := ⟨f19, _, F19, b19, PySem.W.mg_of X G a19⟩
  have d_row : Df K mg "_law_row" s_row pp_row := ⟨f20, _, F20, b20, PySem.W.mg_of X G a20⟩
  have d_built : Df K mg "_law_built" s_built pp_built := ⟨f21, _, F21, b21, PySem.W.mg_of X G a21⟩
  have d_menu : Df K mg "_law_menu" s_menu pp_menu := ⟨f22, _, F22, b22, PySem.W.mg_of X G a22⟩
  have d_stmt : Df K mg "_law_statement" s_stmt pp_stmt := ⟨f23, _, F23, b23, PySem.W.mg_of X G a23⟩
  have d_body : Df K mg "_law_body" s_body pp_body := ⟨f24, _, F24, b24, PySem.W.mg_of X G a24⟩
  have d_named : Df K mg "_law_named" s_named pp_named := ⟨f25, _, F25, b25, PySem.W.mg_of X G a25⟩
  have d_order : Df K mg "_law_in_order" s_order pp_order := ⟨f26, _, F26, b26, PySem.W.mg_of X G a26⟩
  have d_due : Df K mg "_law_due" s_due pp_due := ⟨f27, _, F27, b27, PySem.W.mg_of X G a27⟩
  have d_copied : Df K mg "_law_copied" s_copied pp_copied := ⟨f28, _, F28, b28, PySem.W.mg_of X G a28⟩
  have d_spoilt : Df K mg "_law_spoilt" s_spoilt pp_spoilt := ⟨f29, _, F29, b29, PySem.W.mg_of X G a29⟩
  have d_exch : Df K mg "_law_exchanged" s_exch pp_exch := ⟨f30, _, F30, b30, PySem.W.mg_of X G a30⟩
  have d_told : Df K mg "_law_told" s_told pp_told := ⟨f31, _, F31, b31, PySem.W.mg_of X G a31⟩
  have d_init : KDf K C "Looker.__init__" s_init pp_init := ⟨f33, _, F33, b33, ⟨mkC, a33, i33, kcC⟩⟩
  have d_lack : MDf K C "lack" "Looker.lack" s_lack pp_lack := ⟨f34, _, F34, b34, ⟨a34, i34, k34⟩⟩
  have d_look : MDf K C "look" "Looker.look" s_look pp_look := ⟨f35, _, F35, b35, ⟨a35, i35, k35⟩⟩
  refine ⟨PySem.W.fnOf "law" "law" (defArgs s_law) (defBody s_law) (defScope s_law) .none kV32 dc32 pm32 an32 cd32 ct32, fun s v => .of_eq rfl, fun base _ _ => ?_⟩
  have g_stir := ok_stir (P := l.prog) (w := w) (base := base) d_stir
  have g_cell := ok_cell (P := l.prog) (w := w) (base := base) d_cell T
  have g_barred := ok_barred (P := l.prog) (w := w) (base := base) d_barred
  have g_name := ok_name (P := l.prog) (w := w) (base := base) d_name
  have g_leaf := ok_leaf (P := l.prog) (w := w) (base := base) d_leaf g_name
  have g_tree := ok_tree (P := l.prog) (w := w) (base := base) d_tree g_stir g_leaf 4
  have g_worded := ok_worded (P := l.prog) (w := w) (base := base) d_worded T 4
  have g_deepest := ok_deepest (P := l.prog) (w := w) (base := base) d_deepest T
  have g_expr := ok_expr (P := l.prog) (w := w) (base := base) d_expr T g_stir g_tree g_worded g_deepest
  have g_names := ok_names (P := l.prog) (w := w) (base := base) d_names T g_stir g_barred
  have g_good := ok_good (P := l.prog) (w := w) (base := base) d_good T g_stir
  have g_goods := ok_goods (P := l.prog) (w := w) (base := base) d_goods T g_stir g_names g_good
  have g_plain := ok_plain (P := l.prog) (w := w) (base := base) d_plain T g_stir g_name g_expr
  have g_opener := ok_opener (P := l.prog) (w := w) (base := base) d_opener g_stir g_expr
  have g_row := ok_row (P := l.prog) (w := w) (base := base) d_row T g_stir g_opener g_plain
  have g_hand := ok_hand (P := l.prog) (w := w) (base := base) d_hand T g_stir g_names
  have g_built := ok_built (P := l.prog) (w := w) (base := base) d_built T g_stir g_goods g_hand g_row
  have g_menu := ok_menu (P := l.prog) (w := w) (base := base) d_menu T
  have g_stmt := ok_stmt (P := l.prog) (w := w) (base := base) d_stmt T g_stir g_menu
  have g_body := ok_body (P := l.prog) (w := w) (base := base) d_body T g_stmt 7
  have g_named := ok_named (P := l.prog) (w := w) (base := base) d_named T g_body
  have g_order := ok_order (P := l.prog) (w := w) (base := base) d_order T
  have g_lack := ok_lack (P := l.prog) (w := w) (base := base) d_lack kl
  have g_look := ok_look (P := l.prog) (w := w) (base := base) d_look T kl g_lack
  have g_inner := ok_inner (P := l.prog) (w := w) (base := base) d_inner
  have g_allst := ok_allst (P := l.prog) (w := w) (base := base) d_allst g_inner 7
  have g_init := ok_init (P := l.prog) (w := w) (base := base) d_init T kl
  have g_faults := ok_faults (P := l.prog) (w := w) (base := base) d_faults T kl g_init g_look g_allst
  have g_sound := ok_sound (P := l.prog) (w := w) (base := base) d_sound T g_faults
  have g_due := ok_due (P := l.prog) (w := w) (base := base) d_due T g_order
  have g_copied := ok_copied (P := l.prog) (w := w) (base := base) d_copied T 40
  have g_exch := ok_exch (P := l.prog) (w := w) (base := base) d_exch T 7
  have g_spoilt := ok_spoilt (P := l.prog) (w := w) (base := base) d_spoilt T
  have g_told := ok_told (P := l.prog) (w := w) (base := base) d_told T g_copied g_faults g_sound
  have key := law_fn (P := l.prog) (w := w) (base := base) F32 T g_cell g_stir g_built g_named g_due g_told g_order g_spoilt g_exch
  exact key
theorem walk {l : PySem.W.OpenLaw} {q : Program} {loose : List Str} {XP : (Str → Option Value) → Heap → Prop} {YP : World → Heap → Prop} {d : DefRec} {K : Params → PySem.W.Frag} (hn : l.most = some 63) (hdf : d.params.defaults = [])
    (hY : ∀ (w : World) (h : Heap), YP w h → (K w.params).In h)
    (F : ∀ (w : World) (mg : Str → Option Value) (fa : Addr) (h : Heap), (K w.params).In h → h.Ns mainGlobals mg → mg d.name = some (.ref fa) →
      ∃ fd : FuncData, (∀ (s : Shared) (u : Value), BindsTo s fd ⟨[u], []⟩ [("script", u)]) ∧ ∀ base : Heap, (K w.params).In base → base.Ns mainGlobals mg → FnOk l.prog w (K w.params) mg base CX0 42 fa fd ["script"] (sp_law (K w.params))) :
    PySem.W.WalkO q loose XP YP l.row.toRowW d [] (fun f vs => PySem.call f vs) :=
  L2.walk_of (n := 63) (k := 42) (x := "script") (CX := fun _ => CX0) (sp := fun w => sp_law (K w.params)) hn (by decide) hdf ⟨rfl, by decide, by decide⟩ hY F (fun _ _ a ns hl _ hS => ⟨a, ns, rfl, hS, hl, fun _ => rfl⟩) fun _ _ _ _ _ z => z
end K14
open PySem PySem.W PyProof.Rows
set_option maxRecDepth 100000 in
set_option maxHeartbeats 0 in
theorem PySem.Challenge.cw_rerunyard_k14_whole_sound_programs_holds : PySem.Challenge.rw_rerunyard_k14_whole_sound_programs.Holds := by
  w_on; o_law; k_head; (case hw => w_witness2)
  k_fill
  refine K14.walk (l := PySem.Challenge.rw_rerunyard_k14_whole_sound_programs) rfl rfl (fun w h Y => PySem.W.kIn_of Y) ?F
  case F =>
    intro w mg fa h KX G hmg
    refine' K14.all_mk KX G hmg ?a1 ?l1 ?c1 ?k1 ?a2 ?l2 ?c2 ?k2 ?a3 ?l3 ?c3 ?k3 ?a4 ?l4 ?c4 ?k4 ?a5 ?l5 ?c5 ?k5 ?a6 ?l6 ?c6 ?k6 ?a7 ?l7 ?c7 ?k7 ?a8 ?l8 ?c8 ?k8 ?a9 ?l9 ?c9 ?k9 ?a10 ?l10 ?c10 ?k10 ?a11 ?l11 ?c11 ?k11 ?a12 ?l12 ?c12 ?k12 ?a13 ?l13 ?c13 ?k13 ?a14 ?l14 ?c14 ?k14 ?a15 ?l15 ?c15 ?k15 ?a16 ?l16 ?c16 ?k16 ?a17 ?l17 ?c17 ?k17 ?a18 ?l18 ?c18 ?k18 ?a19 ?l19 ?c19 ?k19 ?a20 ?l20 ?c20 ?k20 ?a21 ?l21 ?c21 ?k21 ?a22 ?l22 ?c22 ?k22 ?a23 ?l23 ?c23 ?k23 ?a24 ?l24 ?c24 ?k24 ?a25 ?l25 ?c25 ?k25 ?a26 ?l26 ?c26 ?k26 ?a27 ?l27 ?c27 ?k27 ?a28 ?l28 ?c28 ?k28 ?a29 ?l29 ?c29 ?k29 ?a30 ?l30 ?c30 ?k30 ?a31 ?l31 ?c31 ?k31 ?a32 ?l32 ?c32 ?k32 ?a33 ?i33 ?l33 ?c33 ?k33 ?a34 ?i34 ?l34 ?c34 ?k34 ?a35 ?i35 ?l35 ?c35 ?k35 ?aC ?pgC ?hdC ?poC ?saC ?mkC ?kcC ?nKn ?nMn ?z_len ?z_range ?z_int ?z_str ?z_max ?z_isinstance ?z_tuple ?z_list ?z_reversed ?z_bool
    (case aC => k_is)
    (case a1 => k_is)
    (case l1 => k_is)
    (case c1 => k_is)
    (case k1 => k_is)
    (case a2 => k_is)
    (case l2 => k_is)
    (case c2 => k_is)
    (case k2 => k_is)
    (case a3 => k_is)
    (case l3 => k_is)
    (case c3 => k_is)
    (case k3 => k_is)
    (case a4 => k_is)
    (case l4 => k_is)
    (case c4 => k_is)
    (case k4 => k_is)
    (case a5 => k_is)
    (case l5 => k_is)
    (case c5 => k_is)
    (case k5 => k_is)
    (case a6 => k_is)
    (case l6 => k_is)
    (case c6 => k_is)
    (case k6 => k_is)
    (case a7 => k_is)
    (case l7 => k_is)
    (case c7 => k_is)
    (case k7 => k_is)
    (case a8 => k_is)
    (case l8 => k_is)
    (case c8 => k_is)
    (case k8 => k_is)
    (case a9 => k_is)
    (case l9 => k_is)
    (case c9 => k_is)
    (case k9 => k_is)
    (case a10 => k_is)
    (case l10 => k_is)
    (case c10 => k_is)
    (case k10 => k_is)
    (case a11 => k_is)
    (case l11 => k_is)
    (case c11 => k_is)
    (case k11 => k_is)
    (case a12 => k_is)
    (case l12 => k_is)
    (case c12 => k_is)
    (case k12 => k_is)
    (case a13 => k_is)
    (case l13 => k_is)
    (case c13 => k_is)
    (case k13 => k_is)
    (case a14 => k_is)
    (case l14 => k_is)
    (case c14 => k_is)
    (case k14 => k_is)
    (case a15 => k_is)
    (case l15 => k_is)
    (case c15 => k_is)
    (case k15 => k_is)
    (case a16 => k_is)
    (case l16 => k_is)
    (case c16 => k_is)
    (case k16 => k_is)
    (case a17 => k_is)
    (case l17 => k_is)
    (case c17 => k_is)
    (case k17 => k_is)
    (case a18 => k_is)
    (case l18 => k_is)
    (case c18 => k_is)
    (case k18 => k_is)
    (case a19 => k_is)
    (case l19 => k_is)
    (case c19 => k_is)
    (case k19 => k_is)
    (case a20 => k_is)
    (case l20 => k_is)
    (case c20 => k_is)
    (case k20 => k_is)
    (case a21 => k_is)
    (case l21 => k_is)
    (case c21 => k_is)
    (case k21 => k_is)
    (case a22 => k_is)
    (case l22 => k_is)
    (case c22 => k_is)
    (case k22 => k_is)
    (case a23 => k_is)
    (case l23 => k_is)
    (case c23 => k_is)
    (case k23 => k_is)
    (case a24 => k_is)
    (case l24 => k_is)
    (case c24 => k_is)
    (case k24 => k_is)
    (case a25 => k_is)
    (case l25 => k_is)
    (case c25 => k_is)
    (case k25 => k_is)
    (case a26 => k_is)
    (case l26 => k_is)
    (case c26 => k_is)
    (case k26 => k_is)
    (case a27 => k_is)
    (case l27 => k_is)
    (case c27 => k_is)
    (case k27 => k_is)
    (case a28 => k_is)
    (case l28 => k_is)
    (case c28 => k_is)
    (case k28 => k_is)
    (case a29 => k_is)
    (case l29 => k_is)
    (case c29 => k_is)
    (case k29 => k_is)
    (case a30 => k_is)
    (case l30 => k_is)
    (case c30 => k_is)
    (case k30 => k_is)
    (case a31 => k_is)
    (case l31 => k_is)
    (case c31 => k_is)
    (case k31 => k_is)
    (case a32 => k_is)
    (case l32 => k_is)
    (case c32 => k_is)
    (case k32 => k_is)
    (case a33 => k_is)
    (case i33 => k_is)
    (case l33 => k_is)
    (case c33 => k_is)
    (case k33 => k_is)
    (case a34 => k_is)
    (case i34 => k_is)
    (case l34 => k_is)
    (case c34 => k_is)
    (case k34 => k_is)
    (case a35 => k_is)
    (case i35 => k_is)
    (case l35 => k_is)
    (case c35 => k_is)
    (case k35 => k_is)
    (case pgC => k_is)
    (case hdC => k_is)
    (case poC => k_is)
    (case saC => k_is)
    (case mkC => k_is)
    (case kcC => k_is)
    (case nKn => k_is)
    (case nMn => k_is)
    (case z_len => k_is)
    (case z_range => k_is)
    (case z_int => k_is)
    (case z_str => k_is)
    (case z_max => k_is)
    (case z_isinstance => k_is)
    (case z_tuple => k_is)
    (case z_list => k_is)
    (case z_reversed => k_is)
    (case z_bool => k_is)
