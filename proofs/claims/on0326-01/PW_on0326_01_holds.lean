import PyProof.Rows.All
import Wide.All
import OpenK.AllK
import Wide.FinOn
import Lean
import PySem.Challenge.RW_on0326_01
open PySem PySem.W PyProof.Rows PySem.Calls PyProof.V
set_option Elab.async false
set_option maxRecDepth 100000
set_option maxHeartbeats 8000000
namespace Mine
section
variable {prog : Program} {w : World} {A : Around} {E : Value → Shared → Prop} {s : Shared}
/-- list(b) of a bytes b: the loop of extend -/
theorem extend_bytes {R : Result → Shared → Prop} (hh : A.handled = none) (b : Array UInt8) (t : Tok) (S : Addr) (hS : s.heap.get? S = some { cls := .type "list", data := .seq #[] 0 })
    (hR : ∀ h' tk acc' c', (∀ a o, a ≠ S → s.heap.get? a = some o → h'.get? a = some o) → h'.get? S = some { cls := .type "list", dict := none, data := .seq acc' c', slots := #[] } →
      ItemsOf (fun i v => ∃ c u, b[i]? = some c ∧ v = .int (c.toNat : Int) u) acc' b.size → R (.ok (.ret .none)) { s with heap := h', toks := tk }) (hn : b.size ≤ 1000) :
    wpAny (model prog w) A.in1 (Builtin.List.listExtendWith (.ref S) (.bytes b t) .none)
      (fun fin s' => match fin with | .done f => R (.ok f) s' | .again c' => c'.quiet = true ∧ codeAny (model prog w) A c' R s') (fun e s' => R (.error e) s') s := by
  have hT : s.TypeIs (.bytes b t) "bytes" := typeIs_bytes s b t
  unfold Builtin.List.listExtendWith
  refine wpAny_bind (wpAny_typeOf hT ?_)
  have h1 : Builtin.List.listSameRef (.ref S) (.bytes b t) = false := rfl
  have h2 : (Value.type "bytes" == Value.type "list") = false := by decide
  have h3 : (Value.type "bytes" == Value.type "tuple") = false := by decide
  simp only [h1, h2, h3, Bool.or_false, Bool.false_eq_true, if_false]
  refine wpAny_bind (KBw.pyIter_bytes ?_)
  have hSI : S ≠ s.heap.objs.size := Nat.ne_of_lt (Heap.lt_size hS)
  have hSf : S ∉ [s.heap.objs.size] := fun hm => hSI (List.mem_singleton.mp hm)
  have hS₁ : (s.heap.push { cls := .type "bytes_iterator", data := .fields #[.bytes b t, .int 0 0] }).get? S = some { cls := .type "list", data := .seq #[] 0 } := Heap.get?_push_of_some _ hS
  have hI : KBw.IsBytesIter (s.heap.push { cls := .type "bytes_iterator", data := .fields #[.bytes b t, .int 0 0] }) s.heap.objs.size b t 0 := ⟨_, Heap.get?_push_size _ rfl, rfl, rfl⟩
  have W := KBw.walks (prog := prog) (w := w) (A := A.in1) hh s.heap.objs.size b t
  refine wpAny_bind (wpAny_holding ?_)
  unfold Builtin.List.listLengthHint
  refine wpAny_bind (wpAny_specialOf (T := "bytes") (v := .bytes b t) (typeIs_bytes _ b t) FB.slot_bytes_len.lookup ?_)
  wp_delta
  refine wpAny_bind (wpAny_isInstance (T := "bytes") (v := .bytes b t) (b := true) (typeIs_bytes _ b t) (by rw [isSubtype_type]; kernel_rfl) ?_)
  show wpAny _ _ (typeOf (Value.bytes b t) >>= _) _ _ _
  refine wpAny_bind (wpAny_typeOf (T := "bytes") (v := .bytes b t) (typeIs_bytes _ b t) ?_)
  refine wpAny_pure ?_
  rw [if_neg (by decide)]
  refine wpAny_pure ⟨plainId_quiet F.plain_extend_loop _, codeAny_extend_loopS W.toS (by rw [sizeLine_eq]; omega) S hSf _ b.size 0 _ _ _ rfl (Nat.zero_le _) hI hS₁ (ItemsOf.nil _) fun s' acc' c' hm hS' hacc => ?_⟩
  rw [Moved.eq_with hm]
  refine hR s'.heap s'.toks acc' c' (fun a o ha e => hm.heap a o (fun hmem => ?_) (Heap.get?_push_of_some _ e)) hS' hacc
  rcases List.mem_cons.mp hmem with e' | hmem
  · exact ha e'
  · exact absurd (Heap.lt_size e) (by rw [List.mem_singleton.mp hmem]; exact Nat.lt_irrefl _)
theorem list_bytes {Q : Value → Shared → Prop} (hh : A.handled = none) (b : Array UInt8) (t : Tok)
    (hQ : ∀ h' tk acc' c', (∀ a o, s.heap.get? a = some o → h'.get? a = some o) → h'.get? s.heap.objs.size = some { cls := .type "list", dict := none, data := .seq acc' c', slots := #[] } →
      ItemsOf (fun i v => ∃ c u, b[i]? = some c ∧ v = .int (c.toNat : Int) u) acc' b.size → Q (.ref s.heap.objs.size) { s with heap := h', toks := tk }) (hn : b.size ≤ 1000) :
    wpAny (model prog w) A (call (.type "list") [.bytes b t]) Q E s := by
  refine callType_codes (Q₁ := fun obj s₁ => obj = .ref s.heap.objs.size ∧ s₁ = { s with heap := s.heap.push { cls := .type "list", data := .seq #[] } }) F.called_list (F.typeCall_list_1 _) F.entry_list_init
    (code_list_new _ ⟨rfl, rfl⟩) fun obj s₁ h₁ => ?_
  obtain ⟨rfl, rfl⟩ := h₁
  have hS : (s.heap.push { cls := .type "list", data := .seq #[] }).get? s.heap.objs.size = some { cls := .type "list", data := .seq #[] } := Heap.get?_push_size _ rfl
  refine ⟨⟨_, hS, rfl⟩, F.args_list_init_2 _ _, ?_⟩
  show wpAny _ _ (do let old ← Builtin.List.listItems (.ref s.heap.objs.size); Builtin.List.listUpdate (.ref s.heap.objs.size) (fun _ => #[]); letGo old.toList.reverse; Builtin.List.listExtendWith (.ref s.heap.objs.size) (.bytes b t) .none) _ _ _
  refine wpAny_bind ?_
  unfold Builtin.List.listItems
  refine wpAny_bind (wpAny_seqItems hS rfl (wpAny_pure ?_))
  show wpAny _ _ (updateSeq s.heap.objs.size (fun _ => #[]) >>= fun _ => letGo (#[] : Array Value).toList.reverse >>= fun _ => Builtin.List.listExtendWith (.ref s.heap.objs.size) (.bytes b t) .none) _ _ _
  refine wpAny_bind (wpAny_updateSeq hS rfl ?_)
  have hS₂ := Heap.get?_update_self (Obj.mapSeq (fun _ => (#[] : Array Value))) hS rfl
  refine wpAny_bind (wpAny_letGo ?_)
  refine extend_bytes (A := A.in1) hh b t s.heap.objs.size hS₂ (fun h' tk acc' c' hk hS' hacc => ?_) hn
  refine ⟨rfl, hQ h' tk acc' c' (fun a o e => hk a o (Nat.ne_of_lt (Heap.lt_size e)) ((Heap.get?_update_other _ _ (Ne.symm (Nat.ne_of_lt (Heap.lt_size e)))).trans (Heap.get?_push_of_some _ e))) hS' hacc⟩
theorem ints_of_bytes : ∀ {acc : List Value} {bs : List UInt8}, acc.length = bs.length → (∀ (i : Nat) (v : Value), acc[i]? = some v → ∃ (c : UInt8) (u : Tok), bs[i]? = some c ∧ v = Value.int (UInt8.toNat c : Int) u) → IntsAre acc (bs.map fun (c : UInt8) => (c.toNat : Int))
  | [], [], _, _ => .nil
  | [], _ :: _, h, _ => by simp at h
  | _ :: _, [], h, _ => by simp at h
  | v :: r, c :: bs, h, k => by
    obtain ⟨c', u, e, rfl⟩ := k 0 v rfl
    have : c = c' := by simpa using e
    subst this
    exact .cons _ u (ints_of_bytes (by simpa using h) fun i v hv => by simpa using k (i + 1) v (by simpa using hv))
theorem list_bytesK {h₀ : Heap} {L : Addr} {m : Str → Option Value} {news : List (Addr × Obj)} {b : Array UInt8} {t : Tok} {Q : Value → Shared → Prop} (F : Fr h₀ L s.heap m) (N : News h₀ L s.heap news) (hh : A.handled = none) (hn : b.size ≤ 1000)
    (h : ∀ (D : Nat) h' tk (vs : List Value) c, Fr h₀ L h' m → News h₀ L h' ((D, listOf vs.toArray c) :: news) → (∀ p ∈ news, p.1 < D) → IntsAre vs (KBw.bInts b) → Q (.ref D) { s with heap := h', toks := tk }) :
    wpAny (model prog w) A (call (.type "list") [.bytes b t]) Q E s := by
  refine list_bytes hh b t (fun h' tk acc c hk ho hacc => ?_) hn
  refine h s.heap.objs.size h' tk acc.toList c (F.keeps hk) (fun p hp => ?_) (fun p hp => Heap.lt_size (N p hp).1) (ints_of_bytes (by simpa using hacc.1) fun i v hv => by simpa using hacc.2 i v (by simpa using hv))
  rcases List.mem_cons.mp hp with rfl | hp
  · obtain ⟨oL, _, _, hL, _⟩ := F.ns
    refine ⟨by simpa [PySem.W.listOf] using ho, Nat.ne_of_gt (Heap.lt_size hL), ?_⟩
    cases q : h₀.get? s.heap.objs.size with
    | none => rfl
    | some o' => exact absurd (Heap.lt_size (F.keep _ _ q)) (Nat.lt_irrefl _)
  · exact ⟨hk _ _ (N p hp).1, (N p hp).2⟩
end
end Mine
namespace Mine
noncomputable abbrev ZipAt (h : Heap) (z TI TO : Addr) (f0 f1 : Value) : Prop :=
  h.get? z = some { cls := .type "zip", dict := none, data := .fields #[f0, f1, .bool false, .ref TI, .ref TO], slots := #[] }
/-- the owned tuple is out (alive), or never was -/
noncomputable def ZipGo (h : Heap) (z TI TO : Addr) : Prop := ZipAt h z TI TO .none (.bool false) ∨ ∃ T b, ZipAt h z TI TO (rawInt (T : Nat)) (.bool b) ∧ T ≠ z ∧ (h.get? T).isSome = true
section
variable {prog : Program} {w : World} {A : Around} {E : Value → Shared → Prop} {s : Shared}
theorem loadIfAlive_any {a : Addr} {o : Obj} {Q : Option Obj → Shared → Prop} (ho : s.heap.get? a = some o) (h : Q (some o) s) : wpAny (model prog w) A (loadIfAlive a) Q E s := fun Γ p _ => by
  show Sem.wp _ _ (.loadIfAlive a .pure) _ _ _ _
  show Q (s.heap.get? a) s
  rw [ho]; exact h
theorem free_false {z TI TO T : Addr} {f1 : Bool} {oT : Obj} (hz : ZipAt s.heap z TI TO (rawInt (T : Nat)) (.bool f1)) (hT : s.heap.get? T = some oT) :
    wpAny (model prog w) A (Builtin.SmallTypes.ownedTupleIsFree (.ref z)) (fun r s' => r = false ∧ ∃ h₁ c, s' = { s with heap := h₁ } ∧ ZipAt h₁ z TI TO (rawInt (T : Nat)) (.bool c) ∧ (∀ b o, b ≠ z → s.heap.get? b = some o → h₁.get? b = some o) ∧ h₁.objs.size = s.heap.objs.size) E s := by
  unfold Builtin.SmallTypes.ownedTupleIsFree
  refine wpAny_bind (wpAny_field hz rfl (x := rawInt T) rfl ?_)
  show wpAny _ _ (loadIfAlive T >>= _) _ _ _
  refine wpAny_bind (loadIfAlive_any hT ?_)
  simp only [Option.isNone_some, Bool.false_eq_true, if_false]
  refine wpAny_bind (wpAny_field hz rfl (x := .bool f1) rfl ?_)
  cases f1 with
  | true =>
    rw [if_neg (by decide)]
    exact wpAny_pure ⟨rfl, s.heap, true, rfl, hz, fun _ _ _ e => e, rfl⟩
  | false =>
    rw [if_pos (by decide)]
    refine wpAny_bind (wpAny_setField_rec hz (by simp) fun h₁ hz₁ hs₁ => ?_)
    exact wpAny_pure ⟨rfl, h₁, true, rfl, hz₁, fun b o hb e => hs₁.extBut b o hb e, hs₁.1⟩
theorem zip_item2 {z TI TO i1 i2 l1 l2 : Addr} {k1 k2 : Nat} {xs ys : Array Value} {x y : Value} {T : Nat} {f1 : Bool} {oT : Obj} {Q : Value → Shared → Prop} (D : ZipApart z TI TO i1 i2 l1 l2)
    (hz : ZipAt s.heap z TI TO (rawInt T) (.bool f1)) (hT : s.heap.get? T = some oT) (hTI : IsPair s.heap TI (.ref i1) (.ref i2))
    (h1 : s.heap.IsListIter i1 l1 k1) (h2 : s.heap.IsListIter i2 l2 k2) (hl1 : s.heap.IsList l1 xs) (hl2 : s.heap.IsList l2 ys) (hx : xs[k1]? = some x) (hy : ys[k2]? = some y)
    (hQ : ∀ h' c, ZipAt h' z TI TO (rawInt T) (.bool c) → h'.IsListIter i1 l1 (k1 + 1) → h'.IsListIter i2 l2 (k2 + 1) → IsPair h' s.heap.objs.size x y → h'.objs.size = s.heap.objs.size + 1 →
      (∀ c o, c ≠ z → c ≠ i1 → c ≠ i2 → s.heap.get? c = some o → h'.get? c = some o) → Q (.ref s.heap.objs.size) { s with heap := h' }) :
    wpAny (model prog w) A (Builtin.«zip.__next__» ⟨[.ref z], []⟩) (fun fin s' => ∃ v, fin = .done (.ret v) ∧ Q v s') E s := by
  show wpAny _ _ (field (.ref z) 2 >>= _) _ _ _
  refine wpAny_bind (wpAny_field hz rfl (x := .bool false) rfl ?_)
  show wpAny _ _ (field (.ref z) 3 >>= _) _ _ _
  refine wpAny_bind (wpAny_field hz rfl (x := .ref TI) rfl ?_)
  refine wpAny_bind (wpAny_seqItems hTI rfl ?_)
  show wpAny _ _ (Builtin.SmallTypes.ownedTupleIsFree (.ref z) >>= _) _ _ _
  refine wpAny_bind (wpAny_mono (free_false hz hT) (fun r s' h => ?_) fun _ _ e => e)
  obtain ⟨rfl, h₁, c, rfl, hz₁, hk₁, hs₁⟩ := h
  simp only [Bool.false_eq_true, if_false]
  have l1k : h₁.IsListIter i1 l1 k1 := h1.at fun o e => hk₁ _ o D.i1z e
  have l2k : h₁.IsListIter i2 l2 k2 := h2.at fun o e => hk₁ _ o D.i2z e
  have hl1' : h₁.IsList l1 xs := hl1.at fun o e => hk₁ _ o D.l1z e
  have hl2' : h₁.IsList l2 ys := hl2.at fun o e => hk₁ _ o D.l2z e
  refine wpAny_bind ?_
  simp only [List.forIn_toArray, List.forIn_cons, List.forIn_nil]
  refine wpAny_bind (wpAny_bind (wpAny_holding ?_))
  show wpAny _ _ (Builtin.SmallTypes.nextOf (.ref i1) >>= _) _ _ _
  refine wpAny_bind (wpAny_nextOf_list_item l1k hl1' hx fun h₂ h1₂ hs₂ => wpAny_pure (wpAny_pure ?_))
  refine wpAny_bind (wpAny_bind (wpAny_holding ?_))
  show wpAny _ _ (Builtin.SmallTypes.nextOf (.ref i2) >>= _) _ _ _
  refine wpAny_bind (wpAny_nextOf_list_item (l2k.extBut hs₂.extBut D.i12.symm) (hl2'.extBut hs₂.extBut D.l2i1) hy fun h₃ h2₃ hs₃ => wpAny_pure (wpAny_pure ?_))
  refine wpAny_pure ?_
  show wpAny _ _ (newTuple [x, y] >>= _) _ _ _
  refine wpAny_bind (wpAny_newTuple ?_)
  have hsz : h₃.objs.size = s.heap.objs.size := by rw [hs₃.1, hs₂.1, hs₁]
  have hz₃ : ZipAt h₃ z TI TO (rawInt T) (.bool c) := hs₃.extBut _ _ D.i2z.symm (hs₂.extBut _ _ D.i1z.symm hz₁)
  have h1₃ : h₃.IsListIter i1 l1 (k1 + 1) := h1₂.extBut hs₃.extBut D.i12
  refine wpAny_pure ⟨_, rfl, ?_⟩
  show Q (.ref h₃.objs.size) _
  rw [hsz]
  refine hQ _ c (Heap.get?_push_of_some _ hz₃) (h1₃.at fun o e => Heap.get?_push_of_some _ e) (h2₃.at fun o e => Heap.get?_push_of_some _ e) (by rw [← hsz]; exact Heap.get?_push_size _ rfl) (by rw [Heap.size_push, hsz])
    fun b o b1 b2 b3 e => Heap.get?_push_of_some _ (hs₃.extBut _ _ b3 (hs₂.extBut _ _ b2 (hk₁ _ _ b1 e)))
theorem zip_end2 {z TI TO i1 i2 l1 l2 : Addr} {k1 : Nat} {xs : Array Value} {T : Nat} {f1 : Bool} {oT : Obj} {Q : Fin → Shared → Prop} (hh : A.handled = none) (D : ZipApart z TI TO i1 i2 l1 l2)
    (hz : ZipAt s.heap z TI TO (rawInt T) (.bool f1)) (hT : s.heap.get? T = some oT) (hTI : IsPair s.heap TI (.ref i1) (.ref i2))
    (h1 : s.heap.IsListIter i1 l1 k1) (hl1 : s.heap.IsList l1 xs) (hx : xs[k1]? = none)
    (hE : ∀ h' e, (∀ c o, c ≠ z → c ≠ i1 → c ≠ i2 → s.heap.get? c = some o → h'.get? c = some o) → (∃ o, h'.get? e = some o ∧ o.cls = .type "StopIteration") → E (.ref e) { s with heap := h' }) :
    wpAny (model prog w) A (Builtin.«zip.__next__» ⟨[.ref z], []⟩) Q E s := by
  show wpAny _ _ (field (.ref z) 2 >>= _) _ _ _
  refine wpAny_bind (wpAny_field hz rfl (x := .bool false) rfl ?_)
  show wpAny _ _ (field (.ref z) 3 >>= _) _ _ _
  refine wpAny_bind (wpAny_field hz rfl (x := .ref TI) rfl ?_)
  refine wpAny_bind (wpAny_seqItems hTI rfl ?_)
  show wpAny _ _ (Builtin.SmallTypes.ownedTupleIsFree (.ref z) >>= _) _ _ _
  refine wpAny_bind (wpAny_mono (free_false hz hT) (fun r s' h => ?_) fun _ _ e => e)
  obtain ⟨rfl, h₁, c, rfl, hz₁, hk₁, hs₁⟩ := h
  simp only [Bool.false_eq_true, if_false]
  have l1k : h₁.IsListIter i1 l1 k1 := h1.at fun o e => hk₁ _ o D.i1z e
  have hl1' : h₁.IsList l1 xs := hl1.at fun o e => hk₁ _ o D.l1z e
  refine wpAny_bind ?_
  simp only [List.forIn_toArray, List.forIn_cons, List.forIn_nil]
  refine wpAny_bind (wpAny_bind (wpAny_holding ?_))
  show wpAny _ _ (Builtin.SmallTypes.nextOf (.ref i1) >>= _) _ _ _
  refine wpAny_bind (wpAny_nextOf_list_end hh l1k hl1' hx fun h₂ e hs₂ he => ?_)
  exact hE h₂ e (fun b o b1 b2 b3 x => hs₂ _ _ b2 (hk₁ _ _ b1 x)) he
end
end Mine
namespace Mine
theorem lk_zip_keys : typeLookup (.type "zip") "keys" = pure none := by rw [typeLookup_type, builtinLookup_eq_fast]; kernel_rfl
theorem slot_zip_ga : Slot "zip" "__getattribute__" "zip.__getattribute__" :=
  .of (owner := "zip") (n := "__getattribute__") (by rw [typeLookup_type, builtinLookup_eq_fast]; kernel_rfl) (by decide +kernel) (by decide +kernel) (by decide +kernel)
    (by first | exact .inl (by decide +kernel) | exact .inr (by decide +kernel)) (by rw [isSubtype_type]; kernel_rfl)
theorem entry_zip_ga : entryFor table "zip.__getattribute__" = some Builtin.«object.__getattribute__» :=
  entryFor_alias (id' := "object.__getattribute__") (by kernel_rfl) (by first | rfl | decide +kernel) (by decide +kernel) (by kernel_rfl)
section
variable {prog : Program} {w : World} {A : Around} {E : Value → Shared → Prop} {h : Heap} {g : Array GenState} {d : Drawn} {t : Nat} {os : OsState}
theorem zip_no_keys (z TI TO : Addr) (f0 f1 : Value) (u : Tok) :
    Meets (Builtin.«object.__getattribute__» ⟨[.ref z, .str "keys" u], []⟩) (fun A R s => ZipAt s.heap z TI TO f0 f1 ∧ raisesAttr (.ref z) "keys" A R s) :=
  Meets.of_wp fun prog w A R s hs => by
    obtain ⟨hp, g, d, tk, os⟩ := s
    obtain ⟨hx, hs⟩ := hs
    have hT : (⟨hp, g, d, tk, os⟩ : Shared).TypeIs (.ref z) "zip" := ⟨_, hx, rfl⟩
    have f4 := lk_zip_keys
    unfold Builtin.«object.__getattribute__»
    repeat (any_goals (first | with_reducible assumption | wp_step))
    exact wpAny_raiseAttrError hs.1 hs.2 (attrMsg_fits (by decide +kernel) (by rw [sizeLine_eq]; decide))
theorem zip_getattr_none : typeLookup (.type "zip") "__getattr__" = pure none := by rw [typeLookup_type, builtinLookup_eq_fast]; kernel_rfl
theorem zip_keys_none {z TI TO : Addr} {f0 f1 : Value} {Q : Option Value → Shared → Prop} (hx : ZipAt h z TI TO f0 f1) (hA : A.handled = none)
    (hQ : ∀ h' tk, (∀ b o, h.get? b = some o → h'.get? b = some o) → Q none ⟨h', g, d, tk, os⟩) :
    wpAny (model prog w) A (getAttr? (.ref z) "keys") Q E ⟨h, g, d, t, os⟩ := by
  have hT : ∀ tk', (⟨h, g, d, tk', os⟩ : Shared).TypeIs (.ref z) "zip" := fun _ => ⟨_, hx, rfl⟩
  have f1 := sub_AttributeError
  have f3 := slot_zip_ga.lookup
  have f4 := slot_zip_ga.bind (.ref z)
  have f5 := zip_getattr_none
  unfold getAttr? getAttrBy? getAttrBy
  repeat (any_goals (first | with_reducible assumption | exact hT _ | ((with_reducible show wpAny _ _ (call (Value.builtin "zip.__getattribute__") _ _) _ _ _); refine call_meets slot_zip_ga (hT _) entry_zip_ga (by unfold argsOk; kernel_rfl) (zip_no_keys z TI TO _ _ _) ⟨hx, hA, fun h' tk' e hx' => ?_⟩) | wp_step))
  obtain ⟨t', u', he⟩ := hx'.there
  show wpAny _ _ (getattributeRaised _ _ _ _ _ _ _) _ _ _
  unfold getattributeRaised
  have hk := hx'.keeps
  repeat (any_goals (first | with_reducible assumption | wp_step))
  exact hQ _ _ hk
end
end Mine
namespace Mine
theorem plain_update_loop : plainId "dict.update.loop" = true := by decide +kernel
theorem entry_update_loop : entryFor table "dict.update.loop" = some Builtin.«dict.update.loop» := by first | exact entryFor_of_fast (by kernel_rfl) | exact entryFor_of_tree (by kernel_rfl)
/-- the state of the zip between two draws -/
structure ZipSt (h : Heap) (z TI TO i1 i2 l1 l2 : Addr) (xs ys : Array Value) (k : Nat) : Prop where
  go : ZipGo h z TI TO
  ti : IsPair h TI (.ref i1) (.ref i2)
  to : ∃ a b, IsPair h TO a b
  a1 : h.IsListIter i1 l1 k
  a2 : h.IsListIter i2 l2 k
  b1 : h.IsList l1 xs
  b2 : h.IsList l2 ys
section
variable {prog : Program} {w : World} {A : Around} {E : Value → Shared → Prop} {s : Shared}
theorem zip_next {z TI TO i1 i2 l1 l2 : Addr} {k : Nat} {xs ys : Array Value} {x y : Value} {Q : Option Value → Shared → Prop} (D : ZipApart z TI TO i1 i2 l1 l2) (Z : ZipSt s.heap z TI TO i1 i2 l1 l2 xs ys k) (hx : xs[k]? = some x) (hy : ys[k]? = some y)
    (hQ : ∀ h', ZipSt h' z TI TO i1 i2 l1 l2 xs ys (k + 1) → IsPair h' s.heap.objs.size x y → (∀ c o, c ≠ z → c ≠ TO → c ≠ i1 → c ≠ i2 → s.heap.get? c = some o → h'.get? c = some o) → Q (some (.ref s.heap.objs.size)) { s with heap := h' }) :
    wpAny (model prog w) A (pyNext (.ref z)) Q E s := by
  obtain ⟨go, ti, ⟨a, b, hto⟩, a1, a2, b1, b2⟩ := Z
  rcases go with hz | ⟨T, f, hz, hTz, hT⟩
  · refine wpAny_pyNext_zip_item D hz ti hto a1 a2 b1 b2 hx hy fun h' hz' hto' a1' a2' hp' hs' hk' => ?_
    refine hQ h' ⟨.inr ⟨s.heap.objs.size, false, hz', Nat.ne_of_gt (Heap.lt_size hz), by rw [hp']; rfl⟩, hk' _ _ D.TIz D.TITO D.TIi1 D.TIi2 ti, ⟨_, _, hto'⟩, a1', a2', b1.at fun o e => hk' _ o D.l1z D.l1TO D.l1i1 D.l1i2 e, b2.at fun o e => hk' _ o D.l2z D.l2TO D.l2i1 D.l2i2 e⟩ hp' hk'
  · obtain ⟨oT, hoT⟩ := Option.isSome_iff_exists.mp hT
    have hTy : s.TypeIs (.ref z) "zip" := ⟨_, hz, rfl⟩
    unfold pyNext
    refine wpAny_bind (wpAny_attempt (wpAny_callSpecial?_slot (name := Str.ofString "__next__") hTy F.slot_zip_next
      (wpAny_call_entry F.slot_zip_next hTy F.entry_zip_next
        (zip_item2 D hz hoT ti a1 a2 b1 b2 hx hy fun h' c hz' a1' a2' hp' hs' hk' => wpAny_pure ?_) (F.args_zip_next_1 _))))
    have hlt : s.heap.objs.size ≠ z := Nat.ne_of_gt (Heap.lt_size hz)
    by_cases hTi : T = i1 ∨ T = i2
    · refine hQ h' ⟨.inr ⟨T, c, hz', hTz, ?_⟩, hk' _ _ D.TIz D.TIi1 D.TIi2 ti, ⟨a, b, hk' _ _ D.TOz D.TOi1 D.TOi2 hto⟩, a1', a2', b1.at fun o e => hk' _ o D.l1z D.l1i1 D.l1i2 e, b2.at fun o e => hk' _ o D.l2z D.l2i1 D.l2i2 e⟩ hp' fun c' o c1 _ c3 c4 e => hk' c' o c1 c3 c4 e
      rcases hTi with rfl | rfl
      · obtain ⟨_, e, _⟩ := a1'; rw [e]; rfl
      · obtain ⟨_, e, _⟩ := a2'; rw [e]; rfl
    · refine hQ h' ⟨.inr ⟨T, c, hz', hTz, by rw [hk' _ _ hTz (fun e => hTi (.inl e)) (fun e => hTi (.inr e)) hoT]; rfl⟩, hk' _ _ D.TIz D.TIi1 D.TIi2 ti, ⟨a, b, hk' _ _ D.TOz D.TOi1 D.TOi2 hto⟩, a1', a2', b1.at fun o e => hk' _ o D.l1z D.l1i1 D.l1i2 e, b2.at fun o e => hk' _ o D.l2z D.l2i1 D.l2i2 e⟩ hp' fun c' o c1 _ c3 c4 e => hk' c' o c1 c3 c4 e
theorem zip_stop {z TI TO i1 i2 l1 l2 : Addr} {k : Nat} {xs ys : Array Value} {Q : Option Value → Shared → Prop} (hh : A.handled = none) (D : ZipApart z TI TO i1 i2 l1 l2) (Z : ZipSt s.heap z TI TO i1 i2 l1 l2 xs ys k) (hx : xs[k]? = none)
    (hQ : ∀ h', (∀ c o, c ≠ z → c ≠ TO → c ≠ i1 → c ≠ i2 → s.heap.get? c = some o → h'.get? c = some o) → Q none { s with heap := h' }) :
    wpAny (model prog w) A (pyNext (.ref z)) Q E s := by
  obtain ⟨go, ti, ⟨a, b, hto⟩, a1, a2, b1, b2⟩ := Z
  rcases go with hz | ⟨T, f, hz, hTz, hT⟩
  · exact wpAny_pyNext_zip_end hh D hz ti hto a1 a2 b1 b2 (.inl hx) hQ
  · obtain ⟨oT, hoT⟩ := Option.isSome_iff_exists.mp hT
    have hTy : s.TypeIs (.ref z) "zip" := ⟨_, hz, rfl⟩
    unfold pyNext
    refine wpAny_bind (wpAny_attempt (wpAny_callSpecial?_slot (name := Str.ofString "__next__") hTy F.slot_zip_next
      (wpAny_call_entry F.slot_zip_next hTy F.entry_zip_next (zip_end2 (A := A.in1) hh D hz hoT ti a1 b1 hx fun h' e hk he => ?_) (F.args_zip_next_1 _))))
    obtain ⟨o, ho, hc⟩ := he
    refine wpAny_bind (wpAny_isInstance (T := "StopIteration") (b := true) ⟨o, ho, hc⟩ (by rw [isSubtype_type]; kernel_rfl) ?_)
    exact wpAny_pure (hQ _ fun c o c1 _ c3 c4 e => hk c o c1 c3 c4 e)
noncomputable def zkv : List Int → List Value → List (Int × Value)
  | k :: ks, v :: vs => (k, v) :: zkv ks vs
  | _, _ => []
theorem zkv_length : ∀ {ks : List Int} {vs : List Value}, ks.length = vs.length → (zkv ks vs).length = ks.length
  | [], [], _ => rfl
  | [], _ :: _, h => by simp at h
  | _ :: _, [], h => by simp at h
  | _ :: ks, _ :: vs, h => by simp [zkv, zkv_length (ks := ks) (vs := vs) (by simpa using h)]
theorem zkv_keys : ∀ {ks : List Int} {vs : List Value}, ks.length = vs.length → (zkv ks vs).map (·.1) = ks
  | [], [], _ => rfl
  | [], _ :: _, h => by simp at h
  | _ :: _, [], h => by simp at h
  | k :: ks, _ :: vs, h => by simp [zkv, zkv_keys (ks := ks) (vs := vs) (by simpa using h)]
theorem zkv_snoc : ∀ {ks : List Int} {vs : List Value} {k : Int} {v : Value}, ks.length = vs.length → zkv (ks ++ [k]) (vs ++ [v]) = zkv ks vs ++ [(k, v)]
  | [], [], _, _, _ => rfl
  | [], _ :: _, _, _, h => by simp at h
  | _ :: _, [], _, _, h => by simp at h
  | _ :: ks, _ :: vs, k, v, h => by simp [zkv, zkv_snoc (ks := ks) (vs := vs) (k := k) (v := v) (by simpa using h)]
theorem update_loop {R : Result → Shared → Prop} {d z TI TO i1 i2 l1 l2 : Addr} {xs ys : List Value} {ks : List Int} (hh : A.handled = none) (D : ZipApart z TI TO i1 i2 l1 l2) (hi : IntsAre xs ks) (hl : ks.length = ys.length) (hn : ks.Nodup) (hz : ks.length ≤ 1000)
    (hd : d ≠ z ∧ d ≠ TI ∧ d ≠ TO ∧ d ≠ i1 ∧ d ≠ i2 ∧ d ≠ l1 ∧ d ≠ l2) :
    ∀ (r i : Nat) (s : Shared) (t : Tok), ks.length - i = r → i ≤ ks.length → ZipSt s.heap z TI TO i1 i2 l1 l2 xs.toArray ys.toArray i → s.heap.DictOf (intKind prog w) d (zkv (ks.take i) (ys.take i)) →
      (∀ h' tk, h'.DictOf (intKind prog w) d (zkv ks ys) → (∀ b o, b ≠ d → b ≠ z → b ≠ TO → b ≠ i1 → b ≠ i2 → s.heap.get? b = some o → h'.get? b = some o) → R (.ok (.ret .none)) { s with heap := h', toks := tk }) →
      codeAny (model prog w) A (.builtin "dict.update.loop" ⟨[.ref d, .ref z, .int i t, .none], []⟩) R s := by
  intro r
  induction r with
  | zero =>
    intro i s t hr hle Z hD hR
    have hin : i = ks.length := by omega
    subst hin
    refine codeAny_builtin entry_update_loop ?_
    rw [Around.under_plainId plain_update_loop _]
    show wpAny _ A.in1 (pyNext (.ref z) >>= _) _ _ s
    refine wpAny_bind (zip_stop (A := A.in1) hh D Z (by simp [hi.length]) fun h' hk => ?_)
    have hD' : h'.DictOf (intKind prog w) d (zkv (ks.take ks.length) (ys.take ks.length)) := hD.at fun o e => hk d o hd.1 hd.2.2.1 hd.2.2.2.1 hd.2.2.2.2.1 e
    rw [List.take_length, hl, List.take_length] at hD'
    show wpAny _ _ (Builtin.Dict.addKeywords d [] >>= _) _ _ _
    exact wpAny_bind (wpAny_pure (wpAny_pure (hR h' s.toks hD' fun b o b1 b2 b3 b4 b5 e => hk b o b2 b3 b4 b5 e)))
  | succ r ih =>
    intro i s t hr hle Z hD hR
    have hlt : i < ks.length := by omega
    obtain ⟨tk, hx⟩ := hi.get i ks[i] (by simp [hlt])
    have hy : ys[i]? = some ys[i] := List.getElem?_eq_getElem (by omega)
    refine codeAny_builtin entry_update_loop ?_
    rw [Around.under_plainId plain_update_loop _]
    show wpAny _ A.in1 (pyNext (.ref z) >>= _) _ _ s
    refine wpAny_bind (zip_next D Z (x := .int ks[i] tk) (y := ys[i]) (by simpa using hx) (by simpa using hy) fun h' Z' hp hk => ?_)
    have hD' : h'.DictOf (intKind prog w) d (zkv (ks.take i) (ys.take i)) := hD.at fun o e => hk d o hd.1 hd.2.2.1 hd.2.2.2.1 hd.2.2.2.2.1 e
    refine wpAny_bind (wpAny_holding ?_)
    refine wpAny_bind (wpAny_tryCatch ?_)
    unfold Builtin.Dict.pairItems
    refine wpAny_bind (wpAny_typeOf (T := "tuple") (v := .ref s.heap.objs.size) ⟨_, hp, rfl⟩ ?_)
    rw [if_pos (by decide)]
    refine wpAny_bind (wpAny_seqItems hp rfl (wpAny_pure ?_))
    show wpAny _ _ (holding [.int ks[i] tk, ys[i]] (dictSet d (.int ks[i] tk) ys[i])) _ _ _
    refine wpAny_holding ?_
    refine wpAny_dictSet_pairs (intKind_is _ _ _ _) hD' (fun h'' hD'' hs'' => ?_) (by rw [zkv_length (by simp [hl]), sizeLine_eq, List.length_take]; omega)
    refine wpAny_pure ⟨plainId_quiet plain_update_loop _, ?_⟩
    have hnot : ks[i] ∉ (zkv (ks.take i) (ys.take i)).map (·.1) := by
      rw [zkv_keys (by simp [hl])]
      intro hm
      obtain ⟨j, hj, hje⟩ := List.mem_iff_getElem.mp hm
      rw [List.length_take] at hj
      rw [List.getElem_take] at hje
      have := (List.getElem_inj hn).mp hje
      omega
    have hst : stored (zkv (ks.take i) (ys.take i)) ks[i] ys[i] = zkv (ks.take (i + 1)) (ys.take (i + 1)) := by
      rw [stored, if_neg (by
        intro h
        obtain ⟨kv, hkv, he⟩ := List.any_eq_true.mp h
        exact hnot (List.mem_map.mpr ⟨kv, hkv, of_decide_eq_true he⟩))]
      rw [List.take_succ_eq_append_getElem hlt, List.take_succ_eq_append_getElem (by omega : i < ys.length), zkv_snoc (by simp [hl])]
    rw [hst] at hD''
    have ha : ∀ b o, b ≠ d → h'.get? b = some o → h''.get? b = some o := fun b o hb e => hs''.extBut b o hb e
    have Z'' : ZipSt h'' z TI TO i1 i2 l1 l2 xs.toArray ys.toArray (i + 1) := by
      obtain ⟨go, ti, ⟨a, b, hto⟩, a1, a2, b1, b2⟩ := Z'
      refine ⟨?_, ha _ _ (Ne.symm hd.2.1) ti, ⟨a, b, ha _ _ (Ne.symm hd.2.2.1) hto⟩, a1.at fun o e => ha _ o (Ne.symm hd.2.2.2.1) e, a2.at fun o e => ha _ o (Ne.symm hd.2.2.2.2.1) e, b1.at fun o e => ha _ o (Ne.symm hd.2.2.2.2.2.1) e, b2.at fun o e => ha _ o (Ne.symm hd.2.2.2.2.2.2) e⟩
      rcases go with g | ⟨T, f, g, gz, gT⟩
      · exact .inl (ha _ _ (Ne.symm hd.1) g)
      · refine .inr ⟨T, f, ha _ _ (Ne.symm hd.1) g, gz, ?_⟩
        by_cases hTd : T = d
        · subst hTd
          obtain ⟨o, _, _, ho, _⟩ := hD''
          rw [ho]; rfl
        · obtain ⟨oT, hoT⟩ := Option.isSome_iff_exists.mp gT
          rw [ha _ _ hTd hoT]; rfl
    have := ih (i + 1) { s with heap := h'', toks := s.toks + 1 } 0 (by omega) hlt Z'' hD'' fun h3 tk3 hD3 hk3 => ?_
    · exact this
    · exact hR h3 tk3 hD3 fun b o b1 b2 b3 b4 b5 e => hk3 b o b1 b2 b3 b4 b5 (ha _ _ b1 (hk b o b2 b3 b4 b5 e))
end
end Mine
namespace Mine
section
variable {prog : Program} {w : World} {A : Around} {E : Value → Shared → Prop} {s : Shared}
theorem dict_zip {z TI TO i1 i2 l1 l2 : Addr} {xs ys : List Value} {ks : List Int} {Q : Value → Shared → Prop} (hh : A.handled = none) (D : ZipApart z TI TO i1 i2 l1 l2) (Z : ZipSt s.heap z TI TO i1 i2 l1 l2 xs.toArray ys.toArray 0)
    (hz0 : ZipAt s.heap z TI TO .none (.bool false)) (hi : IntsAre xs ks) (hl : ks.length = ys.length) (hn : ks.Nodup) (hz : ks.length ≤ 1000)
    (hQ : ∀ h' tk, h'.DictOf (intKind prog w) s.heap.objs.size (zkv ks ys) → (∀ b o, b ≠ z → b ≠ TO → b ≠ i1 → b ≠ i2 → s.heap.get? b = some o → h'.get? b = some o) → Q (.ref s.heap.objs.size) { s with heap := h', toks := tk }) :
    wpAny (model prog w) A (call (.type "dict") [.ref z]) Q E s := by
  refine callType_codes (Q₁ := fun obj s₁ => obj = .ref s.heap.objs.size ∧ s₁ = { s with heap := s.heap.push { cls := .type "dict", data := .dict #[] } }) F.kt_called_dict (F.kt_typeCall_dict_1 _) F.entry_dict_init (kt_code_dict_new _ ⟨rfl, rfl⟩) ?_
  rintro obj s₁ ⟨rfl, rfl⟩
  have hnew : (s.heap.push { cls := .type "dict", data := .dict #[] }).DictOf (intKind prog w) s.heap.objs.size [] := Heap.DictOf.new s.heap
  have up : ∀ b o, s.heap.get? b = some o → (s.heap.push { cls := .type "dict", data := .dict #[] }).get? b = some o := fun b o e => Heap.get?_push_of_some _ e
  have lt : ∀ b o, s.heap.get? b = some o → s.heap.objs.size ≠ b := fun b o e => Nat.ne_of_gt (Heap.lt_size e)
  refine ⟨hnew.typeIs, F.args_dict_init_2 _ _, ?_⟩
  unfold Builtin.«dict.__init__»
  refine wpAny_bind ?_
  unfold Builtin.Dict.selfAndRest
  refine wpAny_bind (wpAny_notOrdered_dict hnew.typeIs ?_)
  show wpAny _ _ (pure (s.heap.objs.size, [Value.ref z])) _ _ _
  refine wpAny_pure ?_
  show wpAny _ _ (Builtin.Dict.updateFrom "dict.__init__" s.heap.objs.size (.ref z) [] .none) _ _ _
  unfold Builtin.Dict.updateFrom
  refine wpAny_bind (wpAny_typeOf (T := "zip") (v := .ref z) ⟨_, up _ _ hz0, rfl⟩ ?_)
  rw [if_pos (by decide)]
  refine wpAny_bind (zip_keys_none (up _ _ hz0) hh fun h₁ tk₁ hk₁ => ?_)
  simp only [Option.isNone_none, if_true]
  refine wpAny_bind (wpAny_rule ?_)
  obtain ⟨go, ti, ⟨a, b, hto⟩, a1, a2, b1, b2⟩ := Z
  have up1 : ∀ b o, s.heap.get? b = some o → h₁.get? b = some o := fun b o e => hk₁ b o (up b o e)
  refine wpAny_bind (wpAny_pyIter_zip (f0 := .none) (up1 _ _ hz0) ?_)
  refine wpAny_pure ⟨plainId_quiet plain_update_loop _, ?_⟩
  have ha : ∀ {l : Addr} {xs : Array Value}, s.heap.IsList l xs → s.heap.objs.size ≠ l := fun h => by obtain ⟨o, e, _⟩ := h; exact lt _ _ e
  have hb : ∀ {i l : Addr} {k : Nat}, s.heap.IsListIter i l k → s.heap.objs.size ≠ i := fun h => by obtain ⟨o, e, _⟩ := h; exact lt _ _ e
  have := update_loop (prog := prog) (w := w) (A := A.in1) (R := wants (fun r s₂ => r = .none ∧ Q (.ref s.heap.objs.size) s₂) E) (d := s.heap.objs.size) hh D hi hl hn hz ⟨lt _ _ hz0, lt _ _ ti, lt _ _ hto, hb a1, hb a2, ha b1, ha b2⟩ ks.length 0
    ⟨h₁, s.gens, s.drawn, tk₁, s.os⟩ 0 (by omega) (Nat.zero_le _) ⟨.inl (up1 _ _ hz0), up1 _ _ ti, ⟨a, b, up1 _ _ hto⟩, a1.at fun o e => up1 _ o e, a2.at fun o e => up1 _ o e, b1.at fun o e => up1 _ o e, b2.at fun o e => up1 _ o e⟩ (hnew.at fun o e => hk₁ _ o e) ?_
  · exact this
  · intro h' tk hD hk
    exact ⟨rfl, hQ h' tk hD fun b o b1 b2 b3 b4 e => hk b o (Ne.symm (lt _ _ e)) b1 b2 b3 b4 (up1 b o e)⟩
/-- where the zip's parts lie: above all that is known -/
structure ZipK (h₀ : Heap) (L : Addr) (news : List (Addr × Obj)) (h : Heap) (I : Nat) (l1 l2 : Addr) (xs ys : Array Value) : Prop where
  z0 : ZipAt h (I + 4) (I + 2) (I + 3) .none (.bool false)
  st : ZipSt h (I + 4) (I + 2) (I + 3) I (I + 1) l1 l2 xs ys 0
  old : ∀ b o, h₀.get? b = some o → b < I
  fr : L < I
  nw : ∀ p ∈ news, p.1 < I
  x1 : l1 < I
  x2 : l2 < I
section
variable {h₀ : Heap} {L : Addr} {m : Str → Option Value} {news : List (Addr × Obj)} {l1 l2 : Nat} {xs ys : List Value} {n1 n2 : Nat}
theorem zip_K {Q : Value → Shared → Prop} (F : Fr h₀ L s.heap m) (N : News h₀ L s.heap news) (h1 : (l1, listOf xs.toArray n1) ∈ news) (h2 : (l2, listOf ys.toArray n2) ∈ news)
    (h : ∀ (I : Nat) h', Fr h₀ L h' m → News h₀ L h' news → ZipK h₀ L news h' I l1 l2 xs.toArray ys.toArray → Q (.ref (I + 4)) { s with heap := h' }) :
    wpAny (model prog w) A (call (.type "zip") [.ref l1, .ref l2]) Q E s := by
  have b1 : s.heap.IsList l1 xs.toArray := PySem.IsL.isList (n := n1) (N _ h1).1
  have b2 : s.heap.IsList l2 ys.toArray := PySem.IsL.isList (n := n2) (N _ h2).1
  refine call_zip_2 b1 b2 fun h' z ti to a1 a2 hs hk => ?_
  obtain ⟨oL, _, _, hL, _⟩ := F.ns
  refine h s.heap.objs.size h' (F.keeps hk) (fun p hp => ⟨hk _ _ (N p hp).1, (N p hp).2⟩) ⟨z, ⟨.inl z, ti, ⟨_, _, to⟩, a1, a2, b1.at fun o e => hk _ o e, b2.at fun o e => hk _ o e⟩, fun b o e => Heap.lt_size (F.keep b o e), Heap.lt_size hL, fun p hp => Heap.lt_size (N p hp).1, Heap.lt_size (N _ h1).1, Heap.lt_size (N _ h2).1⟩
theorem dict_zip_K {Q : Value → Shared → Prop} {I : Nat} {ks : List Int} (F : Fr h₀ L s.heap m) (N : News h₀ L s.heap news) (Z : ZipK h₀ L news s.heap I l1 l2 xs.toArray ys.toArray) (hh : A.handled = none) (hi : IntsAre xs ks) (hl : ks.length = ys.length) (hn : ks.Nodup) (hz : ks.length ≤ 1000)
    (h : ∀ (d : Nat) o h' tk, Fr h₀ L h' m → News h₀ L h' ((d, o) :: news) → (∀ p ∈ news, p.1 < d) → (d == sysModules) = false → o.IsDictOf (intKind prog w) (zkv ks ys) → Q (.ref d) { s with heap := h', toks := tk }) :
    wpAny (model prog w) A (call (.type "dict") [.ref (I + 4)]) Q E s := by
  obtain ⟨z0, st, old, fr, nw, x1, x2⟩ := Z
  have D : ZipApart (I + 4) (I + 2) (I + 3) I (I + 1) l1 l2 := ktu_apart I l1 l2 x1 x2
  refine dict_zip hh D st z0 hi hl hn hz fun h' tk hD hk => ?_
  obtain ⟨o, ho, hD⟩ := Heap.dictOf_iff.mp hD
  have up : ∀ b o, b < I → s.heap.get? b = some o → h'.get? b = some o := fun b o hb e => hk b o (Nat.ne_of_lt (Nat.lt_of_lt_of_le hb (Nat.le_add_right _ _))) (Nat.ne_of_lt (Nat.lt_of_lt_of_le hb (Nat.le_add_right _ _))) (Nat.ne_of_lt hb) (Nat.ne_of_lt (Nat.lt_of_lt_of_le hb (Nat.le_add_right _ _))) e
  obtain ⟨oL, es, ep, hL, rL⟩ := F.ns
  refine h s.heap.objs.size o h' tk ⟨⟨oL, es, ep, up _ _ fr hL, rL⟩, fun b o e => up b o (old b o e) (F.keep b o e), F.above⟩ (fun p hp => ?_) (fun p hp => Heap.lt_size (N p hp).1) ?_ hD
  · rcases List.mem_cons.mp hp with rfl | hp
    · refine ⟨ho, Nat.ne_of_gt (Heap.lt_size hL), ?_⟩
      cases q : h₀.get? s.heap.objs.size with
      | none => rfl
      | some o' => exact absurd (Heap.lt_size (F.keep _ _ q)) (Nat.lt_irrefl _)
    · exact ⟨up _ _ (nw p hp) (N p hp).1, (N p hp).2⟩
  · have : I + 4 < s.heap.objs.size := Heap.lt_size z0
    have hs : sysModules = 1 := rfl
    simp only [beq_eq_false_iff_ne, ne_eq, hs]
    omega
theorem zkv_flat : ∀ {ks : List Int} {vs : List Value} {ns : List Int}, IntsAre vs ns → FlatPairs PyData.int (zkv ks vs) (kdfD (ks.zip ns))
  | [], _, _, _ => .nil
  | _ :: _, _, _, .nil => .nil
  | k :: ks, _, _, .cons i t h => .cons (Flat.int i t) (zkv_flat h)
end
end
end Mine
namespace Mine
open PySem.MeetsSeq PySem.SeqRoads2
theorem slot_bytes_hash : Slot "bytes" "__hash__" "bytes.__hash__" :=
  .of (owner := "bytes") (n := "__hash__") (by rw [typeLookup_type, builtinLookup_eq_fast]; kernel_rfl) (by decide +kernel) (by decide +kernel) (by decide +kernel)
    (by first | exact .inl (by decide +kernel) | exact .inr (by decide +kernel)) (by rw [isSubtype_type]; kernel_rfl)
theorem entry_bytes_hash : entryFor table "bytes.__hash__" = some Builtin.«bytes.__hash__» := entryFor_of_tree (by kernel_rfl)
theorem args_bytes_hash (a : Value) : argsOk "bytes.__hash__" ⟨[a], []⟩ := by unfold argsOk; kernel_rfl
theorem toList_eq (a b : Array UInt8) : (a.toList == b.toList) = decide (a = b) := by
  by_cases h : a = b
  · subst h; simp
  · rw [decide_eq_false h]
    exact beq_eq_false_iff_ne.mpr fun e => h (Array.toList_inj.mp e)
theorem EqGives.bytes (a b : Array UInt8) (t u : Tok) : EqGives (.bytes a t) (.bytes b u) (decide (a = b)) := by
  intro prog w A E s Q h
  unfold eqBool
  refine wpAny_holding ?_
  refine wpAny_ite_split (fun hab => ?_) (fun hab => ?_)
  · have e : a = b := by have := eq_of_beq hab; injection this
    subst e
    exact wpAny_bind (wpAny_rule (wpAny_pure (by simpa using h)))
  · exact wpAny_bind (richCompare_gives (typeIs_bytes s a t) (typeIs_bytes s b u) FB.slot_bytes_eq FB.entry_bytes_eq (FB.args_bytes_eq_2 _ _) (gives_bytes_eq a b t u) (by simp [Made.takes]) (wpAny_truthy_bool (by rw [toList_eq]; exact h)))
noncomputable def redH (i : Int) : Int :=
  if (decide (-(2 ^ 63 : Int) ≤ i) && decide (i < 2 ^ 63)) = true then (if i == -1 then -2 else i)
  else (if (if i < 0 then -((i.natAbs : Int) % (2 ^ 61 - 1)) else (i.natAbs : Int) % (2 ^ 61 - 1)) == -1 then -2 else (if i < 0 then -((i.natAbs : Int) % (2 ^ 61 - 1)) else (i.natAbs : Int) % (2 ^ 61 - 1)))
noncomputable def hashBytes (w : World) (b : Array UInt8) : Int := redH (hashStr w ⟨b.map (·.toNat)⟩)
noncomputable def isBytesOf : Array UInt8 → Value → Bool
  | x, .bytes y _ => decide (y = x)
  | _, _ => false
theorem isBytesOf_shape {x : Array UInt8} {v : Value} (h : isBytesOf x v = true) : ∃ t, v = .bytes x t := by
  cases v <;> simp_all [isBytesOf]
section
variable {prog : Program} {w : World} {A : Around} {E : Value → Shared → Prop} {s : Shared}
theorem pyHash_bytes {b : Array UInt8} {t : Tok} {Q : Int → Shared → Prop} (h : Q (hashBytes w b) { s with toks := s.toks + 1 }) : wpAny (model prog w) A (pyHash (.bytes b t)) Q E s := by
  have hT : s.TypeIs (.bytes b t) "bytes" := typeIs_bytes s b t
  unfold pyHash
  have hv : [Value.bytes b t].any Value.onHeap = false := rfl
  refine wpAny_bind ?_
  rw [cRoomFor, if_neg (by rw [hv]; exact Bool.false_ne_true)]; refine wpAny_pure ?_
  refine wpAny_bind (wpAny_specialOf hT slot_bytes_hash.lookup ?_)
  show wpAny _ _ (if (some (Value.builtin "bytes.__hash__") == some Value.none) = true then _ else _) Q E s
  rw [if_neg (by rw [beq_builtin_none]; exact Bool.false_ne_true)]
  refine wpAny_bind (wpAny_specialOf hT slot_bytes_hash.lookup ?_)
  show wpAny _ _ (callSpecialIfBoundUnlessNone? (.bytes b t) "__hash__" _ >>= _) Q E s
  refine wpAny_bind (wpAny_callSpecialIfBoundUnlessNone?_slot hT slot_bytes_hash
    (wpAny_call_entry slot_bytes_hash hT entry_bytes_hash
      (show wpAny _ _ (strHash ⟨b.map (·.toNat)⟩ >>= fun i => (do ret (← mkInt i))) _ _ s from ?_) (args_bytes_hash _)))
  unfold strHash
  refine wpAny_bind (wpAny_bind (wpAny_askSetting (wpAny_pure (wpAny_ret_mkInt ?_))))
  show wpAny _ _ (if (decide (-(2 : Int) ^ 63 ≤ hashStr w ⟨b.map (·.toNat)⟩) && decide (hashStr w ⟨b.map (·.toNat)⟩ < 2 ^ 63)) = true then _ else _) Q E _
  unfold hashBytes redH at h
  split
  · rename_i q
    rw [if_pos q] at h
    exact wpAny_pure h
  · rename_i q
    rw [if_neg q] at h
    exact wpAny_bind (wpAny_rule (wpAny_pure h))
end
noncomputable def bkind (prog : Program) (w : World) : KeyKind prog w (Array UInt8) where
  is := isBytesOf
  hash := hashBytes w
  inj := fun v a b ha hb => by
    obtain ⟨t, rfl⟩ := isBytesOf_shape ha
    obtain ⟨u, h⟩ := isBytesOf_shape hb
    injection h
  byValue := fun k v h => by obtain ⟨t, rfl⟩ := isBytesOf_shape h; rfl
  pyHash := fun hv h => by obtain ⟨t, rfl⟩ := isBytesOf_shape hv; exact pyHash_bytes h
  eqBool := fun hu hv h => by
    obtain ⟨t, rfl⟩ := isBytesOf_shape hu
    obtain ⟨u, rfl⟩ := isBytesOf_shape hv
    exact EqGives.bytes _ _ _ _ _ _ _ _ _ _ h
  «strs» := fun k x t v h => by simp [isBytesOf] at h
theorem bkind_is (prog : Program) (w : World) (b : Array UInt8) (t : Tok) : (bkind prog w).is b (.bytes b t) = true := by
  show decide (b = b) = true
  simp
inductive BytesAre : List Value → List (Array UInt8) → Prop
  | nil : BytesAre [] []
  | cons (b : Array UInt8) (t : Tok) {vs bs} : BytesAre vs bs → BytesAre (.bytes b t :: vs) (b :: bs)
noncomputable def eqB (b c : Array UInt8) : Bool := decide (b = c)
noncomputable def inB (bs : List (Array UInt8)) (x : Array UInt8) : Bool := bs.any fun y => decide (y = x)
noncomputable def eqOf (x : Array UInt8) : Value → Bool
  | .bytes y _ => decide (y = x)
  | _ => false
theorem bytes_any {x : Array UInt8} : ∀ {vs : List Value} {bs : List (Array UInt8)}, BytesAre vs bs → vs.any (eqOf x) = inB bs x
  | _, _, .nil => rfl
  | _, _, .cons b t h => by
    rw [List.any_cons, bytes_any h]
    rfl
theorem bytes_gives {x : Array UInt8} {u : Tok} : ∀ {vs : List Value} {bs : List (Array UInt8)}, BytesAre vs bs → ∀ y ∈ vs, EqGives y (.bytes x u) (eqOf x y)
  | _, _, .nil, _, h => nomatch h
  | _, _, .cons b t h, y, hy => by
    rcases List.mem_cons.mp hy with rfl | hy
    · exact EqGives.bytes b x t u
    · exact bytes_gives h y hy
theorem BytesAre.length : ∀ {vs : List Value} {bs : List (Array UInt8)}, BytesAre vs bs → vs.length = bs.length
  | _, _, .nil => rfl
  | _, _, .cons b t h => by simp [h.length]
theorem BytesAre.get : ∀ {vs : List Value} {bs : List (Array UInt8)}, BytesAre vs bs → ∀ (i : Nat) b, bs[i]? = some b → ∃ t, vs[i]? = some (.bytes b t)
  | _, _, .nil, _, _, e => by simp at e
  | _, _, .cons b t h, 0, b', e => by
    have e' : b = b' := by simpa using e
    subst e'
    exact ⟨t, rfl⟩
  | _, _, .cons b t h, i + 1, b', e => by
    obtain ⟨t', e'⟩ := h.get i b' (by simpa using e)
    exact ⟨t', by simpa using e'⟩
section
variable {prog : Program} {w : World} {A : Around} {E : Value → Shared → Prop} {s : Shared} {h₀ : Heap} {L : Addr} {m : Str → Option Value} {news : List (Addr × Obj)} {l : Nat} {vs : List Value} {bs : List (Array UInt8)} {n : Nat} {x : Array UInt8} {u : Tok} {Q : Value → Shared → Prop}
theorem in_tup_bytes (hl : s.heap.get? l = some { cls := .type "tuple", data := .seq vs.toArray n }) (hb : BytesAre vs bs) (h : Q (.bool (inB bs x)) s) : wpAny (model prog w) A (compareOp .In (.bytes x u) (.ref l)) Q E s :=
  in_tuple (eqOf x) (fun y hy => bytes_gives hb y (by simpa using hy)) hl (by rw [List.any_toArray, bytes_any hb]; exact h)
theorem notin_tup_bytes (hl : s.heap.get? l = some { cls := .type "tuple", data := .seq vs.toArray n }) (hb : BytesAre vs bs) (h : Q (.bool (!inB bs x)) s) : wpAny (model prog w) A (compareOp .NotIn (.bytes x u) (.ref l)) Q E s :=
  notIn_tuple (eqOf x) (fun y hy => bytes_gives hb y (by simpa using hy)) hl (by rw [List.any_toArray, bytes_any hb]; exact h)
theorem in_list_bytes (hl : s.heap.get? l = some { cls := .type "list", data := .seq vs.toArray n }) (hb : BytesAre vs bs) (h : Q (.bool (inB bs x)) s) : wpAny (model prog w) A (compareOp .In (.bytes x u) (.ref l)) Q E s :=
  in_list (eqOf x) (fun y hy => bytes_gives hb y (by simpa using hy)) hl (by rw [List.any_toArray, bytes_any hb]; exact h)
theorem in_tup_K (N : News h₀ L s.heap news) (hm : (l, ({ cls := .type "tuple", data := .seq vs.toArray n } : Obj)) ∈ news) (hb : BytesAre vs bs) (h : Q (.bool (inB bs x)) s) : wpAny (model prog w) A (compareOp .In (.bytes x u) (.ref l)) Q E s :=
  in_tup_bytes (N _ hm).1 hb h
theorem notin_tup_K (N : News h₀ L s.heap news) (hm : (l, ({ cls := .type "tuple", data := .seq vs.toArray n } : Obj)) ∈ news) (hb : BytesAre vs bs) (h : Q (.bool (!inB bs x)) s) : wpAny (model prog w) A (compareOp .NotIn (.bytes x u) (.ref l)) Q E s :=
  notin_tup_bytes (N _ hm).1 hb h
theorem eq_bytes_K {b c : Array UInt8} {t : Tok} (h : Q (.bool (eqB b c)) s) : wpAny (model prog w) A (compareOp .Eq (.bytes b t) (.bytes c u)) Q E s :=
  eq_bytes (by rw [toList_eq]; exact h)
end
end Mine
namespace Mine
/-- a display of written ints | bytes: one step -/
inductive ConstI : List PySem.Expr → List Int → Prop
  | nil : ConstI [] []
  | cons {i k p es ns} : ConstI es ns → ConstI (.Constant (.int i) k p :: es) (i :: ns)
inductive ConstB : List PySem.Expr → List (Array UInt8) → Prop
  | nil : ConstB [] []
  | cons {b k p es ns} : ConstB es ns → ConstB (.Constant (.bytes b) k p :: es) (b.toArray :: ns)
theorem u2 {un a k b c : Nat} (h : un + a < c) (e : k + b ≤ a) : un + k + b < c := Nat.lt_of_le_of_lt (by rw [Nat.add_assoc]; exact Nat.add_le_add_left e un) h
theorem u1 {un a b c : Nat} (h : un + a < c) (e : b ≤ a) : un + b < c := Nat.lt_of_le_of_lt (Nat.add_le_add_left e un) h
theorem u0 {un a c : Nat} (h : un + a < c) : un < c := Nat.lt_of_le_of_lt (Nat.le_add_right un a) h
theorem allNe {d : Nat} {l : List (Addr × Obj)} (h : AllLt d l) : ∀ p ∈ l, p.1 ≠ d := fun p hp => Nat.ne_of_lt (ktn_ltOf h p hp)
section
variable {prog : Program} {w : World} {A : Around} {E : Value → Shared → Prop} {s : Shared} {h₀ : Heap} {L : Addr} {m : Str → Option Value} {news : List (Addr × Obj)} {env : Env} {pos : Pos} {kk : Nat}
theorem spliced_ints {es : List PySem.Expr} {ns : List Int} (hc : ConstI es ns) : ∀ {s : Shared} {Q : List Value → Shared → Prop}, (∀ vs tk, vs.length = ns.length → IntsAre vs ns → Q vs { s with toks := tk }) →
    wpAny (model prog w) A (spliced (backTo pos (starEach es env))) Q E s := by
  induction hc with
  | nil => exact fun h => spliced_none (h [] _ rfl .nil)
  | cons hc ih => exact fun h => spliced_more (wpAny_Constant_int (ih fun vs tk hl hi => h (_ :: vs) tk (congrArg Nat.succ hl) (.cons _ _ hi)))
theorem spliced_bytes {es : List PySem.Expr} {ns : List (Array UInt8)} (hc : ConstB es ns) : ∀ {s : Shared} {Q : List Value → Shared → Prop}, (∀ vs tk, vs.length = ns.length → BytesAre vs ns → Q vs { s with toks := tk }) →
    wpAny (model prog w) A (spliced (backTo pos (starEach es env))) Q E s := by
  induction hc with
  | nil => exact fun h => spliced_none (h [] _ rfl .nil)
  | cons hc ih => exact fun h => spliced_more (Constant_bytes (ih fun vs tk hl hi => h (_ :: vs) tk (congrArg Nat.succ hl) (.cons _ _ hi)))
theorem list_intsK {es : List PySem.Expr} {ns : List Int} {Q : Value → Shared → Prop} (F : Fr h₀ L s.heap m) (N : News h₀ L s.heap news) (hc : ConstI es ns) (hn : ns.length ≤ 1000)
    (h : ∀ l h' tk vs, Fr h₀ L h' m → News h₀ L h' ((l, listOf vs.toArray 0) :: news) → (∀ p ∈ news, p.1 < l) → vs.length = ns.length → IntsAre vs ns → Q (.ref l) { s with heap := h', toks := tk }) :
    wpAny (model prog w) A (eval (.List es pos) env) Q E s :=
  List_ (spliced_ints hc fun vs tk hl hi => newList_K F N (fun l h' F' N' hlt => h l h' tk vs F' N' hlt hl hi) (by rw [hl, sizeLine_eq]; omega))
theorem list_bytesKK {es : List PySem.Expr} {ns : List (Array UInt8)} {Q : Value → Shared → Prop} (F : Fr h₀ L s.heap m) (N : News h₀ L s.heap news) (hc : ConstB es ns) (hn : ns.length ≤ 1000)
    (h : ∀ l h' tk vs, Fr h₀ L h' m → News h₀ L h' ((l, listOf vs.toArray 0) :: news) → (∀ p ∈ news, p.1 < l) → vs.length = ns.length → BytesAre vs ns → Q (.ref l) { s with heap := h', toks := tk }) :
    wpAny (model prog w) A (eval (.List es pos) env) Q E s :=
  List_ (spliced_bytes hc fun vs tk hl hi => newList_K F N (fun l h' F' N' hlt => h l h' tk vs F' N' hlt hl hi) (by rw [hl, sizeLine_eq]; omega))
theorem tup_bytesK {es : List PySem.Expr} {ns : List (Array UInt8)} {Q : Value → Shared → Prop} (F : Fr h₀ L s.heap m) (N : News h₀ L s.heap news) (hc : ConstB es ns) (hn : ns.length ≤ 1000)
    (h : ∀ l h' tk vs, Fr h₀ L h' m → News h₀ L h' ((l, ({ cls := .type "tuple", data := .seq vs.toArray 0 } : Obj)) :: news) → (∀ p ∈ news, p.1 < l) → BytesAre vs ns → Q (.ref l) { s with heap := h', toks := tk }) :
    wpAny (model prog w) A (eval (.Tuple es kk pos) env) Q E s :=
  Tuple_ (spliced_bytes hc fun vs tk hl hi => newTuple_N F N (fun h' F' N' => h _ h' tk vs F' N' (fun p hp => Heap.lt_size (N p hp).1) hi) (by rw [hl, sizeLine_eq]; omega))
theorem tup_inK {es : List PySem.Expr} {ns : List (Array UInt8)} {x : Array UInt8} {u : Tok} {Q : Value → Shared → Prop} (F : Fr h₀ L s.heap m) (N : News h₀ L s.heap news) (hc : ConstB es ns) (hn : ns.length ≤ 1000)
    (h : ∀ h' tk, Fr h₀ L h' m → News h₀ L h' news → Q (.bool (inB ns x)) { s with heap := h', toks := tk }) :
    wpAny (model prog w) A (eval (.Tuple es kk pos) env) (fun b s₂ => wpAny (model prog w) A (compareOp .In (.bytes x u) b) Q E s₂) E s :=
  tup_bytesK F N hc hn fun _ h' tk _ F' N' _ hi => in_tup_K N' (.head _) hi (h h' tk F' fun p hp => N' p (.tail _ hp))
theorem tup_notinK {es : List PySem.Expr} {ns : List (Array UInt8)} {x : Array UInt8} {u : Tok} {Q : Value → Shared → Prop} (F : Fr h₀ L s.heap m) (N : News h₀ L s.heap news) (hc : ConstB es ns) (hn : ns.length ≤ 1000)
    (h : ∀ h' tk, Fr h₀ L h' m → News h₀ L h' news → Q (.bool (!inB ns x)) { s with heap := h', toks := tk }) :
    wpAny (model prog w) A (eval (.Tuple es kk pos) env) (fun b s₂ => wpAny (model prog w) A (compareOp .NotIn (.bytes x u) b) Q E s₂) E s :=
  tup_bytesK F N hc hn fun _ h' tk _ F' N' _ hi => notin_tup_K N' (.head _) hi (h h' tk F' fun p hp => N' p (.tail _ hp))
theorem tup_notinQ {es : List PySem.Expr} {ns : List (Array UInt8)} {x : Array UInt8} {u : Tok} {b : Bool} {Q : Value → Shared → Prop} (F : Fr h₀ L s.heap m) (N : News h₀ L s.heap news) (hc : ConstB es ns) (hn : ns.length ≤ 1000) (hq : inB ns x = b)
    (h : ∀ h' tk, Fr h₀ L h' m → News h₀ L h' news → Q (.bool (!b)) { s with heap := h', toks := tk }) :
    wpAny (model prog w) A (eval (.Tuple es kk pos) env) (fun b s₂ => wpAny (model prog w) A (compareOp .NotIn (.bytes x u) b) Q E s₂) E s :=
  tup_notinK F N hc hn fun h' tk F' N' => by rw [hq]; exact h h' tk F' N'
end
end Mine
namespace Mine
/-- lists of bytes at a place that is not written -/
theorem BytesAre.setB {x : Array UInt8} {u : Tok} : ∀ {vs : List Value} {ns : List (Array UInt8)}, BytesAre vs ns → ∀ j : Nat, BytesAre (vs.set j (.bytes x u)) (ns.set j x)
  | _, _, .nil, _ => .nil
  | _, _, .cons _ _ h, 0 => .cons x u h
  | _, _, .cons i t h, j + 1 => .cons i t (BytesAre.setB h j)
theorem BytesAre.splice {x : Array UInt8} {u : Tok} : ∀ {vs : List Value} {ns : List (Array UInt8)}, BytesAre vs ns → ∀ j : Nat, j < ns.length → BytesAre ((vs.take j ++ [.bytes x u]) ++ vs.drop (j + 1)) (ns.set j x)
  | _, _, .nil, _, h => absurd h (Nat.not_lt_zero _)
  | _, _, .cons _ _ h, 0, _ => .cons x u h
  | _, _, .cons i t h, j + 1, hj => .cons i t (BytesAre.splice h j (Nat.lt_of_succ_lt_succ hj))
theorem clampN (a b : Nat) : max (0 : Int) (min (a : Int) (b : Int)) = ((min a b : Nat) : Int) := by
  rcases Nat.le_total a b with h | h
  · rw [Nat.min_eq_left h, Int.min_eq_left (Int.ofNat_le.mpr h), Int.max_eq_right (Int.natCast_nonneg a)]
  · rw [Nat.min_eq_right h, Int.min_eq_right (Int.ofNat_le.mpr h), Int.max_eq_right (Int.natCast_nonneg b)]
theorem pick_upto {vs : List Value} {y : Int} (h : 0 ≤ y) : (slicePick vs.toArray none (some y) none).toList = vs.take y.toNat := by
  obtain ⟨n, rfl⟩ := Int.eq_ofNat_of_zero_le h
  have e : sliceBounds none (some (n : Int)) none vs.toArray.size = (((0 : Nat) : Int), ((min n vs.toArray.size : Nat) : Int), 1) := by
    simp only [sliceBounds, Option.getD_none, show (1 : Int) > 0 by decide, if_true, if_neg (Int.not_lt.mpr h), clampN]
    rfl
  rw [kmk_pick_nat _ e]
  show (vs.drop 0).take (min n vs.toArray.size - 0) = _
  rw [List.drop_zero, Nat.sub_zero, List.size_toArray, kmk_take_min, Int.toNat_natCast]
theorem pick_from {vs : List Value} {x : Int} (h : 0 ≤ x) : (slicePick vs.toArray (some x) none none).toList = vs.drop x.toNat := by
  obtain ⟨n, rfl⟩ := Int.eq_ofNat_of_zero_le h
  have e : sliceBounds (some (n : Int)) none none vs.toArray.size = (((min n vs.toArray.size : Nat) : Int), ((vs.toArray.size : Nat) : Int), 1) := by
    simp only [sliceBounds, Option.getD_none, show (1 : Int) > 0 by decide, if_true, if_neg (Int.not_lt.mpr h), clampN]
  rw [kmk_pick_nat _ e]
  show (vs.drop (min n vs.toArray.size)).take (vs.toArray.size - min n vs.toArray.size) = _
  rw [List.size_toArray, kmk_drop_min, List.take_of_length_le (by rw [List.length_drop]; exact Nat.sub_le_sub_left (Nat.min_le_left _ _) _), Int.toNat_natCast]
theorem pick_from1 {vs : List Value} {p : Int} (h : 0 ≤ p) : (slicePick vs.toArray (some (p + 1)) none none).toList = vs.drop (p.toNat + 1) := by
  obtain ⟨n, rfl⟩ := Int.eq_ofNat_of_zero_le h
  rw [pick_from (x := (n : Int) + 1) (Int.natCast_nonneg (n + 1)), Int.toNat_natCast]
  rfl
theorem splice_room1 {vs : List Value} (h : vs.length = 4) (j : Nat) (x : Value) : (vs.take j).length + [x].length ≤ 1000 := by
  exact Nat.le_trans (Nat.add_le_add_right (List.length_take_le' j vs) 1) (by rw [h]; decide)
theorem splice_room2 {vs : List Value} (h : vs.length = 4) (j k : Nat) (x : Value) : (vs.take j ++ [x]).length + (vs.drop k).length ≤ 1000 := by
  rw [List.length_append, List.length_drop]
  exact Nat.le_trans (Nat.add_le_add (Nat.add_le_add_right (List.length_take_le' j vs) 1) (Nat.sub_le _ _)) (by rw [h]; decide)
section
variable {prog : Program} {w : World} {A : Around} {E : Value → Shared → Prop} {s : Shared} {h₀ : Heap} {L D : Addr} {m : Str → Option Value} {news : List (Addr × Obj)} {g : Obj → List (Addr × Obj)} {vs : List Value} {ns : List (Array UInt8)} {n : Nat} {k : Int} {x : Array UInt8} {t u : Tok}
theorem bytes_setK {Q : Unit → Shared → Prop} (F : Fr h₀ L s.heap m) (N : News h₀ L s.heap news) (U : UpdF D (listOf vs.toArray n) news g) (hb : BytesAre vs ns) (h0 : 0 ≤ k) (h1 : k < ns.length) (hfit : k < 2 ^ 63)
    (h : ∀ h', Fr h₀ L h' m → News h₀ L h' (g (listOf (vs.set k.toNat (.bytes x u)).toArray n)) → BytesAre (vs.set k.toNat (.bytes x u)) (ns.set k.toNat x) → Q () { s with heap := h' }) :
    wpAny (model prog w) A (setItem (.ref D) (.int k t) (.bytes x u)) Q E s := by
  obtain ⟨pre, post, rfl, hg, a, b⟩ := U.split
  have z := N (D, listOf vs.toArray n) (List.mem_append.mpr (.inr (.head _)))
  have hs : vs.toArray.size = ns.length := by rw [List.size_toArray]; exact hb.length
  rw [hg] at h
  refine ki_setAt z.1 h0 hfit (by omega) (h _ (F.change (Heap.SameBut.update ..) z.2.1 z.2.2) (ki_turn _ N a b ?_ ?_) (hb.setB _))
  · show vs.toArray.setIfInBounds k.toNat (.bytes x u) = (vs.set k.toNat (.bytes x u)).toArray
    apply Array.toList_inj.mp
    simp
  · simp
theorem lists_addK {a b n1 n2 : Nat} {us ws : List Value} {Q : Value → Shared → Prop} (F : Fr h₀ L s.heap m) (N : News h₀ L s.heap news) (ha : (a, listOf us.toArray n1) ∈ news) (hb : (b, listOf ws.toArray n2) ∈ news)
    (h : ∀ D h', Fr h₀ L h' m → News h₀ L h' ((D, listOf (us ++ ws).toArray 0) :: news) → (∀ p ∈ news, p.1 < D) → Q (.ref D) { s with heap := h' }) (hz : us.length + ws.length ≤ 1000) : wpAny (model prog w) A (binaryOp .Add (.ref a) (.ref b)) Q E s :=
  add_lists F N (PySem.IsL.isList (n := n1) (N _ ha).1) (PySem.IsL.isList (n := n2) (N _ hb).1) (fun h' F' N' => h _ h' F' N' fun p hp => Heap.lt_size (N p hp).1) (by rw [sizeLine_eq]; omega)
end
end Mine
namespace Mine
section
variable {prog : Program} {w : World} {A : Around} {E : Value → Shared → Prop} {s : Shared} {h₀ : Heap} {L a : Addr} {cd : Value} {name : Str} {scope : Scope} {m : Str → Option Value} {x : Str} {v c : Int} {t : Tok} {k : Nat} {p p2 p3 p4 : Pos} {body orelse : List Stmt} {Q : Flow → Shared → Prop}
theorem if_local {op : CmpOp} {b : Bool} (F : Fr h₀ L s.heap m) (hv : m x = some (.int v t)) (hk : scope.kind = .function) (hl : (envOf name scope L a cd).kindOf x = some .local) (hd : (x == ("__debug__" : Str)) = false) (hm : behindInMarks op (.Constant (.int c) k p2) = false)
    (hc : ∀ {u : Tok} {s : Shared} {Q : Value → Shared → Prop}, Q (.bool b) s → wpAny (model prog w) A (compareOp op (.int v t) (.int c u)) Q E s)
    (h : wpAny (model prog w) A (execs (if b = true then body else orelse) (envOf name scope L a cd)) Q E { s with toks := s.toks + 1 }) :
    wpAny (model prog w) A (exec (.If (.Compare (.Name x p) [op] [.Constant (.int c) k p2] p3) body orelse p4) (envOf name scope L a cd)) Q E s := by
  refine wpAny_If (wpAny_isTrue_Compare1 (hm := hm) (ld F hv (wpAny_Constant_int (hc (wpAny_truthy_bool ?_))) hk hl hd))
  cases b
  · exact h
  · exact h
theorem if_eqT (F : Fr h₀ L s.heap m) (hv : m x = some (.int v t)) (e : v = c) (hk : scope.kind = .function) (hl : (envOf name scope L a cd).kindOf x = some .local) (hd : (x == ("__debug__" : Str)) = false) (hm : behindInMarks .Eq (.Constant (.int c) k p2) = false)
    (h : wpAny (model prog w) A (execs body (envOf name scope L a cd)) Q E { s with toks := s.toks + 1 }) :
    wpAny (model prog w) A (exec (.If (.Compare (.Name x p) [.Eq] [.Constant (.int c) k p2] p3) body orelse p4) (envOf name scope L a cd)) Q E s :=
  if_local (b := true) F hv hk hl hd hm (fun hq => PySem.P.eq_int (by rw [beq_iff_eq.mpr e]; exact hq)) h
theorem if_eqF (F : Fr h₀ L s.heap m) (hv : m x = some (.int v t)) (e : v ≠ c) (hk : scope.kind = .function) (hl : (envOf name scope L a cd).kindOf x = some .local) (hd : (x == ("__debug__" : Str)) = false) (hm : behindInMarks .Eq (.Constant (.int c) k p2) = false)
    (h : wpAny (model prog w) A (execs orelse (envOf name scope L a cd)) Q E { s with toks := s.toks + 1 }) :
    wpAny (model prog w) A (exec (.If (.Compare (.Name x p) [.Eq] [.Constant (.int c) k p2] p3) body orelse p4) (envOf name scope L a cd)) Q E s :=
  if_local (b := false) F hv hk hl hd hm (fun hq => PySem.P.eq_int (by rw [beq_eq_false_iff_ne.mpr e]; exact hq)) h
theorem if_ltT (F : Fr h₀ L s.heap m) (hv : m x = some (.int v t)) (e : v < c) (hk : scope.kind = .function) (hl : (envOf name scope L a cd).kindOf x = some .local) (hd : (x == ("__debug__" : Str)) = false) (hm : behindInMarks .Lt (.Constant (.int c) k p2) = false)
    (h : wpAny (model prog w) A (execs body (envOf name scope L a cd)) Q E { s with toks := s.toks + 1 }) :
    wpAny (model prog w) A (exec (.If (.Compare (.Name x p) [.Lt] [.Constant (.int c) k p2] p3) body orelse p4) (envOf name scope L a cd)) Q E s :=
  if_local (b := true) F hv hk hl hd hm (fun hq => PySem.P.lt_int (by rw [decide_eq_true e]; exact hq)) h
theorem if_ltF (F : Fr h₀ L s.heap m) (hv : m x = some (.int v t)) (e : ¬ v < c) (hk : scope.kind = .function) (hl : (envOf name scope L a cd).kindOf x = some .local) (hd : (x == ("__debug__" : Str)) = false) (hm : behindInMarks .Lt (.Constant (.int c) k p2) = false)
    (h : wpAny (model prog w) A (execs orelse (envOf name scope L a cd)) Q E { s with toks := s.toks + 1 }) :
    wpAny (model prog w) A (exec (.If (.Compare (.Name x p) [.Lt] [.Constant (.int c) k p2] p3) body orelse p4) (envOf name scope L a cd)) Q E s :=
  if_local (b := false) F hv hk hl hd hm (fun hq => PySem.P.lt_int (by rw [decide_eq_false e]; exact hq)) h
theorem if_andF {y : Str} {q d : Int} {t2 : Tok} {k2 : Nat} {p5 p6 p7 p8 : Pos} (F : Fr h₀ L s.heap m) (hv : m x = some (.int v t)) (hw : m y = some (.int q t2)) (e : ¬ (v = c ∧ q = d)) (hk : scope.kind = .function)
    (hl : (envOf name scope L a cd).kindOf x = some .local) (hl2 : (envOf name scope L a cd).kindOf y = some .local) (hd : (x == ("__debug__" : Str)) = false) (hd2 : (y == ("__debug__" : Str)) = false)
    (hm : behindInMarks .Eq (.Constant (.int c) k p2) = false) (hm2 : behindInMarks .Eq (.Constant (.int d) k2 p6) = false)
    (h : ∀ tk, wpAny (model prog w) A (execs orelse (envOf name scope L a cd)) Q E { s with toks := tk }) :
    wpAny (model prog w) A (exec (.If (.BoolOp .And [.Compare (.Name x p) [.Eq] [.Constant (.int c) k p2] p3, .Compare (.Name y p5) [.Eq] [.Constant (.int d) k2 p6] p7] p8) body orelse p4) (envOf name scope L a cd)) Q E s := by
  refine wpAny_If (isTrue_and (wpAny_isTrue_Compare1 (hm := hm) (ld F hv (wpAny_Constant_int (PySem.P.eq_int (wpAny_truthy_bool ?_))) hk hl hd)))
  by_cases hvc : v = c
  · rw [if_pos (beq_iff_eq.mpr hvc)]
    refine isTrue_and (wpAny_isTrue_Compare1 (hm := hm2) (ld F hw (wpAny_Constant_int (PySem.P.eq_int (wpAny_truthy_bool ?_))) hk hl2 hd2))
    have hq : (q == d) = false := beq_eq_false_iff_ne.mpr fun hqd => e ⟨hvc, hqd⟩
    rw [hq]
    exact h _
  · have hq : (v == c) = false := beq_eq_false_iff_ne.mpr hvc
    rw [hq]
    exact h _
end
end Mine
namespace Mine
open PySem.Spec
section
variable {K : Type} [DecidableEq K]
theorem valueAt_cons (p : K × Value) (l : List (K × Value)) (x : K) : valueAt (p :: l) x = if p.1 = x then some p.2 else valueAt l x := by
  unfold valueAt
  rw [List.find?_cons]
  by_cases h : p.1 = x
  · simp [h]
  · simp [h]
theorem valueAt_map (k : K) (v : Value) (x : K) : ∀ l : List (K × Value), valueAt (l.map fun kv => if kv.1 = k then (kv.1, v) else kv) x = if x = k then (valueAt l x).map (fun _ => v) else valueAt l x
  | [] => by simp [valueAt]
  | p :: l => by
    rw [List.map_cons, valueAt_cons, valueAt_map k v x l, valueAt_cons]
    by_cases h : p.1 = k
    · subst h
      by_cases hx : x = p.1
      · subst hx; simp
      · have hx' : ¬ p.1 = x := fun e => hx e.symm
        simp [hx, hx']
    · by_cases hp : p.1 = x
      · subst hp; simp [h]
      · simp [h, hp]
theorem valueAt_app (k : K) (v : Value) (x : K) : ∀ l : List (K × Value), l.any (fun kv => kv.1 = k) = false → valueAt (l ++ [(k, v)]) x = if x = k then some v else valueAt l x
  | [], _ => by
    rw [List.nil_append, valueAt_cons]
    by_cases h : x = k
    · subst h; simp
    · have h' : ¬ k = x := fun e => h e.symm
      simp [h, h']
  | p :: l, ha => by
    have ha' : (decide (p.1 = k) || l.any fun kv => kv.1 = k) = false := ha
    have h1 : ¬ p.1 = k := by simpa using (Bool.or_eq_false_iff.mp ha').1
    rw [List.cons_append, valueAt_cons, valueAt_app k v x l (Bool.or_eq_false_iff.mp ha').2, valueAt_cons]
    by_cases hp : p.1 = x
    · subst hp; simp [h1]
    · simp [hp]
theorem valueAt_some_of_any (k : K) : ∀ l : List (K × Value), l.any (fun kv => kv.1 = k) = true → ∃ v, valueAt l k = some v
  | [], h => by simp at h
  | p :: l, h => by
    rw [valueAt_cons]
    by_cases hp : p.1 = k
    · exact ⟨p.2, by simp [hp]⟩
    · have h' : (decide (p.1 = k) || l.any fun kv => kv.1 = k) = true := h
      obtain ⟨v, e⟩ := valueAt_some_of_any k l (by simpa [hp] using h')
      exact ⟨v, by simp [hp, e]⟩
theorem valueAt_stored (l : List (K × Value)) (k : K) (v : Value) (x : K) : valueAt (stored l k v) x = if x = k then some v else valueAt l x := by
  unfold stored
  by_cases h : l.any (fun kv => kv.1 = k) = true
  · rw [if_pos h, valueAt_map]
    by_cases hx : x = k
    · subst hx
      obtain ⟨u, e⟩ := valueAt_some_of_any x l h
      simp [e]
    · simp [hx]
  · rw [if_neg h]
    exact valueAt_app k v x l (Bool.eq_false_iff.mpr h)
theorem stored_len (l : List (K × Value)) (k : K) (v : Value) : (stored l k v).length ≤ l.length + 1 := by
  unfold stored
  split
  · rw [List.length_map]; omega
  · rw [List.length_append]; simp
end
theorem empty_kind {prog : Program} {w : World} {K K' : Type} [DecidableEq K] [DecidableEq K'] {knd : KeyKind prog w K} {knd' : KeyKind prog w K'} {o : Obj} (hd : o.IsDictOf knd' []) : o.IsDictOf knd [] := by
  obtain ⟨es, ep, hc, hdat, _, hp, _⟩ := hd
  have he : es.toList = [] := List.length_eq_zero_iff.mp hp.length
  have he' : es = #[] := Array.toList_inj.mp he
  subst he'
  exact ⟨#[], ep, hc, hdat, fun e h => absurd h (by simp), .nil, by simp⟩
noncomputable def TurnPost (h₀ : Heap) (L I : Addr) (own : List (Addr × Obj)) (Inv : (Str → Option Value) → List (Addr × Obj) → Prop) (s : Shared) (Q : Flow → Shared → Prop) (f : Flow) (s₂ : Shared) : Prop :=
  (∃ v, f = .ret v ∧ Q (.ret v) s₂) ∨ f = .next ∧ ∃ h' tk m' news', s₂ = { s with heap := h', toks := tk } ∧ Fr h₀ L h' m' ∧ News h₀ L h' (news' ++ own) ∧ (∀ p ∈ news', p.1 ≠ I) ∧ Inv m' news'
section
variable {prog : Program} {w : World} {A : Around} {E : Value → Shared → Prop} {s : Shared} {env : Env} {h₀ : Heap} {L : Addr} {m : Str → Option Value} {news : List (Addr × Obj)} {x : Str} {body : List Stmt} {Q : Flow → Shared → Prop}
theorem TurnPost.next {I : Addr} {own news' : List (Addr × Obj)} {Inv : (Str → Option Value) → List (Addr × Obj) → Prop} {h' : Heap} {tk : Tok} {m' : Str → Option Value}
    (F : Fr h₀ L h' m') (N : News h₀ L h' (news' ++ own)) (hI : ∀ p ∈ news', p.1 ≠ I) (h : Inv m' news') : TurnPost h₀ L I own Inv s Q .next { s with heap := h', toks := tk } :=
  .inr ⟨rfl, h', tk, m', news', rfl, F, N, hI, h⟩
theorem TurnPost.ret {I : Addr} {own : List (Addr × Obj)} {Inv : (Str → Option Value) → List (Addr × Obj) → Prop} {v : Value} {s₂ : Shared} (h : Q (.ret v) s₂) : TurnPost h₀ L I own Inv s Q (.ret v) s₂ := .inl ⟨v, rfl, h⟩
theorem loop_at {I ax : Nat} {wr fp : List Addr} {n : Nat} {P : Nat → Value → Prop} {St : Nat → Heap → Prop} (W : Walks prog w A I fp [I] n P St) (Inv : Nat → (Str → Option Value) → List (Addr × Obj) → Prop)
    (hLf : env.locals ∉ fp) (hI : h₀.get? I = none) (hIf : I ∈ fp) (hSI : ∀ i h, St i h → ∃ o, h.get? I = some o) (hn : ∀ p ∈ news, p.1 ≠ I) (hst : St 0 s.heap) (F : Fr h₀ env.locals s.heap m) (N : News h₀ env.locals s.heap news) (h0 : Inv 0 m news)
    (turn : ∀ i v m₁ news₁ h tk own, i < n → P i v → Inv i m₁ news₁ → (∀ p ∈ news₁, p.1 ≠ I) → (∃ o, (I, o) ∈ own) → (∀ p ∈ own, p.1 ∈ fp) →
      Fr h₀ env.locals h (fun y => if y = x then some v else m₁ y) → News h₀ env.locals h (news₁ ++ own) →
      wpAny (model prog w) A (execs body env) (TurnPost h₀ env.locals I own (Inv (i + 1)) s Q) E { s with heap := h, toks := tk })
    (done : ∀ m₁ news₁ h tk, Inv n m₁ news₁ → Fr h₀ env.locals h m₁ → News h₀ env.locals h news₁ → Q .next { s with heap := h, toks := tk }) :
    LoopAtV prog w A h₀ env x body Q E (.ref I) s := by
  refine ⟨I, fp, [I], n, P, St, m, news, Inv, rfl, W, hLf, ?_, ?_, hst, F, N, h0, ?_, ?_⟩
  · intro b hb
    rw [List.mem_singleton.mp hb]
    exact hI
  · intro p hp hq
    exact hn p hp (List.mem_singleton.mp hq)
  · rintro i v m₁ news₁ s₁ own ⟨h, tk, rfl⟩ hi hP hJ hoff hown hget hall st F₁ N₁
    obtain ⟨o, ho⟩ := hSI _ _ st
    have N₂ : News h₀ env.locals h (news₁ ++ own) := fun p hp => N₁ p (by
      rcases List.mem_append.mp hp with q | q
      · exact List.mem_append.mpr (.inr q)
      · exact List.mem_append.mpr (.inl q))
    refine wpAny_mono (turn i v m₁ news₁ h tk own hi hP hJ (fun p hp e => hoff p hp (List.mem_singleton.mpr e)) ⟨o, hall I hIf hI o ho⟩ hown F₁ N₂) (fun f s₂ h₂ => ?_) fun _ _ e => e
    rcases h₂ with ⟨v, rfl, hv⟩ | ⟨rfl, h', tk', m', news', rfl, F', N', hI', hJ'⟩
    · exact hv
    · exact LoopStepV.next (.intro F' (fun p hp => N' p (by
        rcases List.mem_append.mp hp with q | q
        · exact List.mem_append.mpr (.inr q)
        · exact List.mem_append.mpr (.inl q))) (fun p hp e => hI' p hp (List.mem_singleton.mp e)) hJ')
  · intro h' tk m' news' F' N' _ hJ
    exact done m' news' h' tk hJ F' N'
theorem loop_tup {t : Nat} {items : Array Value} (Inv : Nat → (Str → Option Value) → List (Addr × Obj) → Prop)
    (hL : env.locals = L) (hh : A.handled = none) (ht : IsTup s.heap t items) (F : Fr h₀ L s.heap m) (N : News h₀ L s.heap news) (htL : t ≠ L) (h0 : Inv 0 m news)
    (turn : ∀ i v m₁ news₁ h tk own (I : Nat), items[i]? = some v → Inv i m₁ news₁ → (∀ p ∈ news₁, p.1 ≠ I) → (∃ o, (I, o) ∈ own) → (∀ p ∈ own, p.1 = I ∨ p.1 = t) →
      Fr h₀ L h (fun y => if y = x then some v else m₁ y) → News h₀ L h (news₁ ++ own) →
      wpAny (model prog w) A (execs body env) (TurnPost h₀ L I own (Inv (i + 1)) s Q) E { s with heap := h, toks := tk })
    (done : ∀ m₁ news₁ h tk, Inv items.size m₁ news₁ → Fr h₀ L h m₁ → News h₀ L h news₁ → Q .next { s with heap := h, toks := tk }) :
    wpAny (model prog w) A (pyIter (.ref t)) (fun it s₂ => LoopAtV prog w A h₀ env x body Q E it s₂) E s := by
  subst hL
  have ht' : s.heap.IsTuple t items := ht
  have hlt : t < s.heap.objs.size := by obtain ⟨_, e, _⟩ := ht; exact Heap.lt_size e
  refine wpAny_pyIter_tuple ht' ?_
  refine loop_at (ax := t) (wr := []) (news := news) (m := m) (Walks.tuple hh _ t (Nat.ne_of_lt hlt) items) Inv ?_ (Heap.get?_none_of_le (Nat.le_of_lt (Nat.lt_of_le_of_lt F.above F.ns.lt))) (by simp) (fun i h st => ?_) (fun p hp => Nat.ne_of_lt (Heap.lt_size (N p hp).1))
    ⟨⟨_, Heap.get?_push_size _ rfl, rfl, rfl⟩, ht'.at fun o e => Heap.get?_push_of_some _ e⟩ (F.push _) (fun p hp => ⟨Heap.get?_push_of_some _ (N p hp).1, (N p hp).2⟩) h0
    (fun i v m₁ news₁ h tk own _ hP hJ a b e c d => turn i v m₁ news₁ h tk own _ hP hJ a b (fun p hp => by have := e p hp; simpa using this) c d) done
  · intro hm
    rcases List.mem_cons.mp hm with e | hm
    · exact absurd F.ns.lt (e ▸ Nat.lt_irrefl _)
    · exact htL (List.mem_singleton.mp hm).symm
  · obtain ⟨⟨o, ho, _⟩, _⟩ := st
    exact ⟨o, ho⟩
theorem loop_rng {r : Nat} {a₀ b₀ : Int} {t₀ u₀ v₀ : Tok} {n : Nat} (Inv : Nat → (Str → Option Value) → List (Addr × Obj) → Prop)
    (hL : env.locals = L) (hh : A.handled = none) (hr : IsRange s.heap r a₀ b₀ 1 t₀ u₀ v₀) (hsmall : Builtin.Range.small a₀ b₀ 1 = true) (hn : Builtin.Range.rangeSize a₀ b₀ 1 = (n : Int)) (F : Fr h₀ L s.heap m) (N : News h₀ L s.heap news) (h0 : Inv 0 m news)
    (turn : ∀ i v m₁ news₁ h tk own (I : Nat), i < n → Inv i m₁ news₁ → (∀ p ∈ news₁, p.1 ≠ I) → (∃ o, (I, o) ∈ own) → (∀ p ∈ own, p.1 = I) →
      Fr h₀ L h (fun y => if y = x then some v else m₁ y) → News h₀ L h (news₁ ++ own) →
      wpAny (model prog w) A (execs body env) (TurnPost h₀ L I own (Inv (i + 1)) s Q) E { s with heap := h, toks := tk })
    (done : ∀ m₁ news₁ h tk, Inv n m₁ news₁ → Fr h₀ L h m₁ → News h₀ L h news₁ → Q .next { s with heap := h, toks := tk }) :
    wpAny (model prog w) A (pyIter (.ref r)) (fun it s₂ => LoopAtV prog w A h₀ env x body Q E it s₂) E s := by
  subst hL
  refine wpAny_pyIter_range hr hsmall ?_
  refine loop_at (ax := 0) (wr := []) (news := news) (m := m) (Walks.range hh s.heap.objs.size a₀ 1 n) Inv ?_ (Heap.get?_none_of_le (Nat.le_of_lt (Nat.lt_of_le_of_lt F.above F.ns.lt))) (by simp) (fun i h st => ⟨_, st⟩) (fun p hp => Nat.ne_of_lt (Heap.lt_size (N p hp).1))
    (by show IsRangeIter _ _ _ _ _; rw [hn]; simpa using Heap.get?_push_size _ rfl) (F.push _) (fun p hp => ⟨Heap.get?_push_of_some _ (N p hp).1, (N p hp).2⟩) h0
    (fun i v m₁ news₁ h tk own hi _ hJ a b e c d => turn i v m₁ news₁ h tk own _ hi hJ a b (fun p hp => by have := e p hp; simpa using this) c d) done
  intro hm
  exact absurd F.ns.lt ((List.mem_singleton.mp hm) ▸ Nat.lt_irrefl _)
end
end Mine
namespace Mine
theorem br_no_bytes : typeLookup (.type "range") "__bytes__" = pure none := by rw [typeLookup_type, builtinLookup_eq_fast]; kernel_rfl
theorem br_no_index : typeLookup (.type "range") "__index__" = pure none := by rw [typeLookup_type, builtinLookup_eq_fast]; kernel_rfl
theorem br_no_buffer : typeLookup (.type "range") "__buffer__" = pure none := by rw [typeLookup_type, builtinLookup_eq_fast]; kernel_rfl
section
variable {prog : Program} {w : World} {A : Around} {E : Value → Shared → Prop} {s : Shared}
theorem rk_get {a : Int} {n i : Nat} (h : i < n) : (rangeKs a n)[i]? = some (a + (i : Int)) := by simp [rangeKs, h]
theorem br_loop {R : Result → Shared → Prop} {I S : Addr} {a : Int} {n : Nat} (hh : A.handled = none) (h0 : 0 ≤ a) (h1 : a + n ≤ 256) (hIS : I ≠ S) :
    ∀ (k i : Nat) (s : Shared), n - i = k → i ≤ n → IsRangeIter s.heap I (a + (i : Nat)) ((n : Int) - (i : Nat)) 1 → s.heap.get? S = some { cls := .type "bytearray", data := .bytearray (byteArr ((rangeKs a n).take i)) } →
      (∀ h' t k', (∀ b o, b ≠ I → b ≠ S → s.heap.get? b = some o → h'.get? b = some o) → R (.ok (.ret (.bytes (byteArr (rangeKs a n)) t))) { s with heap := h', toks := k' }) →
      codeAny (model prog w) A (.builtin "bytes.__new__.loop" ⟨[.type "bytes", .ref I, .ref S], []⟩) R s := by
  have hsz : (rangeKs a n).length ≤ sizeLine := by rw [rangeKs_length, sizeLine_eq]; omega
  intro k
  induction k with
  | zero =>
    intro i s hk hle hit hS hR
    have hin : i = n := by omega
    subst hin
    refine codeAny_builtin F.bm_entry_loop ?_
    rw [Around.under_plainId F.bm_plain_loop _]
    show wpAny _ A.in1 (pyNext (.ref I) >>= _) _ _ s
    refine wpAny_bind (wpAny_pyNext_range_end hh hit (by omega) fun h' he => ?_)
    have hS' : h'.get? S = some { cls := .type "bytearray", data := .bytearray (byteArr ((rangeKs a i).take i)) } := he S _ (Ne.symm hIS) hS
    rw [List.take_of_length_le (by rw [rangeKs_length]; omega)] at hS'
    refine wpAny_bind ?_
    unfold Builtin.Bytes.payload Builtin.Bytes.payload?
    refine wpAny_bind (wpAny_bind (wpAny_load hS' ?_))
    refine wpAny_pure (wpAny_pure ?_)
    refine wpAny_bind (wpAny_mkBytes ?_ (by rw [byteArr_size]; exact hsz))
    show wpAny _ _ (if (Value.type "bytes" == Value.type "bytes") = true then _ else _) _ _ _
    refine bm_if_true (by decide) ?_
    first
      | exact wpAny_pure (hR h' _ _ fun b o hb _ e => he b o hb e)
      | exact wpAny_bind (wpAny_pure (wpAny_pure (hR h' _ _ fun b o hb _ e => he b o hb e)))
  | succ k ih =>
    intro i s hk hle hit hS hR
    have hlt : i < n := by omega
    refine codeAny_builtin F.bm_entry_loop ?_
    rw [Around.under_plainId F.bm_plain_loop _]
    show wpAny _ A.in1 (pyNext (.ref I) >>= _) _ _ s
    refine wpAny_bind (wpAny_pyNext_range_item hit (by omega) fun h' hit' hs => ?_)
    have hS' : h'.get? S = some { cls := .type "bytearray", data := .bytearray (byteArr ((rangeKs a n).take i)) } := (hs.2 S (Ne.symm hIS)).trans hS
    refine wpAny_bind (wpAny_holding (wpAny_of_eq (rfl : asIndex (.int (a + (i : Nat)) s.toks) = pure (a + (i : Nat))) ?_))
    refine wpAny_bind (wpAny_letGo ?_)
    refine bm_if_false (by simp only [Bool.or_eq_false_iff, decide_eq_false_iff_not]; omega) ?_
    refine wpAny_bind ?_
    show wpAny _ _ (updateBytearray S (·.push (a + (i : Nat)).toNat.toUInt8)) _ _ _
    unfold updateBytearray
    refine wpAny_bind (wpAny_load hS' ?_)
    show wpAny _ _ (update S (Obj.mapBytearray (·.push (a + (i : Nat)).toNat.toUInt8)) >>= fun _ => lookBehind S) _ _ _
    refine wpAny_bind (wpAny_update hS' ?_)
    have hS₂ : (h'.update S (Obj.mapBytearray (·.push (a + (i : Nat)).toNat.toUInt8))).get? S = some { cls := .type "bytearray", data := .bytearray (byteArr ((rangeKs a n).take (i + 1))) } := by
      rw [byteArr_take (rk_get hlt)]
      exact Heap.get?_update_self (Obj.mapBytearray (·.push (a + (i : Nat)).toNat.toUInt8)) hS' rfl
    refine wpAny_lookBehind hS₂ ?_ ?_
    · show (if (byteArr ((rangeKs a n).take (i + 1))).size > sizeLine then some "bytearray:memory" else none) = none
      rw [if_neg]
      rw [byteArr_size, List.length_take]
      omega
    · have e1 : a + (i : Int) + 1 = a + ((i + 1 : Nat) : Int) := by push_cast; omega
      have e2 : (n : Int) - (i : Int) - 1 = (n : Int) - ((i + 1 : Nat) : Int) := by push_cast; omega
      rw [e1, e2] at hit'
      refine wpAny_pure ⟨plainId_quiet F.bm_plain_loop _, ih (i + 1) { s with heap := h'.update S (Obj.mapBytearray (·.push (a + (i : Nat)).toNat.toUInt8)), toks := s.toks + 1 } (by omega) hlt ?_ hS₂ fun h3 t' k' hk3 => ?_⟩
      · exact (Heap.get?_update_other _ _ (Ne.symm hIS)).trans hit'
      · exact hR h3 t' k' fun b o hbI hbS e => hk3 b o hbI hbS ((Heap.get?_update_other _ _ (Ne.symm hbS)).trans (hs.extBut b o hbI e))
theorem br_new {r : Addr} {a b₀ : Int} {t u v : Tok} {n : Nat} {Q : Value → Shared → Prop} (hh : A.handled = none) (hr : IsRange s.heap r a b₀ 1 t u v) (hsmall : Builtin.Range.small a b₀ 1 = true) (hn : Builtin.Range.rangeSize a b₀ 1 = (n : Int)) (h0 : 0 ≤ a) (h1 : a + n ≤ 256)
    (hQ : ∀ h' t k, (∀ b o, s.heap.get? b = some o → h'.get? b = some o) → Q (.bytes (byteArr (rangeKs a n)) t) { s with heap := h', toks := k }) :
    codeAny (model prog w) A (.call (.builtin "bytes.__new__") ⟨[.type "bytes", .ref r], []⟩) (wants Q E) s := by
  refine codeAny_of_tree ?_
  show wpAny _ A.in1 (do checkBuiltinCall "bytes.__new__" ⟨[.type "bytes", .ref r], []⟩; again (.builtin "bytes.__new__" ⟨[.type "bytes", .ref r], []⟩)) _ _ s
  refine wpAny_bind (wpAny_of_eq (F.bm_newCall _) (wpAny_pure ⟨plainId_quiet F.bm_plain _, codeAny_builtin F.bm_entry ?_⟩))
  rw [Around.under_plainId F.bm_plain _]
  have hT : s.TypeIs (.ref r) "range" := ⟨_, hr, rfl⟩
  unfold Builtin.«bytes.__new__»
  refine wpAny_bind (wpAny_of_eq (a := true) rfl ?_)
  refine bm_if_false rfl ?_
  refine wpAny_bind (wpAny_of_eq F.bm_sub ?_)
  refine bm_if_false rfl ?_
  refine wpAny_bind (wpAny_of_eq (F.bm_bind _) ?_)
  refine wpAny_bind (wpAny_of_eq (a := ()) rfl ?_)
  refine wpAny_bind (wpAny_of_eq (a := ()) rfl ?_)
  refine bm_if_false rfl ?_
  refine wpAny_bind (wpAny_specialOf hT br_no_bytes ?_)
  refine wpAny_bind (wpAny_bind ?_)
  show wpAny _ _ (load r >>= _) _ _ _
  refine wpAny_bind (wpAny_load hr ?_)
  refine wpAny_pure (wpAny_pure ?_)
  refine bm_if_false rfl ?_
  refine wpAny_bind (wpAny_specialOf hT br_no_index ?_)
  refine bm_if_true rfl ?_
  first
    | show wpAny _ _ (Builtin.Bytes.buffer? "bytes.__new__" (.ref r) true >>= _) _ _ _
    | (refine wpAny_bind ?_; show wpAny _ _ (Builtin.Bytes.buffer? "bytes.__new__" (.ref r) true >>= _) _ _ _)
  refine wpAny_bind ?_
  unfold Builtin.Bytes.buffer?
  refine wpAny_bind (wpAny_specialOf hT br_no_buffer ?_)
  refine wpAny_bind (wpAny_specialOf hT br_no_buffer ?_)
  refine wpAny_pure ?_
  refine wpAny_bind (wpAny_tryCatch (wpAny_pyIter_range hr hsmall ?_))
  have hr₁ : IsRange (s.heap.push { cls := .type "range_iterator", data := .fields #[rawInt a, rawInt (Builtin.Range.rangeSize a b₀ 1), rawInt 1] }) r a b₀ 1 t u v := Heap.get?_push_of_some _ hr
  have hT₁ : ({ s with heap := s.heap.push { cls := .type "range_iterator", data := .fields #[rawInt a, rawInt (Builtin.Range.rangeSize a b₀ 1), rawInt 1] } } : Shared).TypeIs (.ref r) "range" := ⟨_, hr₁, rfl⟩
  refine wpAny_bind (wpAny_holding ?_)
  unfold Builtin.Bytes.lengthHint
  refine wpAny_bind (wpAny_specialOf hT₁ F.slot_range_len.lookup ?_)
  dsimp only
  rw [show splitId "range.__len__" = some ("range", "__len__") from by decide +kernel]
  dsimp only
  refine wpAny_bind (wpAny_isInstance (b := true) hT₁ (by rw [isSubtype_type]; kernel_rfl) ?_)
  refine bm_if_false rfl ?_
  refine bm_if_false (by decide +kernel) ?_
  refine bm_if_true rfl ?_
  refine wpAny_bind (wpAny_rule ?_)
  refine wpAny_bind (wpAny_attempt (call_len_range hr₁ hn (by omega) ?_))
  refine wpAny_bind (m := asInt? _) (wpAny_pure ?_)
  refine bm_if_false (by
    have htl : Builtin.Bytes.tooLong ((n : Int).toNat) = false := by simp [Builtin.Bytes.tooLong, sizeLine]; omega
    exact htl) ?_
  refine wpAny_pure ?_
  refine wpAny_bind ?_
  unfold Builtin.Bytes.newBytearray
  refine wpAny_newObj_type ?_ (Nat.zero_le _)
  have hsz : (s.heap.push { cls := .type "range_iterator", data := .fields #[rawInt a, rawInt (Builtin.Range.rangeSize a b₀ 1), rawInt 1] }).objs.size = s.heap.objs.size + 1 := Heap.size_push _ _
  have hI : IsRangeIter ((s.heap.push { cls := .type "range_iterator", data := .fields #[rawInt a, rawInt (Builtin.Range.rangeSize a b₀ 1), rawInt 1] }).push { cls := .type "bytearray", data := .bytearray #[] }) s.heap.objs.size (a + (0 : Nat)) ((n : Int) - (0 : Nat)) 1 := by
    show IsRangeIter _ _ _ _ _; rw [hn]; simpa using Heap.get?_push_of_some _ (Heap.get?_push_size _ rfl)
  have main := br_loop (prog := prog) (w := w) (A := A) (R := wants Q E) (I := s.heap.objs.size) (S := (s.heap.push { cls := .type "range_iterator", data := .fields #[rawInt a, rawInt (Builtin.Range.rangeSize a b₀ 1), rawInt 1] }).objs.size) (a := a) (n := n) hh h0 h1 (by rw [hsz]; exact Nat.ne_of_lt (Nat.lt_succ_self _))
    n 0 { s with heap := (s.heap.push { cls := .type "range_iterator", data := .fields #[rawInt a, rawInt (Builtin.Range.rangeSize a b₀ 1), rawInt 1] }).push { cls := .type "bytearray", data := .bytearray #[] }, toks := s.toks + 1 + 1 } rfl (Nat.zero_le _) hI (Heap.get?_push_size _ rfl)
    fun h' t k hk => hQ h' t k fun b o e => hk b o (Nat.ne_of_lt (Heap.lt_size e)) (by rw [hsz]; exact Nat.ne_of_lt (Nat.lt_succ_of_lt (Heap.lt_size e))) (Heap.get?_push_of_some _ (Heap.get?_push_of_some _ e))
  first
    | exact wpAny_pure ⟨plainId_quiet F.bm_plain_loop _, main⟩
    | exact wpAny_pure (wpAny_pure ⟨plainId_quiet F.bm_plain_loop _, main⟩)
theorem bytes_range {r : Addr} {a b₀ : Int} {t u v : Tok} {n : Nat} {Q : Value → Shared → Prop} (hh : A.handled = none) (hr : IsRange s.heap r a b₀ 1 t u v) (hsmall : Builtin.Range.small a b₀ 1 = true) (hn : Builtin.Range.rangeSize a b₀ 1 = (n : Int)) (h0 : 0 ≤ a) (h1 : a + n ≤ 256)
    (hQ : ∀ h' t k, (∀ b o, s.heap.get? b = some o → h'.get? b = some o) → Q (.bytes (byteArr (rangeKs a n)) t) { s with heap := h', toks := k }) : wpAny (model prog w) A (call (.type "bytes") [.ref r]) Q E s := by
  refine callType_codes (Q₁ := fun obj s₁ => s₁.TypeIs obj "bytes" ∧ Q obj s₁) F.bm_called (F.bm_typeCall _) F.entry_object_init
    (br_new hh hr hsmall hn h0 h1 fun h' t k hk => ⟨PySem.W.typeIs_bytes _ _ _, hQ h' t k hk⟩) fun obj s₁ h₁ => ?_
  exact ⟨h₁.1, F.args_object_init_2 obj _, object_init_meets F.bm_called.init.lookup F.bm_called.made (by decide) prog w A.in1 _ s₁ ⟨h₁.1, rfl, h₁.2⟩⟩
theorem bytes_range_K {h₀ : Heap} {L : Addr} {m : Str → Option Value} {news : List (Addr × Obj)} {r : Addr} {a b₀ : Int} {t u v : Tok} {n : Nat} {Q : Value → Shared → Prop} (F : Fr h₀ L s.heap m) (N : News h₀ L s.heap news) (hh : A.handled = none) (hr : IsRange s.heap r a b₀ 1 t u v) (hsmall : Builtin.Range.small a b₀ 1 = true) (hn : Builtin.Range.rangeSize a b₀ 1 = (n : Int)) (h0 : 0 ≤ a) (h1 : a + n ≤ 256)
    (h : ∀ h' t k, Fr h₀ L h' m → News h₀ L h' news → Q (.bytes (byteArr (rangeKs a n)) t) { s with heap := h', toks := k }) : wpAny (model prog w) A (call (.type "bytes") [.ref r]) Q E s :=
  bytes_range hh hr hsmall hn h0 h1 fun h' t' k hk => h h' t' k (F.keptAll hk) (N.grown hk)
end
end Mine
namespace Mine
theorem se_Tuple {a b c rest env} : starEach (.Tuple a b c :: rest) env = (false, eval (.Tuple a b c) env) :: starEach rest env := rfl
theorem se_List {a b rest env} : starEach (.List a b :: rest) env = (false, eval (.List a b) env) :: starEach rest env := rfl
theorem se_Dict {a b c rest env} : starEach (.Dict a b c :: rest) env = (false, eval (.Dict a b c) env) :: starEach rest env := rfl
theorem se_Name {a b rest env} : starEach (.Name a b :: rest) env = (false, eval (.Name a b) env) :: starEach rest env := rfl
theorem se_Call {a b c d rest env} : starEach (.Call a b c d :: rest) env = (false, eval (.Call a b c d) env) :: starEach rest env := rfl
theorem se_Const {a b c rest env} : starEach (.Constant a b c :: rest) env = (false, eval (.Constant a b c) env) :: starEach rest env := rfl
inductive Tl (news : List (Addr × Obj)) : List (Addr × Obj) → List (Addr × Obj) → Prop
  | nil : Tl news news []
  | cons (p : Addr × Obj) {l r} : Tl news l r → Tl news (p :: l) (p :: r)
theorem Tl.app (a news : List (Addr × Obj)) : Tl news (a ++ news) a := by
  induction a with
  | nil => exact .nil
  | cons p a ih => exact .cons p ih
theorem Tl.eq {news l r : List (Addr × Obj)} (h : Tl news l r) : l = r ++ news := by
  induction h with
  | nil => rfl
  | cons p _ ih => rw [ih]; rfl
theorem pack {h₀ h : Heap} {L : Addr} {l RB news : List (Addr × Obj)} (N : News h₀ L h l) (t : Tl news l RB) : News h₀ L h (RB ++ news) := by
  have := t.eq
  subst this
  exact N
noncomputable def Off (RB news : List (Addr × Obj)) : Prop := ∀ p ∈ RB, ∀ q ∈ news, q.1 ≠ p.1
theorem Off.nil {news : List (Addr × Obj)} : Off [] news := fun _ h => nomatch h
theorem Off.cons {a : Addr} {o : Obj} {RB news : List (Addr × Obj)} (h : ∀ q ∈ news, q.1 ≠ a) (r : Off RB news) : Off ((a, o) :: RB) news := by
  intro p' hp
  rcases List.mem_cons.mp hp with rfl | hp
  · exact h
  · exact r p' hp
inductive RowsAre (RB : List (Addr × Obj)) : List Value → List (List (Array UInt8) × Array UInt8 × List Int) → Prop
  | nil : RowsAre RB [] []
  | cons {t ln lc : Nat} {b : Array UInt8} {tb : Tok} {vn vc : List Value} {n1 n2 : Nat} {ns : List (Array UInt8)} {cs : List Int} {rest : List Value} {restL} :
    (t, ({ cls := .type "tuple", data := .seq #[.ref ln, .bytes b tb, .ref lc] } : Obj)) ∈ RB → (ln, listOf vn.toArray n1) ∈ RB → BytesAre vn ns → (lc, listOf vc.toArray n2) ∈ RB → IntsAre vc cs → RowsAre RB rest restL →
    RowsAre RB (.ref t :: rest) ((ns, b, cs) :: restL)
theorem RowsAre.mono {RB RB' : List (Addr × Obj)} (hs : ∀ p ∈ RB, p ∈ RB') {rs L} (h : RowsAre RB rs L) : RowsAre RB' rs L := by
  induction h with
  | nil => exact .nil
  | cons a b c d e _ ih => exact .cons (hs _ a) (hs _ b) c (hs _ d) e ih
end Mine
namespace Mine
open PySem.MeetsSeq PySem.SeqRoads2
theorem slot_bytes_index : Slot "bytes" "index" "bytes.index" :=
  .of (owner := "bytes") (n := "index") (by rw [typeLookup_type, builtinLookup_eq_fast]; kernel_rfl) (by decide +kernel) (by decide +kernel) (by decide +kernel)
    (by first | exact .inl (by decide +kernel) | exact .inr (by decide +kernel)) (by rw [isSubtype_type]; kernel_rfl)
theorem type_bytes_index : typeOf (.builtin "bytes.index") = pure (.type "method_descriptor") := by show builtinType _ = _; rw [builtinType_eq_fast]; kernel_rfl
theorem entry_bytes_index : entryFor table "bytes.index" = some Builtin.«bytes.index» := entryFor_of_tree (by kernel_rfl)
theorem args_bytes_index (a b : Value) : argsOk "bytes.index" ⟨[a, b], []⟩ := by unfold argsOk; kernel_rfl
theorem int_no_buffer : typeLookup (.type "int") "__buffer__" = pure none := by rw [typeLookup_type, builtinLookup_eq_fast]; kernel_rfl
theorem rng_false {k : Int} (h0 : 0 ≤ k) (h1 : k < 256) : (decide (k < 0) || decide (k ≥ 256)) = false := by
  simp only [Bool.or_eq_false_iff, decide_eq_false_iff_not]; omega
theorem contains_int (b : Array UInt8) (tb : Tok) (k : Int) (t : Tok) :
    Meets (Builtin.«bytes.__contains__» ⟨[.bytes b tb, .int k t], []⟩) (fun _ R s => (0 ≤ k ∧ k < 256) ∧ R (.ok (.ret (.bool (b.contains k.toNat.toUInt8)))) s) := by
  refine .of_wp fun prog w A R s hS => ?_
  obtain ⟨⟨h0, h1⟩, h⟩ := hS
  show wpAny _ _ (Builtin.Bytes.containsIn _ (.bytes b tb) (.int k t) >>= fun r => ret (.bool r)) _ _ s
  refine wpAny_bind ?_
  unfold Builtin.Bytes.containsIn
  refine wpAny_bind (wpAny_attempt (wpAny_of_eq (rfl : asIndex (.int k t) = pure k) ?_))
  refine wpAny_bind (wpAny_of_eq KBy.buffer_eq ?_)
  show wpAny _ _ (if (decide (k < 0) || decide (k ≥ 256)) = true then _ else _) _ _ _
  rw [rng_false h0 h1]
  refine wpAny_pure ?_
  exact wpAny_pure ⟨_, rfl, h⟩
noncomputable def idxB (b : Array UInt8) (k : Int) : Option Nat := Builtin.Bytes.find? b #[k.toNat.toUInt8] 0 b.size
theorem index_int (b : Array UInt8) (tb : Tok) (k : Int) (t : Tok) (i : Nat) :
    Meets (Builtin.«bytes.index» ⟨[.bytes b tb, .int k t], []⟩) (fun _ R s => ((0 ≤ k ∧ k < 256) ∧ 0 < b.size ∧ idxB b k = some i) ∧ R (.ok (.ret (.int (i : Int) s.toks))) { s with toks := s.toks + 1 }) := by
  refine .of_wp fun prog w A R s hS => ?_
  obtain ⟨⟨⟨h0, h1⟩, hb, hi⟩, h⟩ := hS
  show wpAny _ _ (Builtin.Bytes.searchArgs .bytes "index" _ >>= _) _ _ s
  refine wpAny_bind ?_
  unfold Builtin.Bytes.searchArgs
  refine wpAny_bind (wpAny_of_eq (a := (.bytes b tb, [.int k t])) (by kernel_rfl) ?_)
  refine wpAny_bind (wpAny_of_eq (a := none) rfl ?_)
  refine wpAny_bind (wpAny_of_eq (a := none) rfl ?_)
  have hT : s.TypeIs (.int k t) "int" := typeIs_int s k t
  refine wpAny_bind ?_
  show wpAny _ _ (Builtin.Bytes.buffer? _ (.int k t)) _ _ _
  unfold Builtin.Bytes.buffer?
  refine wpAny_bind (wpAny_specialOf hT int_no_buffer ?_)
  refine wpAny_bind (wpAny_specialOf hT int_no_buffer ?_)
  refine wpAny_pure ?_
  refine wpAny_bind (wpAny_specialOf hT F.slot_int_index.lookup ?_)
  show wpAny _ _ (Builtin.Bytes.indexHeld [.bytes b tb] (.int k t) >>= _) _ _ _
  refine wpAny_bind (wpAny_of_eq (a := k) rfl ?_)
  show wpAny _ _ (if (decide (k < 0) || decide (k ≥ 256)) = true then _ else _) _ _ _
  rw [rng_false h0 h1]
  refine wpAny_bind (wpAny_pure ?_)
  show wpAny _ _ (Builtin.Bytes.payload (.bytes b tb) >>= _) _ _ _
  refine wpAny_bind (wpAny_of_eq (a := b) rfl ?_)
  refine wpAny_pure ?_
  have hb0 : ¬ ((b.size : Int) < 0) := by omega
  have hlt : ¬ ((b.size : Int) - 0 < ((#[k.toNat.toUInt8] : Array UInt8).size : Int)) := by
    show ¬ ((b.size : Int) - 0 < 1)
    omega
  simp only [Option.getD_none, if_neg hb0, Int.lt_irrefl, if_false, Int.min_self, if_neg hlt]
  simp only [Option.bind_some]
  have e : Builtin.Bytes.find? b #[k.toNat.toUInt8] (0 : Int).toNat (b.size : Int).toNat = some i := hi
  simp only [Bool.false_eq_true, if_false, e]
  exact wpAny_ret_mkInt h
section
variable {prog : Program} {w : World} {A : Around} {E : Value → Shared → Prop} {s : Shared} {b : Array UInt8} {tb t : Tok} {k : Int} {Q : Value → Shared → Prop}
theorem in_bytes_int (h0 : 0 ≤ k) (h1 : k < 256) (h : Q (.bool (b.contains k.toNat.toUInt8)) s) : wpAny (model prog w) A (compareOp .In (.int k t) (.bytes b tb)) Q E s :=
  in_meets (typeIs_bytes _ _ _) FB.slot_bytes_contains FB.entry_bytes_contains (FB.args_bytes_contains_2 _ _) (contains_int b tb k t) ⟨⟨h0, h1⟩, _, rfl, h⟩
theorem call_bytes_index {i : Nat} (h0 : 0 ≤ k) (h1 : k < 256) (hb : 0 < b.size) (hi : idxB b k = some i) (h : ∀ u k', Q (.int (i : Int) u) { s with toks := k' }) : wpAny (model prog w) A (call (.builtin "bytes.index") [.bytes b tb, .int k t]) Q E s :=
  call_meets slot_bytes_index (typeIs_bytes _ _ _) entry_bytes_index (args_bytes_index _ _) (index_int b tb k t i) ⟨⟨⟨h0, h1⟩, hb, hi⟩, h _ _⟩
theorem method_bytes_index {M : Model} {pl : Sem Bool} {Q : Value × List Value → Shared → Prop} (h : Q (.builtin "bytes.index", [.bytes b tb]) s) : wpAny M A (getMethod (.bytes b tb) "index" pl) Q E s := by
  with_reducible exact KBd.method_of (.bytes b tb) (typeIs_bytes _ _ _) slot_bytes_index type_bytes_index KBd.noRef h
end
end Mine
namespace Mine
noncomputable abbrev RowT := List (Array UInt8) × Array UInt8 × List Int
noncomputable def rowsV (b : Array UInt8) (low : Int) : List RowT → Int
  | [] => low
  | (ns, sg, cs) :: r => cond (inB ns b && sg.contains low.toNat.toUInt8) (cs.getD ((idxB sg low).getD 0) 0) (rowsV b low r)
noncomputable def rowOk (low : Int) (r : RowT) : Bool := !(r.2.1.contains low.toNat.toUInt8) || (match idxB r.2.1 low with | some i => decide (i < r.2.2.length) && decide (r.2.2.length ≤ 1000) | none => false)
theorem rowOk.out {low : Int} {ns : List (Array UInt8)} {sg : Array UInt8} {cs : List Int} (h : rowOk low (ns, sg, cs) = true) (hc : sg.contains low.toNat.toUInt8 = true) : ∃ i, idxB sg low = some i ∧ i < cs.length ∧ cs.length ≤ 1000 := by
  unfold rowOk at h
  dsimp only at h
  rw [hc] at h
  cases e : idxB sg low with
  | none => rw [e] at h; simp at h
  | some i => rw [e] at h; exact ⟨i, rfl, by simpa using h⟩
theorem idx_pos {sg : Array UInt8} {low : Int} (hc : sg.contains low.toNat.toUInt8 = true) : 0 < sg.size := by
  rcases Nat.eq_zero_or_pos sg.size with h | h
  · have : sg = #[] := Array.eq_empty_of_size_eq_zero h
    subst this
    simp at hc
  · exact h
noncomputable def RowPost (h₀ : Heap) (L : Addr) (tl : List (Addr × Obj)) (m₀ : Str → Option Value) (x1 x2 x3 : Str) (c : Bool) (v : Int) (s : Shared) (f : Flow) (s₂ : Shared) : Prop :=
  ∃ h' tk m', s₂ = { s with heap := h', toks := tk } ∧ Fr h₀ L h' m' ∧ News h₀ L h' tl ∧ (∀ z, z ≠ x1 → z ≠ x2 → z ≠ x3 → m' z = m₀ z) ∧ ((c = true ∧ ∃ t, f = .ret (.int v t)) ∨ (c = false ∧ f = .next))
theorem RowPost.hit {h₀ : Heap} {L : Addr} {tl : List (Addr × Obj)} {m₀ m' : Str → Option Value} {x1 x2 x3 : Str} {c : Bool} {v v' : Int} {s : Shared} {h' : Heap} {tk : Tok} {t : Tok}
    (F : Fr h₀ L h' m') (N : News h₀ L h' tl) (hm : ∀ z, z ≠ x1 → z ≠ x2 → z ≠ x3 → m' z = m₀ z) (hc : c = true) (hv : v' = v) : RowPost h₀ L tl m₀ x1 x2 x3 c v s (.ret (.int v' t)) { s with heap := h', toks := tk } :=
  ⟨h', tk, m', rfl, F, N, hm, .inl ⟨hc, t, by rw [hv]⟩⟩
theorem RowPost.miss {h₀ : Heap} {L : Addr} {tl : List (Addr × Obj)} {m₀ m' : Str → Option Value} {x1 x2 x3 : Str} {c : Bool} {v : Int} {s : Shared} {h' : Heap} {tk : Tok}
    (F : Fr h₀ L h' m') (N : News h₀ L h' tl) (hm : ∀ z, z ≠ x1 → z ≠ x2 → z ≠ x3 → m' z = m₀ z) (hc : c = false) : RowPost h₀ L tl m₀ x1 x2 x3 c v s .next { s with heap := h', toks := tk } :=
  ⟨h', tk, m', rfl, F, N, hm, .inr ⟨hc, rfl⟩⟩
noncomputable def but3 (m₀ u : Str → Option Value) (x1 x2 x3 : Str) : Str → Option Value := fun y => if y = x1 then u y else if y = x2 then u y else if y = x3 then u y else m₀ y
theorem but3_eq {m₀ m' : Str → Option Value} {x1 x2 x3 : Str} (h : ∀ z, z ≠ x1 → z ≠ x2 → z ≠ x3 → m' z = m₀ z) : m' = but3 m₀ m' x1 x2 x3 := funext fun z => by
  unfold but3
  by_cases h1 : z = x1
  · rw [if_pos h1]
  · by_cases h2 : z = x2
    · rw [if_neg h1, if_pos h2]
    · by_cases h3 : z = x3
      · rw [if_neg h1, if_neg h2, if_pos h3]
      · rw [if_neg h1, if_neg h2, if_neg h3, h z h1 h2 h3]
section
variable {prog : Program} {w : World} {A : Around} {E : Value → Shared → Prop} {s : Shared} {env : Env} {h₀ : Heap} {body : List Stmt} {Q : Flow → Shared → Prop}
theorem rows_unr {L : Nat} {news : List (Addr × Obj)} {m₀ : Str → Option Value} {x1 x2 x3 : Str} {p1 p2 p3 pp : Pos} {kk : Nat} {wd : Array UInt8} {low : Int} {items : Array Value} {fp : List Addr} (hL : env.locals = L)
    (turn : ∀ (t ln lc : Nat) b tb vn vc n1 n2 ns cs (u : Str → Option Value) h tk own, rowOk low (ns, b, cs) = true → BytesAre vn ns → IntsAre vc cs →
      Fr h₀ L h (fun y => if y = x1 then u y else if y = x2 then u y else if y = x3 then u y else m₀ y) → News h₀ L h ((t, ({ cls := .type "tuple", data := .seq #[.ref ln, .bytes b tb, .ref lc] } : Obj)) :: (ln, listOf vn.toArray n1) :: (lc, listOf vc.toArray n2) :: (own ++ news)) →
      wpAny (model prog w) A (assign (.Tuple [.Name x1 p1, .Name x2 p2, .Name x3 p3] kk pp) env (.ref t)) (fun _ s₂ => wpAny (model prog w) A (execs body env) (RowPost h₀ L (own ++ news) m₀ x1 x2 x3 (inB ns wd && b.contains low.toNat.toUInt8) (cs.getD ((idxB b low).getD 0) 0) s) E s₂) E { s with heap := h, toks := tk })
    (ret : ∀ v t h tk m', v = rowsV wd low RL → Fr h₀ L h m' → News h₀ L h news → Q (.ret (.int v t)) { s with heap := h, toks := tk })
    (done : ∀ (u : Str → Option Value) h tk, rowsV wd low RL = low → Fr h₀ L h (fun y => if y = x1 then u y else if y = x2 then u y else if y = x3 then u y else m₀ y) → News h₀ L h news → Q .next { s with heap := h, toks := tk }) :
    ∀ (rs : List Value) (rl : List RowT) (k i : Nat) (m₁ : Str → Option Value), RowsAre news rs rl → k = rs.length → items.toList.drop i = rs → (∀ r ∈ rl, rowOk low r = true) → rowsV wd low RL = rowsV wd low rl → (∀ z, z ≠ x1 → z ≠ x2 → z ≠ x3 → m₁ z = m₀ z) →
      Unr prog w A E h₀ env (.Tuple [.Name x1 p1, .Name x2 p2, .Name x3 p3] kk pp) body Q (fun i v => items[i]? = some v) fp s k i m₁ news := by
  subst hL
  intro rs
  induction rs with
  | nil =>
    intro rl k i m₁ hR hk hit hok hv hm
    cases hR
    subst hk
    refine Unr.zero fun h' tk F N => done m₁ h' tk hv ?_ N
    have := but3_eq hm
    unfold but3 at this
    exact this ▸ F
  | cons r rs ih =>
    intro rl k i m₁ hR hk hit hok hv hm
    cases hR with
    | @cons t ln lc b tb vn vc n1 n2 ns cs rest restL m1 m2 b1 m3 i1 hR =>
    subst hk
    refine Unr.succ fun v h₁ tk₁ own hP hown F N => ?_
    have ev : v = .ref t := by
      have h0 : (items.toList.drop i)[0]? = some (.ref t) := by rw [hit]; rfl
      rw [List.getElem?_drop, Nat.add_zero, Array.getElem?_toList] at h0
      rw [hP] at h0
      exact Option.some.inj h0
    subst ev
    have F' := F
    rw [but3_eq hm] at F'
    refine wpAny_mono (turn t ln lc b tb vn vc n1 n2 ns cs m₁ h₁ tk₁ own (hok _ (.head _)) b1 i1 F' (fun p hp => ?_)) (fun _ s₂ h₂ => wpAny_mono h₂ (fun f s₃ h₃ => ?_) fun _ _ e => e) fun _ _ e => e
    · rcases List.mem_cons.mp hp with rfl | hp
      · exact N _ (List.mem_append.mpr (.inr m1))
      · rcases List.mem_cons.mp hp with rfl | hp
        · exact N _ (List.mem_append.mpr (.inr m2))
        · rcases List.mem_cons.mp hp with rfl | hp
          · exact N _ (List.mem_append.mpr (.inr m3))
          · exact N _ hp
    · obtain ⟨h', tk, m', rfl, F3, N3, hm3, hc⟩ := h₃
      rcases hc with ⟨hc, t', rfl⟩ | ⟨hc, rfl⟩
      · refine LoopStep3.ret ?_
        refine ret _ t' h' tk m' ?_ F3 (fun p hp => N3 p (List.mem_append.mpr (.inr hp)))
        rw [hv]
        unfold rowsV
        rw [hc]
        rfl
      · refine LoopStep3.next ⟨rfl, h', tk, m', news, rfl, F3, N3, rfl, ?_⟩
        refine ih restL rs.length (i + 1) m' hR rfl ?_ (fun r hr => hok r (.tail _ hr)) ?_ hm3
        · rw [← List.tail_drop, hit]; rfl
        · rw [hv]
          conv => lhs; unfold rowsV
          rw [hc]
          rfl
theorem rows_loop {L d n : Nat} {rs : List Value} {RL : List RowT} {news : List (Addr × Obj)} {m₀ : Str → Option Value} {x1 x2 x3 : Str} {p1 p2 p3 pp : Pos} {kk : Nat} {wd : Array UInt8} {low : Int} (hL : env.locals = L) (hh : A.handled = none)
    (F : Fr h₀ L s.heap m₀) (N : News h₀ L s.heap news) (hd : (d, listOf rs.toArray n) ∈ news) (hR : RowsAre news rs RL) (hok : ∀ r ∈ RL, rowOk low r = true)
    (turn : ∀ (t ln lc : Nat) b tb vn vc n1 n2 ns cs (u : Str → Option Value) h tk own, rowOk low (ns, b, cs) = true → BytesAre vn ns → IntsAre vc cs →
      Fr h₀ L h (fun y => if y = x1 then u y else if y = x2 then u y else if y = x3 then u y else m₀ y) → News h₀ L h ((t, ({ cls := .type "tuple", data := .seq #[.ref ln, .bytes b tb, .ref lc] } : Obj)) :: (ln, listOf vn.toArray n1) :: (lc, listOf vc.toArray n2) :: (own ++ news)) →
      wpAny (model prog w) A (assign (.Tuple [.Name x1 p1, .Name x2 p2, .Name x3 p3] kk pp) env (.ref t)) (fun _ s₂ => wpAny (model prog w) A (execs body env) (RowPost h₀ L (own ++ news) m₀ x1 x2 x3 (inB ns wd && b.contains low.toNat.toUInt8) (cs.getD ((idxB b low).getD 0) 0) s) E s₂) E { s with heap := h, toks := tk })
    (ret : ∀ v t h tk m', v = rowsV wd low RL → Fr h₀ L h m' → News h₀ L h news → Q (.ret (.int v t)) { s with heap := h, toks := tk })
    (done : ∀ (u : Str → Option Value) h tk, rowsV wd low RL = low → Fr h₀ L h (fun y => if y = x1 then u y else if y = x2 then u y else if y = x3 then u y else m₀ y) → News h₀ L h news → Q .next { s with heap := h, toks := tk }) :
    wpAny (model prog w) A (pyIter (.ref d)) (fun it s₂ => UnrAt prog w A h₀ env (.Tuple [.Name x1 p1, .Name x2 p2, .Name x3 p3] kk pp) body Q E it s₂) E s := by
  subst hL
  have hl : s.heap.IsList d rs.toArray := PySem.IsL.isList (n := n) (N _ hd).1
  refine Iter_list_unr hh hl F N (N _ hd).2.1 ?_
  exact rows_unr (s := { s with heap := s.heap.push { cls := .type "list_iterator", data := .fields #[.ref d, .int 0 0] } }) (items := rs.toArray) (wd := wd) (low := low) (RL := RL) rfl turn ret done rs RL rs.toArray.size 0 m₀ hR rfl rfl hok rfl fun _ _ _ _ => rfl
end
end Mine
open_top hd for PySem.Challenge.rw_on0326_01
namespace Mine
example (w : World) (h : Heap) : (hd.heap_39 w.params).In h → Challenge.rw_on0326_01.row.prog = Challenge.rw_on0326_01.row.prog → True := by
  k_fill
  intros; trivial
end Mine
local macro_rules | `(tactic| walk_at $s:str) => `(tactic| k_extra $s)
local macro_rules | `(tactic| walk_at "pyIter ref") => `(tactic| k_extra "MINE pyIter ref")
open Mine
local macro_rules | `(tactic| k_ne) => `(tactic| k_extra "MINE ne")
local macro_rules | `(tactic| ktr_units) => `(tactic| k_extra "MINE units")
local macro_rules | `(tactic| ktr_room) => `(tactic| k_extra "MINE room")
local macro_rules | `(tactic| k_all) => `(tactic| k_extra "MINE all")
theorem Mine.kw1 : True := by
  w_top off
  k_with "MINE ne" => first | exact Nat.ne_of_lt (by k_extra "MINE lt1") | exact Nat.ne_of_gt (by k_extra "MINE lt1") | ((refine neN ?_; (try dsimp only)); first | exact Nat.ne_of_lt (by k_extra "MINE lt1") | exact Nat.ne_of_gt (by k_extra "MINE lt1"))
  k_with "MINE units" => first | exact u2 (by assumption) (by decide) | exact u1 (by assumption) (by decide)
  k_with "MINE room" => first | exact u2 (by assumption) (by decide) | exact u1 (by assumption) (by decide) | exact u0 (by assumption)
  k_with "MINE all" => exact allNe (by assumption)
  k_with "MINE lt1" => with_reducible first | assumption | (apply And.left; k_extra "MINE cj0")
  k_with "MINE cj0" => with_reducible first | assumption | (apply And.right; k_extra "MINE cj1")
  k_with "MINE cj1" => with_reducible first | assumption | (apply And.right; k_extra "MINE cj2")
  k_with "MINE cj2" => with_reducible first | assumption | (apply And.right; k_extra "MINE cj3")
  k_with "MINE cj3" => with_reducible first | assumption | (apply And.right; k_extra "MINE cj4")
  k_with "MINE cj4" => with_reducible first | assumption | (apply And.right; k_extra "MINE cj5")
  k_with "MINE cj5" => with_reducible first | assumption | (apply And.right; k_extra "MINE cj6")
  k_with "MINE cj6" => with_reducible first | assumption | (apply And.right; k_extra "MINE cj7")
  k_with "MINE cj7" => with_reducible first | assumption | (apply And.right; k_extra "MINE cj8")
  k_with "MINE cj8" => with_reducible first | assumption | (apply And.right; k_extra "MINE cj9")
  k_with "MINE cj9" => with_reducible first | assumption | (apply And.right; k_extra "MINE cj10")
  k_with "MINE cj10" => with_reducible first | assumption | (apply And.right; k_extra "MINE cj11")
  k_with "MINE cj11" => with_reducible first | assumption | (apply And.right; k_extra "MINE cj12")
  k_with "MINE cj12" => with_reducible first | assumption | (apply And.right; k_extra "MINE cj13")
  k_with "MINE cj13" => with_reducible first | assumption | (apply And.right; k_extra "MINE cj14")
  k_with "execs cons" => (k_here; k_fold)
  k_with "exec If" => (k_here; k_fold)
  k_with "exec Assign" => (k_here; k_fold)
  k_with "exec Expr" => (k_here; k_fold)
  k_with "exec Return" => (k_here; k_fold)
  k_with "exec For" => (k_here; k_fold)
  k_with "exec AugAssign" => (k_here; k_fold)
  k_with "eval Name" => (k_here; k_dflt (refine' nameX_L ?q9F ?q9v ?_ ?q9k ?q9x ?q9d; (case q9F => k_asm); (case q9v => exact @rfl _ (some _)); (case q9k => exact @rfl _ ScopeKind.function); (case q9x => exact @rfl _ (some NameKind.local)); (case q9d => decide); k_whole))
  trivial
theorem Mine.kw2 : True := by
  w_top off
  k_with "eval List" => (k_here; (with_reducible show wpAny _ _ (eval (Expr.List _ _) _) _ _ _); k_dflt (refine' list_intsK ?q9F ?q9N ?q9c ?q9n ?_; (case q9F => k_asm); (case q9N => k_asm); (case q9c => with_reducible assumption); (case q9n => with_reducible assumption)); intro d' h' tk' vs' F' N' l1 ln' hi'; (try k_lt l1))
  k_with "eval List" => (k_here; (with_reducible show wpAny _ _ (eval (Expr.List _ _) _) _ _ _); k_dflt (refine' list_bytesKK ?q9F ?q9N ?q9c ?q9n ?_; (case q9F => k_asm); (case q9N => k_asm); (case q9c => with_reducible assumption); (case q9n => with_reducible assumption)); intro d' h' tk' vs' F' N' l1 ln' hi'; (try k_lt l1))
  k_with "MINE sub" => ((repeat (refine List.forall_mem_cons.mpr ⟨by k_mem, ?_⟩)); first | exact List.forall_mem_nil _ | (intro p hp; repeat (first | exact hp | refine List.Mem.tail _ ?_)))
  k_with "call type:list" => (k_here; (with_reducible show wpAny _ _ (call (Value.type "list") [Value.bytes _ _]) _ _ _); k_dflt (refine' list_bytesK ?q9F ?q9N ?q9hh ?q9hn ?_; (case q9F => k_asm); (case q9N => k_asm); (case q9hh => exact rfl); (case q9hn => first | assumption | omega | decide)); intro D' h' tk' vs' c' F' N' l1 hi'; (try k_lt l1))
  k_with "call type:zip" => (k_here; (with_reducible show wpAny _ _ (call (Value.type "zip") [Value.ref _, Value.ref _]) _ _ _); k_dflt (refine' zip_K ?q9F ?q9N ?q9h1 ?q9h2 ?_; (case q9F => k_asm); (case q9N => k_asm); (case q9h1 => k_mem); (case q9h2 => k_mem)); intro I' h' F' N' Z')
  k_with "call type:dict" => (k_here; (with_reducible show wpAny _ _ (call (Value.type "dict") [Value.ref _]) _ _ _); k_dflt (refine' dict_zip_K ?q9F ?q9N ?q9Z ?q9hh ?q9hi ?q9hl ?q9hn ?q9hz ?_; (case q9F => k_asm); (case q9N => k_asm); (case q9Z => assumption); (case q9hh => exact rfl); (case q9hi => assumption); (case q9hl => assumption); (case q9hn => assumption); (case q9hz => assumption)); intro d' o' h' tk' F' N' l1 lo' hd'; (try k_lt l1))
  k_with "getMethod ref" => (k_here; (with_reducible show wpAny _ _ (getMethod (Value.ref _) (PySem.Str.ofString "update") _) _ _ _); k_dflt (refine' kdl_method (knd := PySem.intKind _ _) PySem.F.slot_dict_update PySem.F.type_dict_update ?q9N ?q9m ?q9d ?_; (case q9N => k_asm); (case q9m => k_mem); (case q9d => with_reducible assumption)))
  k_with "getMethod ref" => (k_here; (with_reducible show wpAny _ _ (getMethod (Value.ref _) (PySem.Str.ofString "get") _) _ _ _); k_dflt (refine' kdl_method (knd := PySem.intKind _ _) PySem.F.slot_dict_get PySem.F.type_dict_get ?q9N ?q9m ?q9d ?_; (case q9N => k_asm); (case q9m => k_mem); (case q9d => with_reducible assumption)))
  k_with "getMethod ref" => (k_here; (with_reducible show wpAny _ _ (getMethod (Value.ref _) (PySem.Str.ofString "pop") _) _ _ _); k_dflt (refine' kdl_method (knd := PySem.intKind _ _) PySem.F.slot_dict_pop PySem.F.type_dict_pop ?q9N ?q9m ?q9d ?_; (case q9N => k_asm); (case q9m => k_mem); (case q9d => with_reducible assumption)))
  k_with "callWith" => (k_here; (with_reducible show wpAny _ _ (callWith _ (Value.builtin _) _ (backTo _ (starEach (_ :: _) _)) []) _ _ _); (with_reducible refine' callWith_method1 ?_ ?q9he ?q9hp); (case q9he => first | with_reducible exact Mine.se_Tuple | with_reducible exact Mine.se_Dict | with_reducible exact Mine.se_List | with_reducible exact Mine.se_Name | with_reducible exact Mine.se_Call | with_reducible exact Mine.se_Const | k_dflt (exact rfl)); (case q9hp => k_dflt (exact rfl)))
  k_with "eval List" => (k_here; (with_reducible show wpAny _ _ (eval (Expr.List (Expr.Constant (Const.int _) _ _ :: _) _) _) _ _ _); k_dflt (refine' list_intsK ?q9F ?q9N ?q9c ?q9n ?_; (case q9F => k_asm); (case q9N => k_asm); (case q9c => repeat (first | exact ConstI.nil | apply ConstI.cons)); (case q9n => decide)); intro d' h' tk' vs' F' N' l1 ln' hi'; (try k_lt l1))
  k_with "eval List" => (k_here; (with_reducible show wpAny _ _ (eval (Expr.List (Expr.Constant (Const.bytes _) _ _ :: _) _) _) _ _ _); k_dflt (refine' list_bytesKK ?q9F ?q9N ?q9c ?q9n ?_; (case q9F => k_asm); (case q9N => k_asm); (case q9c => repeat (first | exact ConstB.nil | apply ConstB.cons)); (case q9n => decide)); intro d' h' tk' vs' F' N' l1 ln' hi'; (try k_lt l1))
  k_with "eval Tuple" => (k_here; (with_reducible show wpAny _ _ (eval (Expr.Tuple (Expr.Constant (Const.bytes _) _ _ :: Expr.Constant (Const.bytes _) _ _ :: _) _ _) _) _ _ _); k_dflt (refine' tup_bytesK ?q9F ?q9N ?q9c ?q9n ?_; (case q9F => k_asm); (case q9N => k_asm); (case q9c => repeat (first | exact ConstB.nil | apply ConstB.cons)); (case q9n => decide)); intro d' h' tk' vs' F' N' l1 hi'; (try k_lt l1))
  k_with "eval Tuple" => (k_here; (with_reducible show wpAny _ _ (eval (Expr.Tuple (Expr.Constant (Const.bytes _) _ _ :: Expr.Constant (Const.bytes _) _ _ :: _) _ _) _) (fun b s₂ => wpAny _ _ (compareOp CmpOp.In (Value.bytes _ _) b) _ _ s₂) _ _); k_dflt (refine' tup_inK ?q9F ?q9N ?q9c ?q9n ?_; (case q9F => k_asm); (case q9N => k_asm); (case q9c => repeat (first | exact ConstB.nil | apply ConstB.cons)); (case q9n => decide)); intro h' tk' F' N')
  k_with "eval Tuple" => (k_here; (with_reducible show wpAny _ _ (eval (Expr.Tuple (Expr.Constant (Const.bytes _) _ _ :: Expr.Constant (Const.bytes _) _ _ :: _) _ _) _) (fun b s₂ => wpAny _ _ (compareOp CmpOp.NotIn (Value.bytes _ _) b) _ _ s₂) _ _); k_dflt (refine' tup_notinK ?q9F ?q9N ?q9c ?q9n ?_; (case q9F => k_asm); (case q9N => k_asm); (case q9c => repeat (first | exact ConstB.nil | apply ConstB.cons)); (case q9n => decide)); intro h' tk' F' N')
  trivial
namespace Mine
noncomputable abbrev PG := Challenge.rw_on0326_01.row.prog
section
variable {w : World} {mg mb : Str → Option Value} {mean : ExcName → Option Value} {dp un : Nat} {gd : Option (List Code)} {cn : Str} {cs : Scope} {a : Addr} {ccd : Value} {cl : List (Str × Addr)} {outer : List Env} {A₀ : Around} {base h₀ : Heap} {L : Addr} {m : Str → Option Value} {s : Shared} {Q E : Value → Shared → Prop}
theorem pairs_spec {news : List (Addr × Obj)} {lc : Nat} {bs : Array UInt8} {tb : Tok} {vs : List Value} {ns : List Int} {n : Nat}
  (B : Below A₀ base outer h₀) (F : Fr h₀ L s.heap m) (X : (hd.heap_39 w.params).In h₀) (N : News h₀ L s.heap ((lc, listOf vs.toArray n) :: news))
  (T : Top hd.view_39 (looseW hd.view_39 [Str.ofString "CHARSET_NAMES"]) mean mg mb h₀) (hk : cs.kind = .function) (hi : IntsAre vs ns) (hlen : (KBw.bInts bs).length = vs.length) (hnd : (KBw.bInts bs).Nodup) (hb : bs.size ≤ 1000) (hb' : (KBw.bInts bs).length ≤ 1000)
  (hd : dp + 1 < recursionLimit) (hu : un + 8 < cLine)
  (hret : ∀ (d : Nat) o h' tk kvs, Fr h₀ L h' m → News h₀ L h' ((d, o) :: news) → (∀ p ∈ news, p.1 < d) → (d == sysModules) = false → o.IsDictOf (intKind PG w) kvs → FlatPairs PyData.int kvs (kdfD ((KBw.bInts bs).zip ns)) → Q (.ref d) { s with heap := h', toks := tk }) :
  wpAny (model PG w) (ktrTop dp un gd cn cs L a ccd cl outer) (call (.ref 22) [.bytes bs tb, .ref lc]) Q E s := by
  refine wpAny_call ?_
  k_dflt cell_enter
  k_steps
  rename Obj.IsDictOf (intKind PG w) _ _ => hD
  rename _ < _ ∧ _ < _ ∧ AllLt _ _ => hlt
  exact hret _ _ _ _ _ (by assumption) (cb_drop (by assumption) (by k_extra "MINE sub")) (ktn_ltOf hlt.2.2) (by assumption) hD (zkv_flat hi)
end
end Mine
theorem Mine.kw3 : True := by
  w_top off
  k_with "call ref" => (k_here; (with_reducible show wpAny _ _ (call (Value.ref 22) [Value.bytes _ _, Value.ref _]) _ _ _); k_dflt (refine' pairs_spec ?q9B ?q9F ?q9X ?q9N ?q9T ?q9hk ?q9hi ?q9hlen ?q9hnd ?q9hb ?q9hb' ?q9hd ?q9hu ?_; (case q9B => k_asm); (case q9F => k_asm); (case q9X => k_asm); (case q9N => k_asm); (case q9T => k_asm); (case q9hk => first | exact rfl | assumption); (case q9hi => first | with_reducible assumption | (repeat (first | exact IntsAre.nil | apply IntsAre.cons))); (case q9hlen => first | exact rfl | exact Eq.symm (by assumption) | omega); (case q9hnd => first | with_reducible assumption | decide +kernel); (case q9hb => first | with_reducible assumption | decide); (case q9hb' => first | with_reducible assumption | decide); (case q9hd => ktr_room); (case q9hu => ktr_units)); intro d' o' h' tk' kvs' F' N' l1 lo' hd' hf'; (try k_lt l1))
  trivial
namespace Mine
section
variable {w : World} {mg mb : Str → Option Value} {mean : ExcName → Option Value} {dp un : Nat} {gd : Option (List Code)} {cn : Str} {cs : Scope} {a : Addr} {ccd : Value} {cl : List (Str × Addr)} {outer : List Env} {A₀ : Around} {base h₀ : Heap} {L : Addr} {m : Str → Option Value} {s : Shared} {Q E : Value → Shared → Prop} {env : Env}
theorem with_pairs {news : List (Addr × Obj)} {b : List UInt8} {es : List PySem.Expr} {ns : List Int} {k1 : Nat} {p1 p2 pos : Pos}
  (B : Below A₀ base outer h₀) (F : Fr h₀ L s.heap m) (X : (hd.heap_39 w.params).In h₀) (N : News h₀ L s.heap news)
  (T : Top hd.view_39 (looseW hd.view_39 [Str.ofString "CHARSET_NAMES"]) mean mg mb h₀) (hk : cs.kind = .function) (hc : ConstI es ns) (hlen : (KBw.bInts b.toArray).length = ns.length) (hnd : (KBw.bInts b.toArray).Nodup) (hb : b.toArray.size ≤ 1000) (hb' : (KBw.bInts b.toArray).length ≤ 1000) (hbn : ns.length ≤ 1000)
  (hd : dp + 1 < recursionLimit) (hu : un + 8 < cLine)
  (hret : ∀ (d : Nat) o h' tk kvs, Fr h₀ L h' m → News h₀ L h' ((d, o) :: news) → (∀ p ∈ news, p.1 < d) → (d == sysModules) = false → o.IsDictOf (intKind PG w) kvs → FlatPairs PyData.int kvs (kdfD ((KBw.bInts b.toArray).zip ns)) → Q (.ref d) { s with heap := h', toks := tk }) :
  wpAny (model PG w) (ktrTop dp un gd cn cs L a ccd cl outer) (callWith pos (.ref 22) [] (backTo pos (starEach [.Constant (.bytes b) k1 p1, .List es p2] env)) []) Q E s := by
  k_steps
  exact hret _ _ _ _ _ (by assumption) (by assumption) (by assumption) (by assumption) (by assumption) (by assumption)
end
end Mine
theorem Mine.kw4 : True := by
  w_top off
  k_with "callWith ref" => (k_here; (with_reducible show wpAny _ _ (callWith _ (Value.ref 22) [] (backTo _ (starEach [Expr.Constant (Const.bytes _) _ _, Expr.List (_ :: _) _] _)) []) _ _ _); k_dflt (refine' with_pairs ?q9B ?q9F ?q9X ?q9N ?q9T ?q9hk ?q9hc ?q9hlen ?q9hnd ?q9hb ?q9hb' ?q9hbn ?q9hd ?q9hu ?_; (case q9B => k_asm); (case q9F => k_asm); (case q9X => k_asm); (case q9N => k_asm); (case q9T => k_asm); (case q9hk => first | exact rfl | assumption); (case q9hc => repeat (first | exact ConstI.nil | apply ConstI.cons)); (case q9hlen => exact rfl); (case q9hnd => decide +kernel); (case q9hb => decide); (case q9hb' => decide); (case q9hbn => decide); (case q9hd => ktr_room); (case q9hu => ktr_units)); intro d' o' h' tk' kvs' F' N' l1 lo' hd' hf'; (try k_lt l1))
  trivial
namespace Mine
noncomputable def drawL : List (Int × Int) := [(95, 32), (96, 9670), (97, 9618), (98, 9225), (99, 9228), (100, 9229), (101, 9226), (102, 176), (103, 177), (104, 9252), (105, 9227), (106, 9496), (107, 9488), (108, 9484), (109, 9492), (110, 9532), (111, 9146), (112, 9147), (113, 9472), (114, 9148), (115, 9149), (116, 9500), (117, 9508), (118, 9524), (119, 9516), (120, 9474), (121, 8804), (122, 8805), (123, 960), (124, 8800), (125, 163), (126, 183)]
section
variable {w : World} {mg mb : Str → Option Value} {mean : ExcName → Option Value} {dp un : Nat} {gd : Option (List Code)} {cn : Str} {cs : Scope} {a : Addr} {ccd : Value} {cl : List (Str × Addr)} {outer : List Env} {A₀ : Around} {base h₀ : Heap} {L : Addr} {m : Str → Option Value} {s : Shared} {Q E : Value → Shared → Prop}
theorem drawing_spec {news : List (Addr × Obj)}
  (B : Below A₀ base outer h₀) (F : Fr h₀ L s.heap m) (X : (hd.heap_39 w.params).In h₀) (N : News h₀ L s.heap news)
  (T : Top hd.view_39 (looseW hd.view_39 [Str.ofString "CHARSET_NAMES"]) mean mg mb h₀) (hk : cs.kind = .function)
  (hd : dp + 2 < recursionLimit) (hu : un + 16 < cLine)
  (hret : ∀ (d : Nat) o h' tk kvs, Fr h₀ L h' m → News h₀ L h' ((d, o) :: news) → (∀ p ∈ news, p.1 < d) → (d == sysModules) = false → o.IsDictOf (intKind PG w) kvs → FlatPairs PyData.int kvs (kdfD drawL) → Q (.ref d) { s with heap := h', toks := tk }) :
  wpAny (model PG w) (ktrTop dp un gd cn cs L a ccd cl outer) (call (.ref 29) []) Q E s := by
  refine wpAny_call ?_
  k_dflt cell_enter
  k_steps
  rename FlatPairs PyData.int _ _ => hf
  rename Obj.IsDictOf (intKind PG w) _ _ => hD
  rename _ < _ ∧ _ => hlt
  refine hret _ _ _ _ _ (by assumption) (cb_drop (by assumption) (by k_extra "MINE sub")) (by assumption) (by assumption) hD ?_
  refine Eq.mp (congrArg (FlatPairs PyData.int _) ?_) hf
  kernel_rfl
end
end Mine
namespace Mine
theorem off_all {d : Addr} {l : List (Addr × Obj)} (h : AllLt d l) : ∀ p ∈ l, p.1 ≠ d := fun p hp => Nat.ne_of_lt (ktn_ltOf h p hp)
theorem off_lt {d : Addr} {l : List (Addr × Obj)} (h : ∀ p ∈ l, p.1 < d) : ∀ p ∈ l, p.1 ≠ d := fun p hp => Nat.ne_of_lt (h p hp)
noncomputable def suppL0 : List (Int × Int) := (rangeKs 32 96).map fun k => (k, k + 128)
structure IsSupp (c : List (Int × Int)) : Prop where
  eq : c = suppL0
theorem IsSupp.len {c : List (Int × Int)} (h : IsSupp c) : c.length = 96 := by rw [h.eq, suppL0, List.length_map, rangeKs_length]
theorem supp_fits {c : List (Int × Int)} (hS : IsSupp c) {D₂ : List (PyData × PyData)} (h : D₂.length ≤ 100) : (kdfD c).length + D₂.length ≤ sizeLine := by
  rw [kdfD_length, hS.len, sizeLine_eq]; omega
theorem put_new {c : List (Int × Int)} {k v : Int} (h : ∀ p ∈ c, p.1 ≠ k) : kdfPut c k v = c ++ [(k, v)] := by
  unfold kdfPut
  rw [if_neg]
  intro q
  obtain ⟨p, hp, e⟩ := List.any_eq_true.mp q
  exact h p hp (of_decide_eq_true e)
section
variable {prog : Program} {w : World} {A : Around} {E : Value → Shared → Prop} {s : Shared} {env : Env} {h₀ : Heap} {x : Str} {body : List Stmt} {Q : Flow → Shared → Prop}
noncomputable def SuppPost (prog : Program) (w : World) (h₀ : Heap) (L : Addr) (x : Str) (m₀ : Str → Option Value) (d : Addr) (rest : List (Addr × Obj)) (k : Int) (c : List (Int × Int)) (s : Shared) (f : Flow) (s₂ : Shared) : Prop :=
  f = .next ∧ ∃ h' tk' o' kvs' m', s₂ = { s with heap := h', toks := tk' } ∧ Fr h₀ L h' m' ∧ News h₀ L h' ((d, o') :: rest) ∧ (∀ z, z ≠ x → m' z = m₀ z) ∧ o'.IsDictOf (intKind prog w) kvs' ∧ FlatPairs PyData.int kvs' (kdfD (kdfPut c k (k + 128)))
theorem SuppPost.intro {prog : Program} {w : World} {h₀ : Heap} {L : Addr} {x : Str} {m₀ m' : Str → Option Value} {d : Addr} {rest : List (Addr × Obj)} {k : Int} {c : List (Int × Int)} {s : Shared} {h' : Heap} {tk' : Tok} {o' : Obj} {kvs' : List (Int × Value)}
    (F : Fr h₀ L h' m') (N : News h₀ L h' ((d, o') :: rest)) (hm : ∀ z, z ≠ x → m' z = m₀ z) (hd : o'.IsDictOf (intKind prog w) kvs') (hf : FlatPairs PyData.int kvs' (kdfD (kdfPut c k (k + 128)))) :
    SuppPost prog w h₀ L x m₀ d rest k c s .next { s with heap := h', toks := tk' } := ⟨rfl, h', tk', o', kvs', m', rfl, F, N, hm, hd, hf⟩
theorem supp_loop {r d L : Nat} {t₀ u₀ v₀ : Tok} {b₀ : Int} {o : Obj} {rest : List (Addr × Obj)} {m₀ : Str → Option Value}
    (hL : env.locals = L) (hh : A.handled = none) (hr : IsRange s.heap r 32 b₀ 1 t₀ u₀ v₀) (hb : b₀ = 128) (F : Fr h₀ L s.heap m₀) (N : News h₀ L s.heap ((d, o) :: rest)) (hd : o.IsDictOf (intKind prog w) [])
    (hoff : ∀ p ∈ rest, p.1 ≠ d)
    (turn : ∀ (o : Obj) kvs c (k : Int) t h tk own, 32 ≤ k → k < 128 → c.length ≤ 1000 → (∀ p ∈ rest ++ own, p.1 ≠ d) → o.IsDictOf (intKind prog w) kvs → FlatPairs PyData.int kvs (kdfD c) →
      Fr h₀ L h (fun y => if y = x then some (.int k t) else m₀ y) → News h₀ L h ((d, o) :: (rest ++ own)) →
      wpAny (model prog w) A (execs body env) (SuppPost prog w h₀ L x m₀ d (rest ++ own) k c s) E { s with heap := h, toks := tk })
    (done : ∀ (o : Obj) kvs c (u : Str → Option Value) h tk, IsSupp c → o.IsDictOf (intKind prog w) kvs → FlatPairs PyData.int kvs (kdfD c) → Fr h₀ L h (fun y => if y = x then u y else m₀ y) → News h₀ L h ((d, o) :: rest) → Q .next { s with heap := h, toks := tk }) :
    wpAny (model prog w) A (pyIter (.ref r)) (fun it s₂ => LoopAtV prog w A h₀ env x body Q E it s₂) E s := by
  subst hb
  subst hL
  refine kst_range (σ := Obj × List (Int × Value) × List (Int × Int)) (n := 96) (Led := fun c => (d, c.1) :: rest) (ps := fun _ => []) (Facts := fun c => c.1.IsDictOf (intKind prog w) c.2.1 ∧ FlatPairs PyData.int c.2.1 (kdfD c.2.2)) (stored := [])
    (P := fun pre c => pre = rangeKs 32 pre.length ∧ c.2.2 = pre.map fun k => (k, k + 128)) (c₀ := (o, [], [])) hh hr (by decide) (by decide) F N ⟨hd, .nil⟩ (fun _ h => nomatch h) ⟨rfl, rfl⟩ ?_ ?_
  · rintro ⟨o, kvs, c⟩ pre k t u h tk own hk hlt hO ⟨h1, h2⟩ ⟨hp, hc⟩ F' N'
    dsimp only at h1 h2 hc hO N' ⊢
    have F'' : Fr h₀ env.locals h (fun y => if y = x then some (.int k t) else m₀ y) := F'
    have hoff' : ∀ p ∈ rest ++ own, p.1 ≠ d := fun p hp => (List.mem_append.mp hp).elim (hoff p) fun h => hO p h d (.head _)
    have hcl : c.length = pre.length := by rw [hc, List.length_map]
    refine wpAny_mono (turn o kvs c k t h tk own (by omega) (by omega) (by omega) hoff' h1 h2 F'' N') (fun f s₂ hq => ?_) fun _ _ e => e
    obtain ⟨rfl, h', tk', o', kvs', m', rfl, F3, N3, hm, hd3, hf3⟩ := hq
    have hnew : ∀ p ∈ c, p.1 ≠ k := by
      intro p hp' e
      rw [hc] at hp'
      obtain ⟨j, hj, rfl⟩ := List.mem_map.mp hp'
      rw [hp] at hj
      have := (mem_rangeKs hj).2
      dsimp only at e
      omega
    rw [put_new hnew] at hf3
    refine kst_end (o', kvs', c ++ [(k, k + 128)]) F3 N3 (fun p hp => ?_) (fun p hp => List.mem_cons_of_mem _ (List.mem_append.mpr (.inr hp))) rfl ⟨hd3, hf3⟩ (fun _ h => nomatch h) (fun z hz _ _ => hm z hz) ⟨?_, ?_⟩
    · rcases List.mem_cons.mp hp with rfl | hp
      · exact .head _
      · exact .tail _ (List.mem_append.mpr (.inl hp))
    · rw [List.length_append, List.length_singleton]
      conv => lhs; rw [hp]
      simp only [rangeKs, List.range_succ, List.map_append, List.map_cons, List.map_nil, hk]
    · dsimp only
      rw [hc, List.map_append, List.map_cons, List.map_nil]
  · rintro ⟨o, kvs, c⟩ u h tk ⟨h1, h2⟩ ⟨_, hc⟩ F' N'
    exact done o kvs c u h tk ⟨hc⟩ h1 h2 F' N'
end
end Mine
theorem Mine.kw5 : True := by
  w_top off
  k_with "MINE all" => first | with_reducible assumption | exact off_lt (by with_reducible assumption) | exact off_all (by with_reducible assumption)
  k_with "MINE pyIter ref" => (k_here; (with_reducible show wpAny _ _ (pyIter (Value.ref _)) (fun it s₂ => LoopAtV _ _ _ _ _ (PySem.Str.ofString "code") _ _ _ it s₂) _ _); k_dflt (refine' supp_loop ?q9hL ?q9hh ?q9hr ?q9hb ?q9F ?q9N ?q9hd ?q9hoff ?_ ?_; (case q9hL => exact rfl); (case q9hh => exact rfl); (case q9hr => with_reducible assumption); (case q9hb => decide); (case q9F => k_asm); (case q9N => k_asm); (case q9hd => with_reducible assumption); (case q9hoff => k_all)); (all_goals intros); (all_goals (try dsimp only)))
  k_with "SuppPost" => (k_dflt (refine' SuppPost.intro ?q9F ?q9N ?q9m ?q9d ?q9f; (case q9F => k_asm); (case q9N => k_asm); (case q9m => intro z hz; first | rfl | exact if_neg hz); (case q9d => assumption); (case q9f => assumption)))
  trivial
theorem Mine.kw6 : True := by
  w_top off
  k_with "call builtin:dict.update" => (k_here; (with_reducible show wpAny _ _ (call (Value.builtin "dict.update") [Value.ref _, Value.ref _]) _ _ _); (with_reducible rename IsSupp _ => hS); k_dflt (refine' kt_update_K (knd := PySem.intKind _ _) PyProof.V.same_int ?q9F ?q9N ?q9U ?q9d ?q9f ?q9t ?q9n ?_ ?q9z; (case q9F => k_asm); (case q9N => k_asm); (case q9U => k_updF); (case q9d => k_asm); (case q9f => k_asm); (case q9t => k_tabat); (case q9n => k_ne); (case q9z => exact supp_fits hS (Nat.le_of_ble_eq_true (by kernel_rfl)))); intro h' o' kvs' F' N' hd' hf'; try dsimp only at N')
  trivial
theorem Mine.kw7 : True := by
  w_top off
  k_with "call builtin:dict.pop" => (k_here; (with_reducible show wpAny _ _ (call (Value.builtin "dict.pop") [Value.ref _, Value.int 32 _]) _ _ _); (with_reducible rename IsSupp _ => hS); k_dflt (refine' kt_pop_K (more := []) (dv := PyData.int 160) PyProof.V.same_int (intKind_is _ _ _ _) (.inl rfl) (by rfl) (PySem.F.args_dict_pop_2 _ _) ?q9F ?q9N ?q9U ?q9d ?q9f ?q9l ?_ ?q9z; (case q9F => k_asm); (case q9N => k_asm); (case q9U => k_updF); (case q9d => k_asm); (case q9f => k_asm); (case q9l => (rewrite [hS.eq]; kernel_rfl)); (case q9z => (rewrite [hS.eq]; exact Nat.le_of_ble_eq_true (by kernel_rfl)))); intro h' o' v' hv' F' N' hd' hf'; try dsimp only at N')
  trivial
theorem Mine.kw8 : True := by
  w_top off
  k_with "call builtin:dict.pop" => (k_here; (with_reducible show wpAny _ _ (call (Value.builtin "dict.pop") [Value.ref _, Value.int 127 _]) _ _ _); (with_reducible rename IsSupp _ => hS); k_dflt (refine' kt_pop_K (more := []) (dv := PyData.int 255) PyProof.V.same_int (intKind_is _ _ _ _) (.inl rfl) (by rfl) (PySem.F.args_dict_pop_2 _ _) ?q9F ?q9N ?q9U ?q9d ?q9f ?q9l ?_ ?q9z; (case q9F => k_asm); (case q9N => k_asm); (case q9U => k_updF); (case q9d => k_asm); (case q9f => k_asm); (case q9l => (rewrite [hS.eq]; kernel_rfl)); (case q9z => (rewrite [hS.eq]; exact Nat.le_of_ble_eq_true (by kernel_rfl)))); intro h' o' v' hv' F' N' hd' hf'; try dsimp only at N')
  trivial
namespace Mine
section
variable {w : World} {mg mb : Str → Option Value} {mean : ExcName → Option Value} {dp un : Nat} {gd : Option (List Code)} {cn : Str} {cs : Scope} {a : Addr} {ccd : Value} {cl : List (Str × Addr)} {outer : List Env} {A₀ : Around} {base h₀ : Heap} {L : Addr} {m : Str → Option Value} {s : Shared} {Q E : Value → Shared → Prop}
theorem latin_spec {news : List (Addr × Obj)}
  (B : Below A₀ base outer h₀) (F : Fr h₀ L s.heap m) (X : (hd.heap_39 w.params).In h₀) (N : News h₀ L s.heap news)
  (T : Top hd.view_39 (looseW hd.view_39 [Str.ofString "CHARSET_NAMES"]) mean mg mb h₀) (hk : cs.kind = .function)
  (hd : dp + 2 < recursionLimit) (hu : un + 16 < cLine)
  (hret : ∀ (d : Nat) o h' tk kvs, Fr h₀ L h' m → News h₀ L h' ((d, o) :: news) → (∀ p ∈ news, p.1 < d) → (d == sysModules) = false → o.IsDictOf (intKind PG w) kvs → FlatPairs PyData.int kvs (kdfD suppL0) → Q (.ref d) { s with heap := h', toks := tk }) :
  wpAny (model PG w) (ktrTop dp un gd cn cs L a ccd cl outer) (call (.ref 36) [.bool false]) Q E s := by
  refine wpAny_call ?_
  k_dflt cell_enter
  k_steps
  rename IsSupp _ => hc
  obtain ⟨hc⟩ := hc
  subst hc
  rename FlatPairs PyData.int _ _ => hf
  rename Obj.IsDictOf (intKind PG w) _ _ => hD
  refine hret _ _ _ _ _ (by assumption) (cb_drop (by assumption) (by k_extra "MINE sub")) (by assumption) (by assumption) hD hf
noncomputable def suppL : List (Int × Int) := [(33, 161), (34, 162), (35, 163), (36, 164), (37, 165), (38, 166), (39, 167), (40, 164), (41, 169), (42, 170), (43, 171), (44, 172), (45, 173), (46, 174), (47, 175), (48, 176), (49, 177), (50, 178), (51, 179), (52, 180), (53, 181), (54, 182), (55, 183), (56, 184), (57, 185), (58, 186), (59, 187), (60, 188), (61, 189), (62, 190), (63, 191), (64, 192), (65, 193), (66, 194), (67, 195), (68, 196), (69, 197), (70, 198), (71, 199), (72, 200), (73, 201), (74, 202), (75, 203), (76, 204), (77, 205), (78, 206), (79, 207), (80, 208), (81, 209), (82, 210), (83, 211), (84, 212), (85, 213), (86, 214), (87, 338), (88, 216), (89, 217), (90, 218), (91, 219), (92, 220), (93, 376), (94, 222), (95, 223), (96, 224), (97, 225), (98, 226), (99, 227), (100, 228), (101, 229), (102, 230), (103, 231), (104, 232), (105, 233), (106, 234), (107, 235), (108, 236), (109, 237), (110, 238), (111, 239), (112, 240), (113, 241), (114, 242), (115, 243), (116, 244), (117, 245), (118, 246), (119, 339), (120, 248), (121, 249), (122, 250), (123, 251), (124, 252), (125, 255), (126, 254)]
theorem supp_spec {news : List (Addr × Obj)}
  (B : Below A₀ base outer h₀) (F : Fr h₀ L s.heap m) (X : (hd.heap_39 w.params).In h₀) (N : News h₀ L s.heap news)
  (T : Top hd.view_39 (looseW hd.view_39 [Str.ofString "CHARSET_NAMES"]) mean mg mb h₀) (hk : cs.kind = .function)
  (hd : dp + 2 < recursionLimit) (hu : un + 16 < cLine)
  (hret : ∀ (d : Nat) o h' tk kvs, Fr h₀ L h' m → News h₀ L h' ((d, o) :: news) → (∀ p ∈ news, p.1 < d) → (d == sysModules) = false → o.IsDictOf (intKind PG w) kvs → FlatPairs PyData.int kvs (kdfD suppL) → Q (.ref d) { s with heap := h', toks := tk }) :
  wpAny (model PG w) (ktrTop dp un gd cn cs L a ccd cl outer) (call (.ref 36) [.bool true]) Q E s := by
  refine wpAny_call ?_
  k_dflt cell_enter
  k_steps
  rename IsSupp _ => hc
  obtain ⟨hc⟩ := hc
  subst hc
  rename FlatPairs PyData.int _ _ => hf
  rename Obj.IsDictOf (intKind PG w) _ _ => hD
  refine hret _ _ _ _ _ (by assumption) (cb_drop (by assumption) (by k_extra "MINE sub")) (by assumption) (by assumption) hD ?_
  refine Eq.mp (congrArg (FlatPairs PyData.int _) ?_) hf
  kernel_rfl
end
end Mine
theorem Mine.kw9 : True := by
  w_top off
  k_with "compareOp In" => (k_here; (with_reducible show wpAny _ _ (compareOp CmpOp.In (Value.bytes _ _) (Value.ref _)) _ _ _); k_dflt (refine' in_tup_K ?q9N ?q9m ?q9b ?_; (case q9N => k_asm); (case q9m => k_mem); (case q9b => first | with_reducible assumption | (repeat (first | exact BytesAre.nil | apply BytesAre.cons)))))
  k_with "compareOp NotIn" => (k_here; (with_reducible show wpAny _ _ (compareOp CmpOp.NotIn (Value.bytes _ _) (Value.ref _)) _ _ _); k_dflt (refine' notin_tup_K ?q9N ?q9m ?q9b ?_; (case q9N => k_asm); (case q9m => k_mem); (case q9b => first | with_reducible assumption | (repeat (first | exact BytesAre.nil | apply BytesAre.cons)))))
  trivial
namespace Mine
theorem cT {α : Type} {c : Bool} {x y z : α} (h : c = true) (e : x = z) : cond c x y = z := by subst h; exact e
theorem cF {α : Type} {c : Bool} {x y z : α} (h : c = false) (e : y = z) : cond c x y = z := by subst h; exact e
noncomputable def natL (b : Array UInt8) : List (Int × Int) :=
  cond (inB [#[67], #[53]] b) ((KBw.bInts #[91, 92, 93, 94, 96, 123, 124, 125, 126]).zip [196, 214, 197, 220, 233, 228, 246, 229, 252]) (
  cond (inB [#[72], #[55]] b) ((KBw.bInts #[64, 91, 92, 93, 94, 96, 123, 124, 125, 126]).zip [201, 196, 214, 197, 220, 233, 228, 246, 229, 252]) (
  cond (inB [#[96], #[69], #[54]] b) ((KBw.bInts #[64, 91, 92, 93, 94, 96, 123, 124, 125, 126]).zip [196, 198, 216, 197, 220, 228, 230, 248, 229, 252]) (
  cond (inB [#[82], #[102]] b) ((KBw.bInts #[35, 64, 91, 92, 93, 123, 124, 125, 126]).zip [163, 224, 176, 231, 167, 233, 249, 232, 168]) (
  cond (inB [#[81], #[57]] b) ((KBw.bInts #[64, 91, 92, 93, 94, 96, 123, 124, 125, 126]).zip [224, 226, 231, 234, 238, 244, 233, 249, 232, 251]) (
  cond (b.toList == #[75].toList) ((KBw.bInts #[64, 91, 92, 93, 123, 124, 125, 126]).zip [167, 196, 214, 220, 228, 246, 252, 223]) (
  cond (b.toList == #[89].toList) ((KBw.bInts #[35, 64, 91, 92, 93, 96, 123, 124, 125, 126]).zip [163, 167, 176, 231, 233, 249, 224, 242, 232, 236]) (
  cond (b.toList == #[90].toList) ((KBw.bInts #[35, 64, 91, 92, 93, 123, 124, 125]).zip [163, 167, 161, 209, 191, 176, 241, 231]) (
  cond (b.toList == #[61].toList) ((KBw.bInts #[35, 64, 91, 92, 93, 94, 95, 96, 123, 124, 125, 126]).zip [249, 224, 233, 231, 234, 238, 232, 244, 228, 246, 252, 251]) (
  (KBw.bInts #[35, 64, 91, 92, 93, 123, 124, 125, 126]).zip [163, 190, 307, 189, 124, 168, 402, 188, 180])))))))))
section
variable {w : World} {mg mb : Str → Option Value} {mean : ExcName → Option Value} {dp un : Nat} {gd : Option (List Code)} {cn : Str} {cs : Scope} {a : Addr} {ccd : Value} {cl : List (Str × Addr)} {outer : List Env} {A₀ : Around} {base h₀ : Heap} {L : Addr} {m : Str → Option Value} {s : Shared} {Q E : Value → Shared → Prop}
theorem national_spec {news : List (Addr × Obj)} {b : Array UInt8} {tb : Tok}
  (B : Below A₀ base outer h₀) (F : Fr h₀ L s.heap m) (X : (hd.heap_39 w.params).In h₀) (N : News h₀ L s.heap news)
  (T : Top hd.view_39 (looseW hd.view_39 [Str.ofString "CHARSET_NAMES"]) mean mg mb h₀) (hk : cs.kind = .function)
  (hd : dp + 2 < recursionLimit) (hu : un + 16 < cLine)
  (hret : ∀ (d : Nat) o h' tk kvs, Fr h₀ L h' m → News h₀ L h' ((d, o) :: news) → (∀ p ∈ news, p.1 < d) → (d == sysModules) = false → o.IsDictOf (intKind PG w) kvs → FlatPairs PyData.int kvs (kdfD (natL b)) → Q (.ref d) { s with heap := h', toks := tk }) :
  wpAny (model PG w) (ktrTop dp un gd cn cs L a ccd cl outer) (call (.ref 43) [.bytes b tb]) Q E s := by
  refine wpAny_call ?_
  k_dflt cell_enter
  k_steps
  all_goals (rename FlatPairs PyData.int _ _ => hf)
  all_goals (rename Obj.IsDictOf (intKind PG w) _ _ => hD)
  all_goals refine hret _ _ _ _ _ (by assumption) (cb_drop (by assumption) (by k_extra "MINE sub")) ?_ (by assumption) hD ?_
  all_goals first | (refine Eq.mp (congrArg (fun c => FlatPairs PyData.int _ (kdfD c)) ?_) hf; refine Eq.symm ?_; unfold natL; with_reducible (repeat (first | (refine cT ?h ?_; (case h => assumption)) | (refine cF ?h ?_; (case h => assumption)))); exact rfl) | skip
  all_goals first | assumption | (rename _ < _ ∧ _ => hlt; refine ktn_ltOf ?_; repeat (first | exact hlt | (replace hlt := hlt.2))) | skip
end
end Mine
theorem Mine.kw10 : True := by
  w_top off
  k_with "call ref" => (k_here; (with_reducible show wpAny _ _ (call (Value.ref 43) [Value.bytes _ _]) _ _ _); k_dflt (refine' national_spec ?q9B ?q9F ?q9X ?q9N ?q9T ?q9hk ?q9hd ?q9hu ?_; (case q9B => k_asm); (case q9F => k_asm); (case q9X => k_asm); (case q9N => k_asm); (case q9T => k_asm); (case q9hk => first | exact rfl | assumption); (case q9hd => ktr_room); (case q9hu => ktr_units)); intro d' o' h' tk' kvs' F' N' l1 lo' hd' hf'; (try k_lt l1))
  k_with "call ref" => (k_here; (with_reducible show wpAny _ _ (call (Value.ref 29) _) _ _ _); k_dflt (refine' drawing_spec ?q9B ?q9F ?q9X ?q9N ?q9T ?q9hk ?q9hd ?q9hu ?_; (case q9B => k_asm); (case q9F => k_asm); (case q9X => k_asm); (case q9N => k_asm); (case q9T => k_asm); (case q9hk => first | exact rfl | assumption); (case q9hd => ktr_room); (case q9hu => ktr_units)); intro d' o' h' tk' kvs' F' N' l1 lo' hd' hf'; (try k_lt l1))
  k_with "call ref" => (k_here; (with_reducible show wpAny _ _ (call (Value.ref 36) [Value.bool true]) _ _ _); k_dflt (refine' supp_spec ?q9B ?q9F ?q9X ?q9N ?q9T ?q9hk ?q9hd ?q9hu ?_; (case q9B => k_asm); (case q9F => k_asm); (case q9X => k_asm); (case q9N => k_asm); (case q9T => k_asm); (case q9hk => first | exact rfl | assumption); (case q9hd => ktr_room); (case q9hu => ktr_units)); intro d' o' h' tk' kvs' F' N' l1 lo' hd' hf'; (try k_lt l1))
  k_with "call ref" => (k_here; (with_reducible show wpAny _ _ (call (Value.ref 36) [Value.bool false]) _ _ _); k_dflt (refine' latin_spec ?q9B ?q9F ?q9X ?q9N ?q9T ?q9hk ?q9hd ?q9hu ?_; (case q9B => k_asm); (case q9F => k_asm); (case q9X => k_asm); (case q9N => k_asm); (case q9T => k_asm); (case q9hk => first | exact rfl | assumption); (case q9hd => ktr_room); (case q9hu => ktr_units)); intro d' o' h' tk' kvs' F' N' l1 lo' hd' hf'; (try k_lt l1))
  trivial
namespace Mine
theorem flat_of {kvs : List (Int × Value)} {c c' : List (Int × Int)} (e : c = c') (h : FlatPairs PyData.int kvs (kdfD c')) : FlatPairs PyData.int kvs (kdfD c) := e ▸ h
noncomputable def tableL (b : Array UInt8) : List (Int × Int) :=
  cond (b.toList == #[66].toList) [] (
  cond (b.toList == #[65].toList) ((KBw.bInts #[35]).zip [163]) (
  cond (b.toList == #[48].toList) drawL (
  cond (b.toList == #[37, 53].toList) suppL (
  cond (b.toList == #[60].toList) suppL (
  cond (b.toList == #[45, 65].toList) suppL0 (natL b))))))
section
variable {w : World} {mg mb : Str → Option Value} {mean : ExcName → Option Value} {dp un : Nat} {gd : Option (List Code)} {cn : Str} {cs : Scope} {a : Addr} {ccd : Value} {cl : List (Str × Addr)} {outer : List Env} {A₀ : Around} {base h₀ : Heap} {L : Addr} {m : Str → Option Value} {s : Shared} {Q E : Value → Shared → Prop}
theorem table_spec {news : List (Addr × Obj)} {b : Array UInt8} {tb : Tok}
  (B : Below A₀ base outer h₀) (F : Fr h₀ L s.heap m) (X : (hd.heap_39 w.params).In h₀) (N : News h₀ L s.heap news)
  (T : Top hd.view_39 (looseW hd.view_39 [Str.ofString "CHARSET_NAMES"]) mean mg mb h₀) (hk : cs.kind = .function)
  (hd : dp + 3 < recursionLimit) (hu : un + 24 < cLine)
  (hret : ∀ (d : Nat) o h' tk kvs, Fr h₀ L h' m → News h₀ L h' ((d, o) :: news) → (∀ p ∈ news, p.1 < d) → (d == sysModules) = false → o.IsDictOf (intKind PG w) kvs → FlatPairs PyData.int kvs (kdfD (tableL b)) → Q (.ref d) { s with heap := h', toks := tk }) :
  wpAny (model PG w) (ktrTop dp un gd cn cs L a ccd cl outer) (call (.ref 50) [.bytes b tb]) Q E s := by
  refine wpAny_call ?_
  k_dflt cell_enter
  k_steps
  all_goals (rename FlatPairs PyData.int _ _ => hf)
  all_goals (rename Obj.IsDictOf (intKind PG w) _ _ => hD)
  all_goals refine hret _ _ _ _ _ (by assumption) (cb_drop (by assumption) (by k_extra "MINE sub")) ?_ (by assumption) hD ?_
  all_goals (try (rename FlatPairs PyData.int [] [] => hf'; replace hf : FlatPairs PyData.int [] (kdfD []) := hf'))
  all_goals first | (refine Eq.mp (congrArg (fun c => FlatPairs PyData.int _ (kdfD c)) ?_) hf; refine Eq.symm ?_; unfold tableL; with_reducible (repeat (first | (refine cT ?h ?_; (case h => assumption)) | (refine cF ?h ?_; (case h => assumption)))); exact rfl) | skip
  all_goals first | assumption | (rename _ < _ ∧ _ => hlt; refine ktn_ltOf ?_; repeat (first | exact hlt | (replace hlt := hlt.2))) | skip
end
end Mine
theorem Mine.kw11 : True := by
  w_top off
  k_with "call ref" => (k_here; (with_reducible show wpAny _ _ (call (Value.ref 50) [Value.bytes _ _]) _ _ _); k_dflt (refine' table_spec ?q9B ?q9F ?q9X ?q9N ?q9T ?q9hk ?q9hd ?q9hu ?_; (case q9B => k_asm); (case q9F => k_asm); (case q9X => k_asm); (case q9N => k_asm); (case q9T => k_asm); (case q9hk => first | exact rfl | assumption); (case q9hd => ktr_room); (case q9hu => ktr_units)); intro d' o' h' tk' kvs' F' N' l1 lo' hd' hf'; (try k_lt l1))
  k_with "exec For Name Name" => (k_here; k_dflt (refine' For_invVF ?q9F ?q9hx ?q9hp ?_ ?q9hs ?q9hE; (case q9F => k_asm); (case q9hx => exact rfl); (case q9hp => exact rfl); (case q9hs => (intro _; exact rfl))))
  k_with "setItem ref" => (k_here; (with_reducible show wpAny _ _ (setItem (Value.ref _) (Value.bytes _ _) _) _ _ _); k_dflt (refine' kda_set (knd := bkind _ _) ?q9F ?q9N ?q9U ?q9d (bkind_is _ _ _ _) ?q9z ?_; (case q9F => k_asm); (case q9N => k_asm); (case q9U => k_updF); (case q9d => k_asm); (case q9z => exact fits1000 (by assumption))); intro h' o' F' N' hd'; (try dsimp only at N'))
  trivial
namespace Mine
theorem fr_in {h₀ h : Heap} {L : Addr} {m₁ m₀ : Str → Option Value} {x : Str} {v : Value} (e : ∀ z, z ≠ x → m₁ z = m₀ z) (F : Fr h₀ L h (fun y => if y = x then some v else m₁ y)) : Fr h₀ L h (fun y => if y = x then some v else m₀ y) := by
  have : (fun y => if y = x then some v else m₁ y) = (fun y => if y = x then some v else m₀ y) := funext fun z => by
    by_cases h : z = x
    · simp [h]
    · simp [h, e z h]
  exact this ▸ F
theorem fr_out {h₀ h : Heap} {L : Addr} {m₁ m₀ : Str → Option Value} {x : Str} (e : ∀ z, z ≠ x → m₁ z = m₀ z) (F : Fr h₀ L h m₁) : Fr h₀ L h (fun y => if y = x then m₁ y else m₀ y) := by
  have : m₁ = (fun y => if y = x then m₁ y else m₀ y) := funext fun z => by
    by_cases h : z = x
    · simp [h]
    · simp [h, e z h]
  exact this ▸ F
theorem fits1000 {n : Nat} (h : n ≤ 1000) : n ≤ sizeLine := by rw [sizeLine_eq]; omega
noncomputable def TabsOk (prog : Program) (w : World) (ns : List (Array UInt8)) (kvs : List (Array UInt8 × Value)) (TB : List (Addr × Obj)) : Prop :=
  ∀ b ∈ ns, ∃ (l : Nat) (o : Obj) (ks : List (Int × Value)), valueAt kvs b = some (.ref l) ∧ (l, o) ∈ TB ∧ (l == sysModules) = false ∧ o.IsDictOf (intKind prog w) ks ∧ FlatPairs PyData.int ks (kdfD (tableL b))
theorem TabsOk.mono {prog : Program} {w : World} {ns : List (Array UInt8)} {kvs : List (Array UInt8 × Value)} {TB TB' : List (Addr × Obj)} (h : TabsOk prog w ns kvs TB) (hs : ∀ p ∈ TB, p ∈ TB') : TabsOk prog w ns kvs TB' := fun b hb => by
  obtain ⟨l, o, ks, h1, h2, h3⟩ := h b hb
  exact ⟨l, o, ks, h1, hs _ h2, h3⟩
noncomputable def TabPost (prog : Program) (w : World) (h₀ : Heap) (L : Addr) (x : Str) (m₀ : Str → Option Value) (d : Addr) (tl : List (Addr × Obj)) (b : Array UInt8) (kvs : List (Array UInt8 × Value)) (s : Shared) (f : Flow) (s₂ : Shared) : Prop :=
  f = .next ∧ ∃ h' tk' o' l ol ks m', s₂ = { s with heap := h', toks := tk' } ∧ Fr h₀ L h' m' ∧ News h₀ L h' ((l, ol) :: (d, o') :: tl) ∧ (∀ z, z ≠ x → m' z = m₀ z) ∧ o'.IsDictOf (bkind prog w) (stored kvs b (.ref l)) ∧ d < l ∧ (∀ p ∈ tl, p.1 < l) ∧ (l == sysModules) = false ∧
    ol.IsDictOf (intKind prog w) ks ∧ FlatPairs PyData.int ks (kdfD (tableL b))
theorem TabPost.intro {prog : Program} {w : World} {h₀ : Heap} {L : Addr} {x : Str} {m₀ m' : Str → Option Value} {d l : Addr} {tl : List (Addr × Obj)} {b : Array UInt8} {kvs : List (Array UInt8 × Value)} {s : Shared} {h' : Heap} {tk' : Tok} {o' ol : Obj} {ks : List (Int × Value)}
    (F : Fr h₀ L h' m') (N : News h₀ L h' ((l, ol) :: (d, o') :: tl)) (hm : ∀ z, z ≠ x → m' z = m₀ z) (hd : o'.IsDictOf (bkind prog w) (stored kvs b (.ref l))) (hlt : d < l ∧ AllLt l tl) (lo : (l == sysModules) = false) (hk : ol.IsDictOf (intKind prog w) ks) (hf : FlatPairs PyData.int ks (kdfD (tableL b))) :
    TabPost prog w h₀ L x m₀ d tl b kvs s .next { s with heap := h', toks := tk' } := ⟨rfl, h', tk', o', l, ol, ks, m', rfl, F, N, hm, hd, hlt.1, ktn_ltOf hlt.2, lo, hk, hf⟩
section
variable {prog : Program} {w : World} {A : Around} {E : Value → Shared → Prop} {s : Shared} {env : Env} {h₀ : Heap} {x : Str} {body : List Stmt} {Q : Flow → Shared → Prop}
theorem tup_keep {h : Heap} {L t : Addr} {m : Str → Option Value} {items : Array Value} (F : Fr h₀ L h m) (ht : IsTup h₀ t items) : IsTup h t items := by
  obtain ⟨o, e, r⟩ := ht
  exact ⟨o, F.keep _ _ e, r⟩
noncomputable def TabInv (prog : Program) (w : World) (x : Str) (m₀ : Str → Option Value) (d : Addr) (rest : List (Addr × Obj)) (ns : List (Array UInt8)) (i : Nat) (m' : Str → Option Value) (news' : List (Addr × Obj)) : Prop :=
  ∃ o kvs TB, news' = (d, o) :: (TB ++ rest) ∧ (∀ z, z ≠ x → m' z = m₀ z) ∧ o.IsDictOf (bkind prog w) kvs ∧ kvs.length ≤ i ∧ (∀ p ∈ TB, p.1 ≠ d) ∧ TabsOk prog w (ns.take i) kvs TB ∧ Off TB rest
theorem tables_loop {t d L : Nat} {o : Obj} {rest : List (Addr × Obj)} {m₀ : Str → Option Value} {vs : List Value} {ns : List (Array UInt8)}
    (hL : env.locals = L) (hh : A.handled = none) (ht : IsTup h₀ t vs.toArray) (hv : BytesAre vs ns) (hlen : ns.length ≤ 1000) (F : Fr h₀ L s.heap m₀) (N : News h₀ L s.heap ((d, o) :: rest)) (hd : o.IsDictOf (bkind prog w) []) (hoff : ∀ p ∈ rest, p.1 ≠ d)
    (turn : ∀ (o : Obj) kvs tl b t h tk, kvs.length ≤ 1000 → (∀ p ∈ tl, p.1 ≠ d) → o.IsDictOf (bkind prog w) kvs →
      Fr h₀ L h (fun y => if y = x then some (.bytes b t) else m₀ y) → News h₀ L h ((d, o) :: tl) →
      wpAny (model prog w) A (execs body env) (TabPost prog w h₀ L x m₀ d tl b kvs s) E { s with heap := h, toks := tk })
    (done : ∀ (o : Obj) kvs TB (u : Str → Option Value) h tk, TabsOk prog w ns kvs TB → o.IsDictOf (bkind prog w) kvs → Fr h₀ L h (fun y => if y = x then u y else m₀ y) → News h₀ L h ((d, o) :: (TB ++ rest)) → Off TB rest → Q .next { s with heap := h, toks := tk }) :
    wpAny (model prog w) A (pyIter (.ref t)) (fun it s₂ => LoopAtV prog w A h₀ env x body Q E it s₂) E s := by
  have hl := hv.length
  refine loop_tup (news := (d, o) :: rest) (TabInv prog w x m₀ d rest ns) hL hh (tup_keep F ht) F N (by subst hL; exact Fr.old_ne F ht) ⟨o, [], [], rfl, fun _ _ => rfl, hd, by simp, fun _ h => (nomatch h), fun b hb => by simp at hb, .nil⟩ ?_ ?_
  · rintro i v m₁ news₁ h tk own I hi ⟨o, kvs, TB, rfl, hm, hd', hk, hne, hT, hO⟩ hI ⟨oI, hown⟩ hIt F₁ N₁
    have hi' : i < vs.length := by
      have := (Array.getElem?_eq_some_iff.mp hi).1
      simpa using this
    have hin : i < ns.length := hl ▸ hi'
    have hget : ns[i]? = some ns[i] := by simp [hin]
    obtain ⟨tk₀, hv'⟩ := hv.get i _ hget
    have ev : v = .bytes ns[i] tk₀ := by
      have : vs[i]? = some v := by simpa using hi
      rw [hv'] at this
      exact (Option.some.inj this).symm
    subst ev
    have hoffI : d ≠ I := hI (d, o) (.head _)
    have hdt : d ≠ t := by
      rintro rfl
      obtain ⟨o', e, _⟩ := ht
      have := (N (d, _) (.head _)).2.2
      rw [e] at this
      cases this
    have hownd : ∀ p ∈ own, p.1 ≠ d := fun p hp e => (hIt p hp).elim (fun q => hoffI (e.symm.trans q)) fun q => hdt (e.symm.trans q)
    refine wpAny_mono (turn o kvs (TB ++ (rest ++ own)) ns[i] tk₀ h tk (by omega) (fun p hp => ?_) hd' (fr_in hm F₁) (by simpa using N₁)) (fun f s₂ hq => ?_) fun _ _ e => e
    · rcases List.mem_append.mp hp with q | q
      · exact hne p q
      · rcases List.mem_append.mp q with q | q
        · exact hoff p q
        · exact hownd p q
    · obtain ⟨rfl, h', tk', o', l, ol, ks, m', rfl, F3, N3, hm3, hd3, hdl, hlt, lo, hk3, hf3⟩ := hq
      refine TurnPost.next (news' := (d, o') :: ((l, ol) :: TB) ++ rest) F3 (fun p hp => N3 p ?_) (fun p hp => ?_) ⟨o', _, (l, ol) :: TB, rfl, hm3, hd3, Nat.le_trans (stored_len _ _ _) (by omega), ?_, ?_, .cons (fun q hq => Nat.ne_of_lt (hlt q (List.mem_append.mpr (.inr (List.mem_append.mpr (.inl hq)))))) hO⟩
      · simp only [List.mem_append, List.mem_cons, List.cons_append] at hp ⊢
        rcases hp with h | h | (h | h) | h <;> simp [h]
      · have hIl : I < l := hlt _ (List.mem_append.mpr (.inr (List.mem_append.mpr (.inr hown))))
        have hmem : p = (d, o') ∨ p = (l, ol) ∨ p ∈ TB ∨ p ∈ rest := by
          simpa [List.mem_append, List.mem_cons, List.cons_append] using hp
        rcases hmem with rfl | rfl | q | q
        · exact hoffI
        · exact Nat.ne_of_gt hIl
        · exact hI p (.tail _ (List.mem_append.mpr (.inl q)))
        · exact hI p (.tail _ (List.mem_append.mpr (.inr q)))
      · intro p hp
        rcases List.mem_cons.mp hp with rfl | q
        · exact Nat.ne_of_gt hdl
        · exact hne p q
      · intro b hb
        by_cases e : b = ns[i]
        · subst e
          exact ⟨l, ol, ks, by rw [valueAt_stored, if_pos rfl], .head _, lo, hk3, hf3⟩
        · have hb' : b ∈ ns.take i := by
            rw [List.take_add_one, hget] at hb
            rcases List.mem_append.mp hb with q | q
            · exact q
            · exact absurd (by simpa using q) e
          obtain ⟨l₂, o₂, ks₂, h1, h2, h3, h4, h5⟩ := hT b hb'
          exact ⟨l₂, o₂, ks₂, by rw [valueAt_stored, if_neg e]; exact h1, .tail _ h2, h3, h4, h5⟩
  · rintro m₁ news₁ h tk ⟨o, kvs, TB, rfl, hm, hd', hk, hne, hT, hO⟩ F₁ N₁
    refine done o kvs TB m₁ h tk ?_ hd' (fr_out hm F₁) N₁ hO
    rwa [List.take_of_length_le (by simp [hl])] at hT
end
end Mine
namespace Mine
noncomputable def names22 : List (Array UInt8) := [#[66], #[65], #[48], #[37, 53], #[60], #[45, 65], #[52], #[67], #[53], #[82], #[102], #[81], #[57], #[75], #[89], #[96], #[69], #[54], #[90], #[72], #[55], #[61]]
end Mine
theorem Mine.kw12 : True := by
  w_top off
  k_with "MINE pyIter ref" => (k_here; (with_reducible show wpAny _ _ (pyIter (Value.ref 15)) (fun it s₂ => LoopAtV _ _ _ _ _ _ _ _ _ it s₂) _ _); k_dflt (refine' tables_loop (ns := names22) ?q9hL ?q9hh ?q9ht ?q9hv ?q9hlen ?q9F ?q9N ?q9hd ?q9hoff ?_ ?_; (case q9F => k_asm); (case q9hL => exact rfl); (case q9hh => exact rfl); (case q9ht => exact tupK (by k_asm) (by k_is)); (case q9hv => repeat (first | exact BytesAre.nil | apply BytesAre.cons)); (case q9hlen => decide); (case q9N => k_asm); (case q9hd => exact empty_kind (by assumption)); (case q9hoff => k_all)); (all_goals intros); (all_goals (try dsimp only)))
  k_with "TabPost" => (k_dflt (refine' TabPost.intro ?q9F ?q9N ?q9m ?q9d ?q9lt ?q9lo ?q9k ?q9f; (case q9F => k_asm); (case q9N => k_asm); (case q9m => intro z hz; first | rfl | exact if_neg hz); (case q9d => assumption); (case q9lt => assumption); (case q9lo => assumption); (case q9k => assumption); (case q9f => assumption)))
  trivial
namespace Mine
section
variable {w : World} {mg mb : Str → Option Value} {mean : ExcName → Option Value} {dp un : Nat} {gd : Option (List Code)} {cn : Str} {cs : Scope} {a : Addr} {ccd : Value} {cl : List (Str × Addr)} {outer : List Env} {A₀ : Around} {base h₀ : Heap} {L : Addr} {m : Str → Option Value} {s : Shared} {Q E : Value → Shared → Prop}
theorem tables_spec {news : List (Addr × Obj)}
  (B : Below A₀ base outer h₀) (F : Fr h₀ L s.heap m) (X : (hd.heap_39 w.params).In h₀) (N : News h₀ L s.heap news)
  (T : Top hd.view_39 (looseW hd.view_39 [Str.ofString "CHARSET_NAMES"]) mean mg mb h₀) (hk : cs.kind = .function)
  (hd : dp + 4 < recursionLimit) (hu : un + 32 < cLine)
  (hret : ∀ (d : Nat) o h' tk kvs TB, Fr h₀ L h' m → News h₀ L h' (TB ++ news) → Off TB news → (d, o) ∈ TB → (d == sysModules) = false → o.IsDictOf (bkind PG w) kvs → TabsOk PG w names22 kvs TB → Q (.ref d) { s with heap := h', toks := tk }) :
  wpAny (model PG w) (ktrTop dp un gd cn cs L a ccd cl outer) (call (.ref 57) []) Q E s := by
  refine wpAny_call ?_
  k_dflt cell_enter
  k_steps
  rename TabsOk _ _ _ _ _ => hT
  rename Off _ _ => hO
  rename Obj.IsDictOf (bkind PG w) _ _ => hD
  refine hret _ _ _ _ _ _ (by assumption) (pack (by assumption) (.cons _ ?_)) (.cons (off_lt (by assumption)) hO) List.mem_cons_self (by assumption) hD (hT.mono fun p hp => List.mem_cons_of_mem _ hp)
  exact Tl.app _ _
end
end Mine
theorem Mine.kw13 : True := by
  w_top off
  k_with "call type:bytes" => (k_here; (with_reducible show wpAny _ _ (call (Value.type "bytes") [Value.ref _]) _ _ _); k_dflt (refine' bytes_range_K (n := 32) ?q9F ?q9N ?q9hh ?q9hr ?q9hs ?q9hn ?q9h0 ?q9h1 ?_; (case q9F => k_asm); (case q9N => k_asm); (case q9hh => exact rfl); (case q9hr => assumption); (case q9hs => kernel_rfl); (case q9hn => kernel_rfl); (case q9h0 => decide); (case q9h1 => decide)); intro h' t' k' F' N')
  k_with "MINE mem" => (repeat (first | with_reducible exact List.mem_cons_self | refine List.mem_cons_of_mem _ ?_))
  k_with "MINE lt" => with_reducible (first | assumption | (apply And.right; k_extra "MINE lt"))
  trivial
namespace Mine
noncomputable def rowsL : List (List (Array UInt8) × Array UInt8 × List Int) := [
  ([#[48]], byteArr (rangeKs 95 32), [32, 9670, 9618, 9225, 9228, 9229, 9226, 176, 177, 9252, 9227, 9496, 9488, 9484, 9492, 9532, 9146, 9147, 9472, 9148, 9149, 9500, 9508, 9524, 9516, 9474, 8804, 8805, 960, 8800, 163, 183]),
  ([#[65]], #[35], [163]),
  ([#[66]], #[], []),
  ([#[75]], #[64, 91, 92, 93, 123, 124, 125, 126], [167, 196, 214, 220, 228, 246, 252, 223]),
  ([#[82], #[102]], #[35, 64, 91, 92, 93, 123, 124, 125, 126], [163, 224, 176, 231, 167, 233, 249, 232, 168]),
  ([#[89]], #[35, 64, 91, 92, 93, 96, 123, 124, 125, 126], [163, 167, 176, 231, 233, 249, 224, 242, 232, 236]),
  ([#[90]], #[35, 64, 91, 92, 93, 123, 124, 125], [163, 167, 161, 209, 191, 176, 241, 231]),
  ([#[72], #[55]], #[64, 91, 92, 93, 94, 96, 123, 124, 125, 126], [201, 196, 214, 197, 220, 233, 228, 246, 229, 252]),
  ([#[67], #[53]], #[91, 92, 93, 94, 96, 123, 124, 125, 126], [196, 214, 197, 220, 233, 228, 246, 229, 252]),
  ([#[61]], #[35, 64, 91, 92, 93, 94, 95, 96, 123, 124, 125, 126], [249, 224, 233, 231, 234, 238, 232, 244, 228, 246, 252, 251]),
  ([#[81], #[57]], #[64, 91, 92, 93, 94, 96, 123, 124, 125, 126], [224, 226, 231, 234, 238, 244, 233, 249, 232, 251])]
noncomputable def fdBody : Option Obj → List Stmt
  | some ⟨_, _, .func fd, _⟩ => (match fd.body with | .stmts b => b | _ => [])
  | _ => []
noncomputable def fdScope : Option Obj → Scope
  | some ⟨_, _, .func fd, _⟩ => fd.scope
  | _ => { kind := .function, names := [], isGenerator := false, isCoroutine := false }
noncomputable def Halt (P : Prop) : Prop := P
theorem Halt.intro {P : Prop} (h : Halt P) : P := h
noncomputable def signScope (w : World) : Scope := fdScope ((hd.heap_39 w.params).lookup 171)
theorem RowsAre.snoc {RB : List (Addr × Obj)} {rs RL} (h : RowsAre RB rs RL) {t ln lc : Nat} {b : Array UInt8} {tb : Tok} {vn vc : List Value} {n1 n2 : Nat} {ns : List (Array UInt8)} {cs : List Int}
    (h1 : (t, ({ cls := .type "tuple", data := .seq #[.ref ln, .bytes b tb, .ref lc] } : Obj)) ∈ RB) (h2 : (ln, listOf vn.toArray n1) ∈ RB) (h3 : BytesAre vn ns) (h4 : (lc, listOf vc.toArray n2) ∈ RB) (h5 : IntsAre vc cs) :
    RowsAre RB (rs ++ [.ref t]) (RL ++ [(ns, b, cs)]) := by
  induction h with
  | nil => exact .cons h1 h2 h3 h4 h5 .nil
  | cons a b c d e _ ih => exact .cons a b c d e (ih)
/-- between two appends: the list of rows stands at fa, all that the rows hold in RB -/
structure SgAt (h₀ : Heap) (L : Addr) (news : List (Addr × Obj)) (fa n : Nat) (rs : List Value) (RB : List (Addr × Obj)) (RL : List (List (Array UInt8) × Array UInt8 × List Int)) (h : Heap) : Prop where
  N : News h₀ L h ((fa, listOf rs.toArray n) :: (RB ++ news))
  o1 : ∀ p ∈ RB ++ news, p.1 ≠ fa
  off : Off RB news
  rows : RowsAre RB rs RL
  len : rs.length ≤ 100
theorem SgAt.step {h₀ h h' : Heap} {L : Addr} {news : List (Addr × Obj)} {fa n n' : Nat} {rs : List Value} {RB : List (Addr × Obj)} {RL : List (List (Array UInt8) × Array UInt8 × List Int)} (S : SgAt h₀ L news fa n rs RB RL h)
    {t ln lc : Nat} {b : Array UInt8} {tb : Tok} {vn vc : List Value} {n1 n2 : Nat} {ns : List (Array UInt8)} {cs : List Int} (hlen : rs.length < 100)
    (N' : News h₀ L h' ((t, ({ cls := .type "tuple", data := .seq #[.ref ln, .bytes b tb, .ref lc] } : Obj)) :: (lc, listOf vc.toArray n2) :: (ln, listOf vn.toArray n1) :: (fa, listOf (rs.toArray.push (.ref t)) n') :: (RB ++ news)))
    (hb : BytesAre vn ns) (hi : IntsAre vc cs) (l1 : fa < ln ∧ ∀ p ∈ RB ++ news, p.1 < ln) (l2 : fa < lc ∧ ∀ p ∈ RB ++ news, p.1 < lc) (l3 : fa < t ∧ ∀ p ∈ RB ++ news, p.1 < t) :
    SgAt h₀ L news fa n' (rs ++ [.ref t]) ((t, ({ cls := .type "tuple", data := .seq #[.ref ln, .bytes b tb, .ref lc] } : Obj)) :: (lc, listOf vc.toArray n2) :: (ln, listOf vn.toArray n1) :: RB) (RL ++ [(ns, b, cs)]) h' where
  N := by
    have e : (rs ++ [Value.ref t]).toArray = rs.toArray.push (Value.ref t) := by simp
    rw [e]
    refine cb_drop N' ?_
    simp only [List.forall_mem_cons, List.cons_append]
    exact ⟨by simp, by simp, by simp, by simp, fun p hp => by simp only [List.mem_cons]; exact .inr (.inr (.inr (.inr hp)))⟩
  o1 := by
    simp only [List.cons_append, List.forall_mem_cons]
    exact ⟨Nat.ne_of_gt l3.1, Nat.ne_of_gt l2.1, Nat.ne_of_gt l1.1, S.o1⟩
  off := Off.cons (fun q hq => Nat.ne_of_lt (l3.2 q (List.mem_append.mpr (.inr hq)))) (Off.cons (fun q hq => Nat.ne_of_lt (l2.2 q (List.mem_append.mpr (.inr hq)))) (Off.cons (fun q hq => Nat.ne_of_lt (l1.2 q (List.mem_append.mpr (.inr hq)))) S.off))
  rows := RowsAre.snoc (S.rows.mono fun p hp => .tail _ (.tail _ (.tail _ hp))) (.head _) (.tail _ (.tail _ (.head _))) hb (.tail _ (.head _)) hi
  len := by rw [List.length_append]; exact hlen
end Mine
theorem Mine.kw14 : True := by
  w_top off
  k_with "execs cons Expr cons" => (k_here; (with_reducible show wpAny _ _ (execs (Stmt.Expr (Expr.Call (Expr.Attribute _ (PySem.Str.ofString "append") _) _ _ _) _ :: _) _) _ _ _); refine Mine.Halt.intro ?_)
  trivial
theorem Mine.kw15 : True := by
  w_top off
  k_with "eval Call Attribute" => (k_here; (with_reducible show wpAny _ _ (eval (Expr.Call (Expr.Attribute _ (PySem.Str.ofString "append") _) _ _ _) _) _ _ _); refine MethodCall_ ?_ (by with_reducible assumption))
  trivial
namespace Mine
section
variable {w : World} {mg mb : Str → Option Value} {mean : ExcName → Option Value} {dp un : Nat} {gd : Option (List Code)} {cn : Str} {cs : Scope} {L₀ a : Addr} {ccd : Value} {cl : List (Str × Addr)} {outer : List Env} {A₀ : Around} {base h₀ : Heap} {L g : Addr} {cd : Value} {u : Str → Option Value} {s : Shared} {Q : Flow → Shared → Prop} {E : Value → Shared → Prop}
theorem sg_append {news RB : List (Addr × Obj)} {fa n : Nat} {rs : List Value} {RL : List (List (Array UInt8) × Array UInt8 × List Int)} {nE cE : List PySem.Expr} {b : List UInt8} {ns : List (Array UInt8)} {zs : List Int} {k4 k6 : Nat} {p1 p2 p3 p4 p5 p6 p7 p8 : Pos}
  (B : Below (ktrTop dp un gd cn cs L₀ a ccd cl outer) base (envX cn cs L₀ a ccd cl :: outer) h₀) (X : (hd.heap_39 w.params).In h₀) (T : Top hd.view_39 (looseW hd.view_39 [Str.ofString "CHARSET_NAMES"]) mean mg mb h₀)
  (F : Fr h₀ L s.heap (fun y => if y = Str.ofString "found" then some (.ref fa) else u y)) (S : SgAt h₀ L news fa n rs RB RL s.heap) (hlen : rs.length < 100) (cb : ConstB nE ns) (cbn : ns.length ≤ 1000) (ci : ConstI cE zs) (cin : zs.length ≤ 1000)
  {pl : Sem Bool} (he : eval (.Call (.Attribute (.Name (Str.ofString "found") p1) (Str.ofString "append") p2) [.Tuple [.List nE p3, .Constant (.bytes b) k4 p4, .List cE p5] k6 p6] [] p7) (envOf (Str.ofString "_law_signs") (signScope w) L g cd) = (do
      let ov ← eval (.Name (Str.ofString "found") p1) (envOf (Str.ofString "_law_signs") (signScope w) L g cd)
      standAt p2.atName
      let (f, first) ← holding [ov] (getMethod ov (Str.ofString "append") pl)
      callWith p7 f first (backTo p7 (starEach [.Tuple [.List nE p3, .Constant (.bytes b) k4 p4, .List cE p5] k6 p6] (envOf (Str.ofString "_law_signs") (signScope w) L g cd))) []))
  (hret : ∀ h' tk n' rs' RB', Fr h₀ L h' (fun y => if y = Str.ofString "found" then some (.ref fa) else u y) → SgAt h₀ L news fa n' rs' RB' (RL ++ [(ns, b.toArray, zs)]) h' → rs'.length = rs.length + 1 → Q .next { s with heap := h', toks := tk }) :
  wpAny (model PG w) ((ktrTop dp un gd cn cs L₀ a ccd cl outer).deeper (envOf (Str.ofString "_law_signs") (signScope w) L g cd))
    (exec (.Expr (.Call (.Attribute (.Name (Str.ofString "found") p1) (Str.ofString "append") p2) [.Tuple [.List nE p3, .Constant (.bytes b) k4 p4, .List cE p5] k6 p6] [] p7) p8) (envOf (Str.ofString "_law_signs") (signScope w) L g cd)) Q E s := by
  have N := S.N
  have o1 := S.o1
  have hsz : rs.toArray.size ≤ 1000 := by have := S.len; simp only [List.size_toArray]; omega
  generalize htl : RB ++ news = tl at N o1
  revert he
  conv in (occs := *) signScope w => all_goals whnf
  intro he
  k_steps
  subst htl
  rename _ < _ ∧ _ < _ ∧ _ < _ ∧ AllLt _ _ => y3
  rename _ < _ ∧ _ < _ ∧ AllLt _ _ => y2
  rename _ < _ ∧ AllLt _ _ => y1
  exact hret _ _ _ _ _ (by assumption) (S.step hlen (by assumption) (by assumption) (by assumption) ⟨y1.1, ktn_ltOf y1.2⟩ ⟨y2.2.1, ktn_ltOf y2.2.2⟩ ⟨y3.2.2.1, ktn_ltOf y3.2.2.2⟩) (by rw [List.length_append]; rfl)
noncomputable def signTail (w : World) : List Stmt := (fdBody ((hd.heap_39 w.params).lookup 171)).drop 3
theorem signs_tail {news RB : List (Addr × Obj)} {fa n : Nat} {rs : List Value}
  (B : Below (ktrTop dp un gd cn cs L₀ a ccd cl outer) base (envX cn cs L₀ a ccd cl :: outer) h₀) (X : (hd.heap_39 w.params).In h₀) (T : Top hd.view_39 (looseW hd.view_39 [Str.ofString "CHARSET_NAMES"]) mean mg mb h₀)
  (F : Fr h₀ L s.heap (fun y => if y = Str.ofString "found" then some (.ref fa) else u y)) (S : SgAt h₀ L news fa n rs RB (rowsL.take 3) s.heap) (hl : rs.length = 3)
  (hret : ∀ h' tk n' rs' RB', Fr h₀ L h' (fun y => if y = Str.ofString "found" then some (.ref fa) else u y) → SgAt h₀ L news fa n' rs' RB' rowsL h' → Q (.ret (.ref fa)) { s with heap := h', toks := tk }) :
  wpAny (model PG w) ((ktrTop dp un gd cn cs L₀ a ccd cl outer).deeper (envOf (Str.ofString "_law_signs") (signScope w) L g cd))
    (execs (signTail w) (envOf (Str.ofString "_law_signs") (signScope w) L g cd)) Q E s := by
  conv in (occs := *) signTail w => all_goals whnf
  refine wpAny_execs_cons ?_
  with_unfolding_all refine sg_append B X T F S (by omega) (by repeat (first | exact ConstB.nil | apply ConstB.cons)) (by decide) (by repeat (first | exact ConstI.nil | apply ConstI.cons)) (by decide) rfl fun h' tk n' rs' RB' F S hl' => ?_
  dsimp only
  refine wpAny_execs_cons ?_
  with_unfolding_all refine sg_append B X T F S (by omega) (by repeat (first | exact ConstB.nil | apply ConstB.cons)) (by decide) (by repeat (first | exact ConstI.nil | apply ConstI.cons)) (by decide) rfl fun h' tk n' rs' RB' F S hl' => ?_
  dsimp only
  refine wpAny_execs_cons ?_
  with_unfolding_all refine sg_append B X T F S (by omega) (by repeat (first | exact ConstB.nil | apply ConstB.cons)) (by decide) (by repeat (first | exact ConstI.nil | apply ConstI.cons)) (by decide) rfl fun h' tk n' rs' RB' F S hl' => ?_
  dsimp only
  refine wpAny_execs_cons ?_
  with_unfolding_all refine sg_append B X T F S (by omega) (by repeat (first | exact ConstB.nil | apply ConstB.cons)) (by decide) (by repeat (first | exact ConstI.nil | apply ConstI.cons)) (by decide) rfl fun h' tk n' rs' RB' F S hl' => ?_
  dsimp only
  refine wpAny_execs_cons ?_
  with_unfolding_all refine sg_append B X T F S (by omega) (by repeat (first | exact ConstB.nil | apply ConstB.cons)) (by decide) (by repeat (first | exact ConstI.nil | apply ConstI.cons)) (by decide) rfl fun h' tk n' rs' RB' F S hl' => ?_
  dsimp only
  refine wpAny_execs_cons ?_
  with_unfolding_all refine sg_append B X T F S (by omega) (by repeat (first | exact ConstB.nil | apply ConstB.cons)) (by decide) (by repeat (first | exact ConstI.nil | apply ConstI.cons)) (by decide) rfl fun h' tk n' rs' RB' F S hl' => ?_
  dsimp only
  refine wpAny_execs_cons ?_
  with_unfolding_all refine sg_append B X T F S (by omega) (by repeat (first | exact ConstB.nil | apply ConstB.cons)) (by decide) (by repeat (first | exact ConstI.nil | apply ConstI.cons)) (by decide) rfl fun h' tk n' rs' RB' F S hl' => ?_
  dsimp only
  refine wpAny_execs_cons ?_
  with_unfolding_all refine sg_append B X T F S (by omega) (by repeat (first | exact ConstB.nil | apply ConstB.cons)) (by decide) (by repeat (first | exact ConstI.nil | apply ConstI.cons)) (by decide) rfl fun h' tk n' rs' RB' F S hl' => ?_
  dsimp only
  conv in (occs := *) signScope w => all_goals whnf
  k_steps
  dsimp only
  exact hret _ _ _ _ _ (by assumption) S
theorem sg_start {h₀ h : Heap} {L : Addr} {l RB news : List (Addr × Obj)} {fa n : Nat} {rs : List Value} {RL : List (List (Array UInt8) × Array UInt8 × List Int)} (N : News h₀ L h ((fa, listOf rs.toArray n) :: l)) (t : Tl news l RB)
    (o1 : ∀ p ∈ l, p.1 ≠ fa) (off : Off RB news) (rows : RowsAre RB rs RL) (len : rs.length ≤ 100) : SgAt h₀ L news fa n rs RB RL h := by
  have := t.eq
  subst this
  exact ⟨N, o1, off, rows, len⟩
theorem signs_spec {m : Str → Option Value} {cs : Scope} {Q : Value → Shared → Prop} {news : List (Addr × Obj)}
  (B : Below A₀ base outer h₀) (F : Fr h₀ L s.heap m) (X : (hd.heap_39 w.params).In h₀) (N : News h₀ L s.heap news)
  (T : Top hd.view_39 (looseW hd.view_39 [Str.ofString "CHARSET_NAMES"]) mean mg mb h₀) (hk : cs.kind = .function)
  (hd : dp + 4 < recursionLimit) (hu : un + 32 < cLine)
  (hret : ∀ (d : Nat) h' tk n rs RB, Fr h₀ L h' m → News h₀ L h' (RB ++ news) → Off RB news → (d, listOf rs.toArray n) ∈ RB → RowsAre RB rs rowsL → Q (.ref d) { s with heap := h', toks := tk }) :
  wpAny (model PG w) (ktrTop dp un gd cn cs L a ccd cl outer) (call (.ref 171) []) Q E s := by
  refine wpAny_call ?_
  k_dflt cell_enter
  k_steps
  unfold Halt
  rename News _ _ _ _ => N1
  have cf := @signs_tail w
  with_unfolding_all show wpAny _ ((ktrTop dp un gd cn cs L a ccd cl outer).deeper (envOf (Str.ofString "_law_signs") (signScope w) _ _ _)) (execs (signTail w) (envOf (Str.ofString "_law_signs") (signScope w) _ _ _)) _ _ _
  generalize signTail w = S0 at cf ⊢
  refine' cf (news := news) ?B ?X ?T ?F (sg_start N1 ?tl ?o1 ?off ?rows ?len) ?hl ?done
  case B => k_asm
  case X => k_asm
  case T => k_asm
  case F => k_asm
  case hl => rfl
  case len => exact Nat.le_of_ble_eq_true rfl
  case tl => repeat (first | exact Tl.nil | apply Tl.cons)
  case o1 => exact fun p hp => Nat.ne_of_lt (ktn_ltOf (by assumption) p hp)
  case off => repeat (first | exact Off.nil | (refine Off.cons (off_lt (by assumption)) ?_) | (refine Off.cons (off_all (by k_extra "MINE lt")) ?_))
  case rows => repeat (first | exact RowsAre.nil | (refine' RowsAre.cons ?m1 ?m2 ?i1 ?m3 ?i2 ?_; (case m1 => k_extra "MINE mem"); (case m2 => k_extra "MINE mem"); (case m3 => k_extra "MINE mem"); (case i1 => first | with_reducible assumption | (repeat (first | exact BytesAre.nil | apply BytesAre.cons))); (case i2 => first | with_reducible assumption | assumption | (repeat (first | exact IntsAre.nil | apply IntsAre.cons)))))
  case done =>
    clear cf
    intro h' tk n' rs' RB' F' S'
    have N' := S'.N
    k_steps
    exact hret _ _ _ _ _ ((_, _) :: RB') (by assumption) (by assumption) (Off.cons (fun q hq => S'.o1 q (List.mem_append.mpr (.inr hq))) S'.off) (.head _) (S'.rows.mono fun p hp => .tail _ hp)
end
end Mine
namespace Mine
theorem fm_nn (a : Int) {b : Int} (h : 0 < b) : 0 ≤ a.fmod b := by
  rw [Int.fmod_eq_emod_of_nonneg a (by omega)]
  exact Int.emod_nonneg _ (by omega)
theorem fm_lo {t : Nat} {ns : List Int} (h : decide (ns = []) = false) : 0 ≤ ((t : Int) + 1).fmod ns.length := by
  have : ns ≠ [] := of_decide_eq_false h
  have := List.length_pos_iff.mpr this
  exact Int.fmod_nonneg (by omega) (by omega)
theorem fm_hi {t : Nat} {ns : List Int} (h : decide (ns = []) = false) : ((t : Int) + 1).fmod ns.length < ns.length := by
  have : ns ≠ [] := of_decide_eq_false h
  have := List.length_pos_iff.mpr this
  exact Int.fmod_lt_of_pos _ (by omega)
theorem fm_fit {t : Nat} {ns : List Int} (h : decide (ns = []) = false) (hl : ns.length ≤ 48) : ((t : Int) + 1).fmod ns.length < 2 ^ 63 := by
  have := fm_hi (t := t) h
  omega
end Mine
theorem Mine.kw16 : True := by
  w_top off
  k_with "subscriptTail" => (k_here; (with_reducible show wpAny _ _ (subscriptTail _ _ (Value.ref _) (Value.int (Int.fmod _ _) _)) _ _ _); (with_unfolding_all refine' item_anyK ?q9k1 ?q9k2 ?q9k3 ?q9k4 ?q9k5 ?_ ?q9k6; (case q9k1 => is_list); (case q9k2 => l_ints); (case q9k3 => exact fm_lo (by assumption)); (case q9k4 => exact fm_hi (by assumption)); (case q9k5 => exact fm_fit (by assumption) (by assumption)); (case q9k6 => with_unfolding_all rfl); k_whole); intro _)
  trivial
namespace Mine
section
variable {w : World} {mg mb : Str → Option Value} {mean : ExcName → Option Value} {dp un : Nat} {gd : Option (List Code)} {cn : Str} {cs : Scope} {a : Addr} {ccd : Value} {cl : List (Str × Addr)} {outer : List Env} {A₀ : Around} {base h₀ : Heap} {L : Addr} {m : Str → Option Value} {s : Shared} {Q E : Value → Shared → Prop}
theorem draw_core {deck lc : Nat} {rest : List (Addr × Obj)} {vs : List Value} {ns : List Int} {t n n' : Nat} {tt : Tok} {b : Int} {tb : Tok}
  (B : Below A₀ base outer h₀) (F : Fr h₀ L s.heap m) (X : (hd.heap_39 w.params).In h₀) (N : News h₀ L s.heap ((deck, listOf [.ref lc, .int t tt].toArray n) :: (lc, listOf vs.toArray n') :: rest))
  (T : Top hd.view_39 (looseW hd.view_39 [Str.ofString "CHARSET_NAMES"]) mean mg mb h₀) (hk : cs.kind = .function) (hi : IntsAre vs ns) (hdc : lc ≠ deck) (hoff : ∀ p ∈ rest, p.1 ≠ deck) (hlen : ns.length ≤ 48) (ht : t < 1000) (hb : 2 ≤ b ∧ b < 100)
  (hd : dp + 1 < recursionLimit) (hu : un + 80 < cLine)
  (hret : ∀ (r : Int) (tr tt' : Tok) h' tk', 0 ≤ r → r < b → Fr h₀ L h' m → News h₀ L h' ((deck, listOf [.ref lc, .int (t + 1) tt'].toArray n) :: (lc, listOf vs.toArray n') :: rest) → Q (.int r tr) { s with heap := h', toks := tk' }) :
  wpAny (model PG w) (ktrTop dp un gd cn cs L a ccd cl outer) (call (.ref 164) [.ref deck, .int b tb]) Q E s := by
  refine wpAny_call ?_
  k_dflt cell_enter
  k_steps
  all_goals (try dsimp only)
  all_goals first | exact hret _ _ _ _ _ (fm_nn _ (by omega)) (Int.fmod_lt_of_pos _ (by omega)) (by assumption) (cb_drop (by assumption) (by k_extra "MINE sub")) | (exfalso; rename decide (_ = []) = false => hq; have hq := List.length_pos_iff.mpr (of_decide_eq_false hq); omega)
theorem draw_spec {news : List (Addr × Obj)} {g : Obj → List (Addr × Obj)} {deck lc : Nat} {vs : List Value} {ns : List Int} {t n n' : Nat} {tt : Tok} {b : Int} {tb : Tok}
  (B : Below A₀ base outer h₀) (F : Fr h₀ L s.heap m) (X : (hd.heap_39 w.params).In h₀) (N : News h₀ L s.heap news) (U : UpdF deck (listOf [.ref lc, .int t tt].toArray n) news g) (hc : (lc, listOf vs.toArray n') ∈ news)
  (T : Top hd.view_39 (looseW hd.view_39 [Str.ofString "CHARSET_NAMES"]) mean mg mb h₀) (hk : cs.kind = .function) (hi : IntsAre vs ns) (hdc : lc ≠ deck) (hlen : ns.length ≤ 48) (ht : t < 1000) (hb : 2 ≤ b ∧ b < 100)
  (hd : dp + 1 < recursionLimit) (hu : un + 80 < cLine)
  (hret : ∀ (r : Int) (tr tt' : Tok) h' tk', 0 ≤ r → r < b → Fr h₀ L h' m → News h₀ L h' (g (listOf [.ref lc, .int (t + 1) tt'].toArray n)) → Q (.int r tr) { s with heap := h', toks := tk' }) :
  wpAny (model PG w) (ktrTop dp un gd cn cs L a ccd cl outer) (call (.ref 164) [.ref deck, .int b tb]) Q E s := by
  obtain ⟨pre, post, rfl, hg, h1, h2⟩ := U.split
  have N2 : News h₀ L s.heap ((deck, listOf [.ref lc, .int t tt].toArray n) :: (lc, listOf vs.toArray n') :: (pre ++ post)) := fun p hp => by
    rcases List.mem_cons.mp hp with rfl | hp
    · exact N _ (List.mem_append.mpr (.inr (.head _)))
    · rcases List.mem_cons.mp hp with rfl | hp
      · exact N _ hc
      · rcases List.mem_append.mp hp with hp | hp
        · exact N _ (List.mem_append.mpr (.inl hp))
        · exact N _ (List.mem_append.mpr (.inr (.tail _ hp)))
  refine draw_core B F X N2 T hk hi hdc (fun p hp => (List.mem_append.mp hp).elim (h1 p) (h2 p)) hlen ht hb hd hu (fun r tr tt' h' tk' h0 hb F' N' => hret r tr tt' h' tk' h0 hb F' ?_)
  rw [hg]
  intro p hp
  refine N' p ?_
  rcases List.mem_append.mp hp with hp | hp
  · exact .tail _ (.tail _ (List.mem_append.mpr (.inl hp)))
  · rcases List.mem_cons.mp hp with rfl | hp
    · exact .head _
    · exact .tail _ (.tail _ (List.mem_append.mpr (.inr hp)))
end
end Mine
namespace Mine
section
variable {w : World} {mg mb : Str → Option Value} {mean : ExcName → Option Value} {dp un : Nat} {gd : Option (List Code)} {cn : Str} {cs : Scope} {a : Addr} {ccd : Value} {cl : List (Str × Addr)} {outer : List Env} {A₀ : Around} {base h₀ : Heap} {L : Addr} {m : Str → Option Value} {s : Shared} {Q E : Value → Shared → Prop}
theorem draw_specI {news : List (Addr × Obj)} {g : Obj → List (Addr × Obj)} {deck lc : Nat} {vs : List Value} {ns : List Int} {k : Int} {n n' : Nat} {tt : Tok} {b : Int} {tb : Tok}
  (B : Below A₀ base outer h₀) (F : Fr h₀ L s.heap m) (X : (hd.heap_39 w.params).In h₀) (N : News h₀ L s.heap news) (U : UpdF deck (listOf [.ref lc, .int k tt].toArray n) news g) (hc : (lc, listOf vs.toArray n') ∈ news)
  (T : Top hd.view_39 (looseW hd.view_39 [Str.ofString "CHARSET_NAMES"]) mean mg mb h₀) (hk : cs.kind = .function) (hi : IntsAre vs ns) (hdc : lc ≠ deck) (hlen : ns.length ≤ 48) (h0 : 0 ≤ k) (ht : k < 1000) (hb : 2 ≤ b ∧ b < 100)
  (hd : dp + 1 < recursionLimit) (hu : un + 80 < cLine)
  (hret : ∀ (r : Int) (tr tt' : Tok) h' tk', 0 ≤ r → r < b → Fr h₀ L h' m → News h₀ L h' (g (listOf [.ref lc, .int (k + 1) tt'].toArray n)) → Q (.int r tr) { s with heap := h', toks := tk' }) :
  wpAny (model PG w) (ktrTop dp un gd cn cs L a ccd cl outer) (call (.ref 164) [.ref deck, .int b tb]) Q E s := by
  obtain ⟨t, rfl⟩ := Int.eq_ofNat_of_zero_le h0
  exact draw_spec B F X N U hc T hk hi hdc hlen (by omega) hb hd hu hret
end
end Mine
theorem Mine.kw17 : True := by
  w_top off
  k_with "call ref" => (k_here; (with_reducible show wpAny _ _ (call (Value.ref 57) _) _ _ _); k_dflt (refine' tables_spec ?q9B ?q9F ?q9X ?q9N ?q9T ?q9hk ?q9hd ?q9hu ?_; (case q9B => k_asm); (case q9F => k_asm); (case q9X => k_asm); (case q9N => k_asm); (case q9T => k_asm); (case q9hk => first | exact rfl | assumption); (case q9hd => ktr_room); (case q9hu => ktr_units)); intro d' o' h' tk' kvs' TB' F' N' off' mem' lo' hd' ht')
  k_with "call ref" => (k_here; (with_reducible show wpAny _ _ (call (Value.ref 171) _) _ _ _); k_dflt (refine' signs_spec ?q9B ?q9F ?q9X ?q9N ?q9T ?q9hk ?q9hd ?q9hu ?_; (case q9B => k_asm); (case q9F => k_asm); (case q9X => k_asm); (case q9N => k_asm); (case q9T => k_asm); (case q9hk => first | exact rfl | assumption); (case q9hd => ktr_room); (case q9hu => ktr_units)); intro d' h' tk' n' rs' RB' F' N' off' mem' hr')
  k_with "call ref" => (k_here; (with_reducible show wpAny _ _ (call (Value.ref 164) _) _ _ _); k_dflt (refine' draw_specI ?q9B ?q9F ?q9X ?q9N ?q9U ?q9hc ?q9T ?q9hk ?q9hi ?q9hdc ?q9hlen ?q9h0 ?q9ht ?q9hb ?q9hd ?q9hu ?_; (case q9B => k_asm); (case q9F => k_asm); (case q9X => k_asm); (case q9N => k_asm); (case q9U => k_updF); (case q9hc => first | (k_extra "MINE asm mem"; done) | k_mem); (case q9T => k_asm); (case q9hk => first | exact rfl | assumption); (case q9hi => with_reducible assumption); (case q9hdc => k_ne); (case q9hlen => assumption); (case q9h0 => omega); (case q9ht => omega); (case q9hb => decide); (case q9hd => ktr_room); (case q9hu => ktr_units)); intro r' tr' tt' h' tk' hlo' hhi' F' N'; (try dsimp only at N'))
  k_with "MINE asm mem" => (repeat (first | with_reducible assumption | refine List.mem_cons_of_mem _ ?_))
  trivial
namespace Mine
noncomputable def upperV (b : Array UInt8) (c : Int) : Int := cond (b.toList == #[45, 65].toList) c (if c = 168 then 164 else if c = 215 then 338 else if c = 221 then 376 else if c = 247 then 339 else if c = 253 then 255 else c)
section
variable {w : World} {mg mb : Str → Option Value} {mean : ExcName → Option Value} {dp un : Nat} {gd : Option (List Code)} {cn : Str} {cs : Scope} {a : Addr} {ccd : Value} {cl : List (Str × Addr)} {outer : List Env} {A₀ : Around} {base h₀ : Heap} {L : Addr} {m : Str → Option Value} {s : Shared} {Q E : Value → Shared → Prop}
theorem upper_spec {news : List (Addr × Obj)} {b : Array UInt8} {tb tc : Tok} {c : Int}
  (B : Below A₀ base outer h₀) (F : Fr h₀ L s.heap m) (X : (hd.heap_39 w.params).In h₀) (N : News h₀ L s.heap news)
  (T : Top hd.view_39 (looseW hd.view_39 [Str.ofString "CHARSET_NAMES"]) mean mg mb h₀) (hk : cs.kind = .function)
  (hd : dp + 1 < recursionLimit) (hu : un + 20 < cLine)
  (hret : ∀ v t h' tk, v = upperV b c → Fr h₀ L h' m → News h₀ L h' news → Q (.int v t) { s with heap := h', toks := tk }) :
  wpAny (model PG w) (ktrTop dp un gd cn cs L a ccd cl outer) (call (.ref 178) [.bytes b tb, .int c tc]) Q E s := by
  refine wpAny_call ?_
  k_dflt cell_enter
  k_steps
  all_goals refine hret _ _ _ _ ?_ (by assumption) (cb_drop (by assumption) (by k_extra "MINE sub"))
  all_goals first | (rename (Array.toList _ == Array.toList _) = true => hq; unfold upperV; rw [hq]; rfl) | skip
  all_goals (rename (Array.toList _ == Array.toList _) = false => hq; unfold upperV; rw [hq])
  all_goals first | (subst_vars; rfl) | skip
  all_goals first | (simp only [cond]; simp [*]; done) | fail
end
end Mine
namespace Mine
open PySem.MeetsSeq PySem.SeqRoads2
noncomputable def WdMark (_b : Array UInt8) (_low : Int) : Prop := True
section
variable {prog : Program} {w : World} {A : Around} {E : Value → Shared → Prop} {s : Shared} {env : Env} {h₀ : Heap} {body : List Stmt} {Q : Flow → Shared → Prop}
theorem rows_loopM {L d n : Nat} {rs : List Value} {RL : List RowT} {news : List (Addr × Obj)} {m₀ : Str → Option Value} {x1 x2 x3 : Str} {p1 p2 p3 pp : Pos} {kk : Nat} {wd : Array UInt8} {low : Int} (_M : WdMark wd low) (hL : env.locals = L) (hh : A.handled = none)
    (F : Fr h₀ L s.heap m₀) (N : News h₀ L s.heap news) (hd : (d, listOf rs.toArray n) ∈ news) (hR : RowsAre news rs RL) (hok : ∀ r ∈ RL, rowOk low r = true)
    (turn : ∀ (t ln lc : Nat) b tb vn vc n1 n2 ns cs (u : Str → Option Value) h tk own, rowOk low (ns, b, cs) = true → BytesAre vn ns → IntsAre vc cs →
      Fr h₀ L h (fun y => if y = x1 then u y else if y = x2 then u y else if y = x3 then u y else m₀ y) → News h₀ L h ((t, ({ cls := .type "tuple", data := .seq #[.ref ln, .bytes b tb, .ref lc] } : Obj)) :: (ln, listOf vn.toArray n1) :: (lc, listOf vc.toArray n2) :: (own ++ news)) →
      wpAny (model prog w) A (assign (.Tuple [.Name x1 p1, .Name x2 p2, .Name x3 p3] kk pp) env (.ref t)) (fun _ s₂ => wpAny (model prog w) A (execs body env) (RowPost h₀ L (own ++ news) m₀ x1 x2 x3 (inB ns wd && b.contains low.toNat.toUInt8) (cs.getD ((idxB b low).getD 0) 0) s) E s₂) E { s with heap := h, toks := tk })
    (ret : ∀ v t h tk m', v = rowsV wd low RL → Fr h₀ L h m' → News h₀ L h news → Q (.ret (.int v t)) { s with heap := h, toks := tk })
    (done : ∀ (u : Str → Option Value) h tk, rowsV wd low RL = low → Fr h₀ L h (fun y => if y = x1 then u y else if y = x2 then u y else if y = x3 then u y else m₀ y) → News h₀ L h news → Q .next { s with heap := h, toks := tk }) :
    wpAny (model prog w) A (pyIter (.ref d)) (fun it s₂ => UnrAt prog w A h₀ env (.Tuple [.Name x1 p1, .Name x2 p2, .Name x3 p3] kk pp) body Q E it s₂) E s :=
  rows_loop hL hh F N hd hR hok turn ret done
end
section
variable {prog : Program} {w : World} {A : Around} {E : Value → Shared → Prop} {s : Shared} {h₀ : Heap} {L : Addr} {news : List (Addr × Obj)} {l : Nat} {vs : List Value} {bs : List (Array UInt8)} {n : Nat} {x b : Array UInt8} {u tb t : Tok} {k : Int} {Q : Value → Shared → Prop}
theorem in_list_K (N : News h₀ L s.heap news) (hm : (l, listOf vs.toArray n) ∈ news) (hb : BytesAre vs bs) (h : Q (.bool (inB bs x)) s) : wpAny (model prog w) A (compareOp .In (.bytes x u) (.ref l)) Q E s :=
  in_list_bytes (n := n) (N _ hm).1 hb h
theorem call_bytes_index_row {ns : List (Array UInt8)} {cs : List Int} (h0 : 0 ≤ k) (h1 : k < 256) (hok : rowOk k (ns, b, cs) = true) (hc : b.contains k.toNat.toUInt8 = true)
    (h : ∀ u k', (idxB b k).getD 0 < cs.length → cs.length ≤ 1000 → Q (.int ((idxB b k).getD 0 : Nat) u) { s with toks := k' }) : wpAny (model prog w) A (call (.builtin "bytes.index") [.bytes b tb, .int k t]) Q E s := by
  obtain ⟨i, hi, hl, hl2⟩ := rowOk.out hok hc
  rw [hi] at h
  exact call_bytes_index h0 h1 (idx_pos hc) hi fun u k' => h u k' hl hl2
theorem row_item {value slice : PySem.Expr} {ns : List Int} {j : Nat} (N : News h₀ L s.heap news) (hm : (l, listOf vs.toArray n) ∈ news) (hi : IntsAre vs ns) (h1 : j < ns.length) (h2 : ns.length ≤ 1000) (h : ∀ t, Q (.int (ns.getD j 0) t) s)
    (hs : subscripted slice false (.ref l) (.int (j : Nat) u) = operate [.ref l, .int (j : Nat) u] (getItem (.ref l) (.int (j : Nat) u)) := by with_unfolding_all rfl) :
    wpAny (model prog w) A (subscriptTail value slice (.ref l) (.int (j : Nat) u)) Q E s :=
  item_anyK (PySem.IsL.isList (n := n) (N _ hm).1) hi (by omega) (by omega) (by omega) (fun t => by simpa using h t) hs
end
end Mine
theorem Mine.kw18 : True := by
  w_top off
  k_with "exec For Tuple Name cons nil" => (k_here; k_dflt (refine' For_unrF ?q9F ?_ ?q9hs; (case q9F => k_asm); (case q9hs => (intro _; exact rfl))))
  k_with "MINE pyIter ref" => (k_here; (with_reducible show wpAny _ _ (pyIter (Value.ref _)) (fun it s₂ => UnrAt _ _ _ _ _ _ _ _ _ it s₂) _ _); k_dflt (refine' rows_loopM ?q9M ?q9hL ?q9hh ?q9F ?q9N ?q9hd ?q9hR ?q9hok ?_ ?_ ?_; (case q9M => with_reducible assumption); (case q9hd => with_reducible assumption); (case q9hR => with_reducible assumption); (case q9hL => exact rfl); (case q9hh => exact rfl); (case q9F => k_asm); (case q9N => exact cb_drop (by k_asm) (by k_extra "MINE sub")); (case q9hok => assumption)); (all_goals intros); (all_goals (try dsimp only)))
  k_with "compareOp In" => (k_here; (with_reducible show wpAny _ _ (compareOp CmpOp.In (Value.bytes _ _) (Value.ref _)) _ _ _); k_dflt (refine' in_list_K ?q9N ?q9m ?q9b ?_; (case q9N => k_asm); (case q9m => k_mem); (case q9b => with_reducible assumption)))
  k_with "compareOp In" => (k_here; (with_reducible show wpAny _ _ (compareOp CmpOp.In (Value.int _ _) (Value.bytes _ _)) _ _ _); k_dflt (refine' in_bytes_int ?q9h0 ?q9h1 ?_; (case q9h0 => omega); (case q9h1 => omega)))
  k_with "getMethod bytes" => (k_here; (with_reducible refine method_bytes_index ?_))
  k_with "call builtin:bytes.index" => (k_here; k_dflt (refine' call_bytes_index_row ?q9h0 ?q9h1 ?q9hok ?q9hc ?_; (case q9h0 => omega); (case q9h1 => omega); (case q9hok => assumption); (case q9hc => assumption)); intro u' k' hi' hz')
  k_with "RowPost" => (k_dflt (first | (refine' RowPost.hit ?q9F ?q9N ?q9m ?q9c ?q9v; (case q9F => k_asm); (case q9N => refine cb_drop (by k_asm) (by k_extra "MINE sub")); (case q9m => k_extra "MINE but3"); (case q9c => exact Bool.and_eq_true_iff.mpr ⟨by assumption, by assumption⟩); (case q9v => rfl)) | (refine' RowPost.miss ?q9F ?q9N ?q9m ?q9c; (case q9F => k_asm); (case q9N => refine cb_drop (by k_asm) (by k_extra "MINE sub")); (case q9m => k_extra "MINE but3"); (case q9c => first | exact Bool.and_eq_false_iff.mpr (.inl (by assumption)) | exact Bool.and_eq_false_iff.mpr (.inr (by assumption))))))
  k_with "MINE but3" => (intro z h1 h2 h3; (try dsimp only); (repeat (first | rfl | rw [if_neg h1] | rw [if_neg h2] | rw [if_neg h3])))
  k_with "subscriptTail" => (k_here; (with_reducible show wpAny _ _ (subscriptTail _ _ (Value.ref _) (Value.int (Nat.cast _) _)) _ _ _); k_dflt (refine' row_item ?q9N ?q9m ?q9i ?q9h1 ?q9h2 ?_ ?q9hs; (case q9N => k_asm); (case q9m => k_mem); (case q9i => with_reducible assumption); (case q9h1 => assumption); (case q9h2 => assumption); (case q9hs => with_unfolding_all rfl)); intro _)
  trivial
theorem Mine.kw19 : True := by
  w_top off
  k_with "call ref" => (k_here; (with_reducible show wpAny _ _ (call (Value.ref 178) _) _ _ _); k_dflt (refine' upper_spec ?q9B ?q9F ?q9X ?q9N ?q9T ?q9hk ?q9hd ?q9hu ?_; (case q9B => k_asm); (case q9F => k_asm); (case q9X => k_asm); (case q9N => k_asm); (case q9T => k_asm); (case q9hk => first | exact rfl | assumption); (case q9hd => ktr_room); (case q9hu => ktr_units)); intro v' t' h' tk' hv' F' N')
  k_with "MINE cond" => ((repeat (first | (refine cT ?q9h ?_; (case q9h => first | assumption | exact Bool.and_eq_true_iff.mpr ⟨by assumption, by assumption⟩)) | (refine cF ?q9h ?_; (case q9h => first | assumption | exact Bool.and_eq_false_iff.mpr (.inl (by assumption)) | exact Bool.and_eq_false_iff.mpr (.inr (by assumption)))))); first | rfl | assumption | exact Eq.symm (by assumption))
  trivial
namespace Mine
noncomputable def shownF (b : Array UInt8) (c : Int) : Int := cond (inB [#[37, 53], #[60], #[45, 65]] b) (cond (([32, 127].any fun x => x == c) && (b.toList != #[45, 65].toList)) c (upperV b (c + 128))) (rowsV b c rowsL)
section
variable {w : World} {mg mb : Str → Option Value} {mean : ExcName → Option Value} {dp un : Nat} {gd : Option (List Code)} {cn : Str} {cs : Scope} {a : Addr} {ccd : Value} {cl : List (Str × Addr)} {outer : List Env} {A₀ : Around} {base h₀ : Heap} {L : Addr} {m : Str → Option Value} {s : Shared} {Q E : Value → Shared → Prop}
theorem shownF_spec {news : List (Addr × Obj)} {d n : Nat} {rs : List Value} {b : Array UInt8} {tb tc : Tok} {c : Int}
  (B : Below A₀ base outer h₀) (F : Fr h₀ L s.heap m) (X : (hd.heap_39 w.params).In h₀) (N : News h₀ L s.heap news)
  (T : Top hd.view_39 (looseW hd.view_39 [Str.ofString "CHARSET_NAMES"]) mean mg mb h₀) (hk : cs.kind = .function)
  (hd : dp + 2 < recursionLimit) (hu : un + 40 < cLine) (hrow : (d, listOf rs.toArray n) ∈ news) (hR : RowsAre news rs rowsL) (hok : ∀ r ∈ rowsL, rowOk c r = true) (M : WdMark b c) (h0 : 0 ≤ c) (h1 : c < 128)
  (hret : ∀ v t h' tk, v = shownF b c → Fr h₀ L h' m → News h₀ L h' news → Q (.int v t) { s with heap := h', toks := tk }) :
  wpAny (model PG w) (ktrTop dp un gd cn cs L a ccd cl outer) (call (.ref 185) [.ref d, .bytes b tb, .int c tc, .bool false]) Q E s := by
  refine wpAny_call ?_
  k_dflt cell_enter
  k_steps
  all_goals first | refine hret _ _ _ _ (Eq.symm ?_) (by assumption) (cb_drop (by assumption) (by k_extra "MINE sub")) | skip
  all_goals first | (unfold shownF; k_extra "MINE cond") | fail
end
end Mine
namespace Mine
noncomputable def shownT (b : Array UInt8) (c : Int) : Int := cond ([160, 255].any fun x => x == c) c (shownF b (c - 128))
section
variable {w : World} {mg mb : Str → Option Value} {mean : ExcName → Option Value} {dp un : Nat} {gd : Option (List Code)} {cn : Str} {cs : Scope} {a : Addr} {ccd : Value} {cl : List (Str × Addr)} {outer : List Env} {A₀ : Around} {base h₀ : Heap} {L : Addr} {m : Str → Option Value} {s : Shared} {Q E : Value → Shared → Prop}
theorem shownT_spec {news : List (Addr × Obj)} {d n : Nat} {rs : List Value} {b : Array UInt8} {tb tc : Tok} {c : Int}
  (B : Below A₀ base outer h₀) (F : Fr h₀ L s.heap m) (X : (hd.heap_39 w.params).In h₀) (N : News h₀ L s.heap news)
  (T : Top hd.view_39 (looseW hd.view_39 [Str.ofString "CHARSET_NAMES"]) mean mg mb h₀) (hk : cs.kind = .function)
  (hd : dp + 2 < recursionLimit) (hu : un + 40 < cLine) (hrow : (d, listOf rs.toArray n) ∈ news) (hR : RowsAre news rs rowsL) (hok : ∀ r ∈ rowsL, rowOk (c - 128) r = true) (M : WdMark b (c - 128)) (h0 : 160 ≤ c) (h1 : c < 256)
  (hret : ∀ v t h' tk, v = shownT b c → Fr h₀ L h' m → News h₀ L h' news → Q (.int v t) { s with heap := h', toks := tk }) :
  wpAny (model PG w) (ktrTop dp un gd cn cs L a ccd cl outer) (call (.ref 185) [.ref d, .bytes b tb, .int c tc, .bool true]) Q E s := by
  refine wpAny_call ?_
  k_dflt cell_enter
  k_steps
  all_goals first | refine hret _ _ _ _ (Eq.symm ?_) (by assumption) (cb_drop (by assumption) (by k_extra "MINE sub")) | skip
  all_goals first | (unfold shownT shownF; k_extra "MINE cond") | fail
end
end Mine
namespace Mine
section
variable {prog : Program} {w : World} {A : Around} {E : Value → Shared → Prop} {s : Shared} {h₀ : Heap} {L : Addr} {m : Str → Option Value} {news : List (Addr × Obj)}
theorem tab_K {l : Nat} {o : Obj} {ks : List (Int × Value)} {c : List (Int × Int)} (N : News h₀ L s.heap news) (hm : (l, o) ∈ news) (lo : (l == sysModules) = false) (hd : o.IsDictOf (intKind prog w) ks) (hf : FlatPairs PyData.int ks (kdfD c)) : IntTab prog w s.heap l (kdfD c) :=
  ⟨lo, ks, kda_dict N hm hd, hf⟩
theorem get2_K {l : Nat} {o : Obj} {ks : List (Int × Value)} {c : List (Int × Int)} {k e : Int} {tk te : Tok} {Q : Value → Shared → Prop} (N : News h₀ L s.heap news) (hm : (l, o) ∈ news) (lo : (l == sysModules) = false) (hd : o.IsDictOf (intKind prog w) ks) (hf : FlatPairs PyData.int ks (kdfD c))
    (h : ∀ t, Q (.int (kdfLook c k e) t) { s with toks := s.toks + 1 }) : wpAny (model prog w) A (call (.builtin "dict.get") [.ref l, .int k tk, .int e te]) Q E s :=
  kdf_get2 (tab_K N hm lo hd hf) h
theorem notin_made {md : Nat} {mo : Obj} {kvs : List (Array UInt8 × Value)} {b : Array UInt8} {tb : Tok} {v : Value} {Q : Value → Shared → Prop} (N : News h₀ L s.heap news) (hm : (md, mo) ∈ news) (lo : (md == sysModules) = false) (hd : mo.IsDictOf (bkind prog w) kvs) (hv : valueAt kvs b = some v)
    (h : Q (.bool false) { s with toks := s.toks + 1 }) : wpAny (model prog w) A (compareOp .NotIn (.bytes b tb) (.ref md)) Q E s :=
  wpAny_notIn_of (bkind_is prog w b tb) lo (kda_dict N hm hd).mapOf (by rw [hv]; exact h)
theorem item_made {value slice : PySem.Expr} {md : Nat} {mo : Obj} {kvs : List (Array UInt8 × Value)} {b : Array UInt8} {tb : Tok} {v : Value} {Q : Value → Shared → Prop} (N : News h₀ L s.heap news) (hm : (md, mo) ∈ news) (hd : mo.IsDictOf (bkind prog w) kvs) (hv : valueAt kvs b = some v)
    (h : Q v { s with toks := s.toks + 1 })
    (hs : subscripted slice false (.ref md) (.bytes b tb) = operate [.ref md, .bytes b tb] (getItem (.ref md) (.bytes b tb)) := by with_unfolding_all rfl) (hg : ∀ r, letTemporaryGo value (.ref md) r = pure () := by intro _; with_unfolding_all rfl) :
    wpAny (model prog w) A (subscriptTail value slice (.ref md) (.bytes b tb)) Q E s :=
  kda_item N hm hd (bkind_is prog w b tb) hv h hs hg
end
end Mine
theorem Mine.kw20 : True := by
  w_top off
  k_with "compareOp NotIn" => (k_here; (with_reducible show wpAny _ _ (compareOp CmpOp.NotIn (Value.bytes _ _) (Value.ref _)) _ _ _); k_dflt (refine' notin_made ?q9N ?q9m ?q9lo ?q9d ?q9v ?_; (case q9N => k_asm); (case q9m => k_mem); (case q9lo => with_reducible assumption); (case q9d => with_reducible assumption); (case q9v => with_reducible assumption)))
  k_with "subscriptTail" => (k_here; (with_reducible show wpAny _ _ (subscriptTail _ _ (Value.ref _) (Value.bytes _ _)) _ _ _); k_dflt (refine' item_made ?q9N ?q9m ?q9d ?q9v ?_ ?q9hs ?q9hg; (case q9N => k_asm); (case q9m => k_mem); (case q9d => with_reducible assumption); (case q9v => with_reducible assumption); (case q9hs => with_unfolding_all rfl); (case q9hg => (intro _; with_unfolding_all rfl))))
  k_with "call builtin:dict.get" => (k_here; (with_reducible show wpAny _ _ (call (Value.builtin "dict.get") [Value.ref _, Value.int _ _, Value.int _ _]) _ _ _); k_dflt (refine' get2_K ?q9N ?q9m ?q9lo ?q9d ?q9f ?_; (case q9N => k_asm); (case q9m => k_mem); (case q9lo => with_reducible assumption); (case q9d => with_reducible assumption); (case q9f => with_reducible assumption)); intro _)
  trivial
namespace Mine
noncomputable def ownD (w : World) (made names : Nat) (lf : Int) (tl : Tok) (rg : Int) (tr : Tok) (sv : Value) (k1 k2 k3 k4 k5 : Tok) : Obj :=
  PySem.W.dictOf [{ hash := PyData.keyHash w.params (PySem.Str.ofString "made"), key := .str (PySem.Str.ofString "made") k1, val := .ref made }, { hash := PyData.keyHash w.params (PySem.Str.ofString "names"), key := .str (PySem.Str.ofString "names") k2, val := .ref names }, { hash := PyData.keyHash w.params (PySem.Str.ofString "left"), key := .str (PySem.Str.ofString "left") k3, val := .int lf tl }, { hash := PyData.keyHash w.params (PySem.Str.ofString "right"), key := .str (PySem.Str.ofString "right") k4, val := .int rg tr }, { hash := PyData.keyHash w.params (PySem.Str.ofString "shift"), key := .str (PySem.Str.ofString "shift") k5, val := sv }] 5
noncomputable def rightV (c : List (Int × Int)) (code : Int) : Int := kdfLook c (code - 128) (if 32 < code - 128 ∧ code - 128 < 127 then code - 128 else code)
section
variable {w : World} {mg mb : Str → Option Value} {mean : ExcName → Option Value} {dp un : Nat} {gd : Option (List Code)} {cn : Str} {cs : Scope} {a : Addr} {ccd : Value} {cl : List (Str × Addr)} {outer : List Env} {A₀ : Around} {base h₀ : Heap} {L : Addr} {m : Str → Option Value} {s : Shared} {Q E : Value → Shared → Prop}
theorem right_spec {news : List (Addr × Obj)} {l : Nat} {o : Obj} {ks : List (Int × Value)} {c : List (Int × Int)} {code : Int} {tc : Tok} (B : Below A₀ base outer h₀) (F : Fr h₀ L s.heap m) (X : (hd.heap_39 w.params).In h₀) (T : Top hd.view_39 (looseW hd.view_39 [Str.ofString "CHARSET_NAMES"]) mean mg mb h₀) (hk : cs.kind = .function) (N0 : News h₀ L s.heap news) (m1 : (l, o) ∈ news)
  (hd : dp + 1 < recursionLimit) (hu : un + 20 < cLine) (lo : (l == sysModules) = false) (ho : o.IsDictOf (intKind PG w) ks) (hf : FlatPairs PyData.int ks (kdfD c))
  (hret : ∀ v t h' tk, v = rightV c code → Fr h₀ L h' m → News h₀ L h' news → Q (.int v t) { s with heap := h', toks := tk }) :
  wpAny (model PG w) (ktrTop dp un gd cn cs L a ccd cl outer) (call (.ref 157) [.ref l, .int code tc]) Q E s := by
  have N : News h₀ L s.heap ((l, o) :: news) := cb_drop N0 (List.forall_mem_cons.mpr ⟨m1, fun _ h => h⟩)
  clear N0 m1
  refine wpAny_call ?_
  k_dflt cell_enter
  k_steps
  all_goals first | refine hret _ _ _ _ ?_ (by assumption) (cb_drop (by assumption) (by k_extra "MINE sub")) | skip
  all_goals unfold rightV
  all_goals first | rw [if_pos ⟨by assumption, by assumption⟩] | rw [if_neg (by omega)]
theorem table_specM {news : List (Addr × Obj)} {ow od md on : Nat} {mo : Obj} {kvs : List (Array UInt8 × Value)} {lf rg : Int} {tl tr : Tok} {sv : Value} {k1 k2 k3 k4 k5 : Tok} {b : Array UInt8} {tb : Tok} (B : Below A₀ base outer h₀) (F : Fr h₀ L s.heap m) (X : (hd.heap_39 w.params).In h₀) (T : Top hd.view_39 (looseW hd.view_39 [Str.ofString "CHARSET_NAMES"]) mean mg mb h₀) (hk : cs.kind = .function)
  (N0 : News h₀ L s.heap news) (m1 : (ow, instObj 146 od) ∈ news) (m2 : (od, ownD w md on lf tl rg tr (sv) k1 k2 k3 k4 k5) ∈ news) (m3 : (md, mo) ∈ news)
  (hd : dp + 1 < recursionLimit) (hu : un + 20 < cLine) (lo : (md == sysModules) = false) (ho : mo.IsDictOf (bkind PG w) kvs) (hT : TabsOk PG w names22 kvs news) (hb : b ∈ names22)
  (hret : ∀ (l : Nat) o ks h' tk, (l, o) ∈ news → (l == sysModules) = false → o.IsDictOf (intKind PG w) ks → FlatPairs PyData.int ks (kdfD (tableL b)) → Fr h₀ L h' m → News h₀ L h' news → Q (.ref l) { s with heap := h', toks := tk }) :
  wpAny (model PG w) (ktrTop dp un gd cn cs L a ccd cl outer) (call (.ref 79) [.ref ow, .bytes b tb]) Q E s := by
  obtain ⟨l, o, ks, hv, hm, hl, hdo, hf⟩ := hT b hb
  have N : News h₀ L s.heap ((ow, instObj 146 od) :: (od, ownD w md on lf tl rg tr (sv) k1 k2 k3 k4 k5) :: (md, mo) :: news) := cb_drop N0 (List.forall_mem_cons.mpr ⟨m1, List.forall_mem_cons.mpr ⟨m2, List.forall_mem_cons.mpr ⟨m3, fun _ h => h⟩⟩⟩)
  clear N0 m1 m2 m3
  refine wpAny_call ?_
  k_dflt cell_enter
  k_steps
  all_goals first | exact hret _ _ _ _ _ hm hl hdo hf (by assumption) (cb_drop (by assumption) (by k_extra "MINE sub")) | fail
end
end Mine
namespace Mine
noncomputable def words18 : List (Array UInt8) := [#[48], #[66], #[65], #[37, 53], #[60], #[45, 65], #[75], #[82], #[102], #[89], #[90], #[72], #[55], #[67], #[53], #[61], #[81], #[57]]
structure NamesOk (ns : List (Array UInt8)) : Prop where
  len : ns.length = 4
  mem : ∀ x ∈ ns, x ∈ words18
theorem words_names {b : Array UInt8} (h : b ∈ words18) : b ∈ names22 := by
  have : ∀ x ∈ words18, x ∈ names22 := by decide +kernel
  exact this b h
theorem NamesOk.get {ns : List (Array UInt8)} (h : NamesOk ns) {i : Int} (h0 : 0 ≤ i) (h1 : i < 4) : ns.getD i.toNat #[] ∈ words18 := by
  have hl : i.toNat < ns.length := by rw [h.len]; omega
  rw [List.getD_eq_getElem?_getD, List.getElem?_eq_getElem hl]
  exact h.mem _ (List.getElem_mem hl)
section
variable {prog : Program} {w : World} {A : Around} {E : Value → Shared → Prop} {s : Shared} {h₀ : Heap} {L : Addr} {m : Str → Option Value} {news : List (Addr × Obj)}
theorem names_item {value slice : PySem.Expr} {l n : Nat} {vs : List Value} {ns : List (Array UInt8)} {k : Int} {u : Tok} {Q : Value → Shared → Prop} (N : News h₀ L s.heap news) (hm : (l, listOf vs.toArray n) ∈ news) (hb : BytesAre vs ns) (hn : NamesOk ns) (h0 : 0 ≤ k) (h1 : k < 4)
    (h : ∀ t, ns.getD k.toNat #[] ∈ words18 → Q (.bytes (ns.getD k.toNat #[]) t) s)
    (hs : subscripted slice false (.ref l) (.int k u) = operate [.ref l, .int k u] (getItem (.ref l) (.int k u)) := by with_unfolding_all rfl) :
    wpAny (model prog w) A (subscriptTail value slice (.ref l) (.int k u)) Q E s := by
  have hl : s.heap.IsList l vs.toArray := PySem.IsL.isList (n := n) (N _ hm).1
  have hlt : k.toNat < ns.length := by rw [hn.len]; omega
  obtain ⟨t, ht⟩ := hb.get k.toNat (ns.getD k.toNat #[]) (by rw [List.getD_eq_getElem?_getD, List.getElem?_eq_getElem hlt]; rfl)
  exact tail_any hl.typeIs slot_list_getitem.lookup (wpAny_getItem_list hl h0 (by omega) (by simpa using ht) (h t (hn.get h0 h1))) hs
end
end Mine
theorem Mine.kw21 : True := by
  w_top off
  k_with "MINE sub2" => (intro p hp; repeat (first | exact hp | refine List.Mem.tail _ ?_))
  k_with "MINE mm" => first | k_mem | k_extra "MINE asm mem"
  k_with "call ref" => (k_here; (with_reducible show wpAny _ _ (call (Value.ref 79) [Value.ref _, Value.bytes _ _]) _ _ _); k_dflt (refine' table_specM ?q9B ?q9F ?q9X ?q9T ?q9hk ?q9N ?q9m1 ?q9m2 ?q9m3 ?q9hd ?q9hu ?q9lo ?q9ho ?q9hT ?q9hb ?_; (case q9B => k_asm); (case q9F => k_asm); (case q9X => k_asm); (case q9T => k_asm); (case q9hk => first | exact rfl | assumption); (case q9N => k_asm); (case q9m1 => k_extra "MINE mm"); (case q9m2 => k_mem); (case q9m3 => k_extra "MINE mm"); (case q9hd => ktr_room); (case q9hu => ktr_units); (case q9lo => with_reducible assumption); (case q9ho => with_reducible assumption); (case q9hT => exact TabsOk.mono (by with_reducible assumption) (by k_extra "MINE sub2")); (case q9hb => exact words_names (by with_reducible assumption))); intro l' o' ks' h' tk' ml' lo' hd' hf' F' N')
  k_with "call ref" => (k_here; (with_reducible show wpAny _ _ (call (Value.ref 157) [Value.ref _, Value.int _ _]) _ _ _); k_dflt (refine' right_spec ?q9B ?q9F ?q9X ?q9T ?q9hk ?q9N ?q9m1 ?q9hd ?q9hu ?q9lo ?q9ho ?q9hf ?_; (case q9B => k_asm); (case q9F => k_asm); (case q9X => k_asm); (case q9T => k_asm); (case q9hk => first | exact rfl | assumption); (case q9N => k_asm); (case q9m1 => with_reducible assumption); (case q9hd => ktr_room); (case q9hu => ktr_units); (case q9lo => with_reducible assumption); (case q9ho => with_reducible assumption); (case q9hf => with_reducible assumption)); intro v' t' h' tk' hv' F' N')
  k_with "subscriptTail" => (k_here; (with_reducible show wpAny _ _ (subscriptTail _ _ (Value.ref _) (Value.int _ _)) _ _ _); k_dflt (refine' names_item ?q9N ?q9m ?q9b ?q9n ?q9h0 ?q9h1 ?_ ?q9hs; (case q9N => k_asm); (case q9m => k_mem); (case q9b => with_reducible assumption); (case q9n => with_reducible assumption); (case q9h0 => omega); (case q9h1 => omega); (case q9hs => with_unfolding_all rfl)); intro _ hw')
  k_with "getMethod ref" => (k_here; (with_reducible show wpAny _ _ (getMethod (Value.ref _) (PySem.Str.ofString "get") _) _ _ _); k_dflt (refine' kdl_method (knd := PySem.intKind _ _) PySem.F.slot_dict_get PySem.F.type_dict_get ?q9N ?q9m ?q9d ?_; (case q9N => k_asm); (case q9m => with_reducible assumption); (case q9d => with_reducible assumption)))
  k_with "call builtin:dict.get" => (k_here; (with_reducible show wpAny _ _ (call (Value.builtin "dict.get") [Value.ref _, Value.int _ _, Value.int _ _]) _ _ _); k_dflt (refine' get2_K ?q9N ?q9m ?q9lo ?q9d ?q9f ?_; (case q9N => k_asm); (case q9m => first | k_mem | with_reducible assumption); (case q9lo => with_reducible assumption); (case q9d => with_reducible assumption); (case q9f => with_reducible assumption)); intro _)
  k_with "MINE enter" => (refine' code_def ?q9k1 ?q9k2 ?q9k3 ?q9k4 ?q9k5 ?q9kA ?q9kF ?q9kK ?q9k6 ?q9k7 ?q9k8 ?q9k9 ?q9kB ?_ ?q9c2 ?q9c3 ?q9c4 ?q9c5; (case q9kA => exact rfl); (case q9kF => exact rfl); (case q9kK => first | assumption | exact rfl); (case q9k1 => k_asm); (case q9k2 => k_asm); (case q9k3 => k_asm); (case q9k4 => k_asm); (case q9k5 => k_asm); (case q9k6 => k_is); (case q9k7 => k_is); (case q9k8 => ktr_room); (case q9k9 => first | exact BindsTo.of_eq rfl | exact binds_K (by k_in) rfl (by k_is) rfl rfl rfl); (case q9c5 => decide); (case q9kB => exact locs rfl); (case q9c2 => exact rfl); (case q9c3 => exact rfl); (case q9c4 => exact rfl); k_whole; intro g' L' h' FG' F' N' B' X' T'; (try dsimp only); (try k_lift B'); (try k_fold))
  trivial
namespace Mine
noncomputable def mappedV (ns : List (Array UInt8)) (lf rg : Int) (sh : Option Int) (code : Int) (hr : Bool) : Int :=
  if 32 ≤ code ∧ code ≤ 127 then kdfLook (tableL (ns.getD (sh.getD lf).toNat #[])) code code
  else if hr = true ∧ 160 ≤ code ∧ code ≤ 255 then rightV (tableL (ns.getD (sh.getD rg).toNat #[])) code else code
section
variable {w : World} {mg mb : Str → Option Value} {mean : ExcName → Option Value} {dp un : Nat} {gd : Option (List Code)} {cn : Str} {cs : Scope} {a : Addr} {ccd : Value} {cl : List (Str × Addr)} {outer : List Env} {A₀ : Around} {base h₀ : Heap} {L : Addr} {m : Str → Option Value} {s : Shared} {Q E : Value → Shared → Prop}
theorem mappedN_spec {news : List (Addr × Obj)} {ow od md on n : Nat} {mo : Obj} {kvs : List (Array UInt8 × Value)} {vs : List Value} {ns : List (Array UInt8)} {lf rg : Int} {tl tr : Tok} {k1 k2 k3 k4 k5 : Tok} {code : Int} {tc : Tok} {hr : Bool} (B : Below A₀ base outer h₀) (F : Fr h₀ L s.heap m) (X : (hd.heap_39 w.params).In h₀) (T : Top hd.view_39 (looseW hd.view_39 [Str.ofString "CHARSET_NAMES"]) mean mg mb h₀) (hk : cs.kind = .function)
  (N : News h₀ L s.heap ((od, ownD w md on lf tl rg tr (.none) k1 k2 k3 k4 k5) :: (ow, instObj 146 od) :: (md, mo) :: (on, listOf vs.toArray n) :: news)) (h1 : ow ≠ od) (h2 : md ≠ od) (h3 : on ≠ od) (h4 : ∀ p ∈ news, p.1 ≠ od)
  (hd : dp + 2 < recursionLimit) (hu : un + 40 < cLine) (lo : (md == sysModules) = false) (ho : mo.IsDictOf (bkind PG w) kvs) (hT : TabsOk PG w names22 kvs news) (hb : BytesAre vs ns) (hn : NamesOk ns)
  (hl0 : 0 ≤ lf) (hl1 : lf < 4) (hr0 : 0 ≤ rg) (hr1 : rg < 4)
  (hret : ∀ v t h' tk, v = mappedV ns lf rg none code hr → Fr h₀ L h' m → News h₀ L h' ((od, ownD w md on lf tl rg tr (.none) k1 k2 k3 k4 k5) :: (ow, instObj 146 od) :: (md, mo) :: (on, listOf vs.toArray n) :: news) → Q (.int v t) { s with heap := h', toks := tk }) :
  wpAny (model PG w) (ktrTop dp un gd cn cs L a ccd cl outer) (call (.ref 136) [.ref ow, .int code tc, .bool hr]) Q E s := by
  refine wpAny_call ?_
  k_dflt (k_extra "MINE enter")
  k_steps
  all_goals first | refine hret _ _ _ _ ?_ (by assumption) (cb_drop (by assumption) (by k_extra "MINE sub")) | skip
  all_goals unfold mappedV
  all_goals first | (rw [if_pos ⟨by assumption, by assumption⟩]; rfl) | (rw [if_neg (by omega), if_pos ⟨by assumption, by assumption, by assumption⟩]; assumption) | (rw [if_neg (by omega), if_neg (fun hh => by obtain ⟨e1, e2, e3⟩ := hh; first | omega | (rename hr = false => hq; rw [e1] at hq; cases hq))])
theorem mappedI_spec {news : List (Addr × Obj)} {ow od md on n : Nat} {mo : Obj} {kvs : List (Array UInt8 × Value)} {vs : List Value} {ns : List (Array UInt8)} {lf rg : Int} {tl tr : Tok} {k1 k2 k3 k4 k5 : Tok} {sh : Int} {tsh : Tok} {code : Int} {tc : Tok} {hr : Bool} (B : Below A₀ base outer h₀) (F : Fr h₀ L s.heap m) (X : (hd.heap_39 w.params).In h₀) (T : Top hd.view_39 (looseW hd.view_39 [Str.ofString "CHARSET_NAMES"]) mean mg mb h₀) (hk : cs.kind = .function)
  (N : News h₀ L s.heap ((od, ownD w md on lf tl rg tr (.int sh tsh) k1 k2 k3 k4 k5) :: (ow, instObj 146 od) :: (md, mo) :: (on, listOf vs.toArray n) :: news)) (h1 : ow ≠ od) (h2 : md ≠ od) (h3 : on ≠ od) (h4 : ∀ p ∈ news, p.1 ≠ od)
  (hd : dp + 2 < recursionLimit) (hu : un + 40 < cLine) (lo : (md == sysModules) = false) (ho : mo.IsDictOf (bkind PG w) kvs) (hT : TabsOk PG w names22 kvs news) (hb : BytesAre vs ns) (hn : NamesOk ns)
  (hs0 : 0 ≤ sh) (hs1 : sh < 4) (hl0 : 0 ≤ lf) (hl1 : lf < 4) (hr0 : 0 ≤ rg) (hr1 : rg < 4)
  (hret : ∀ v t h' tk, v = mappedV ns lf rg (some sh) code hr → Fr h₀ L h' m → News h₀ L h' ((od, ownD w md on lf tl rg tr (.none) k1 k2 k3 k4 k5) :: (ow, instObj 146 od) :: (md, mo) :: (on, listOf vs.toArray n) :: news) → Q (.int v t) { s with heap := h', toks := tk }) :
  wpAny (model PG w) (ktrTop dp un gd cn cs L a ccd cl outer) (call (.ref 136) [.ref ow, .int code tc, .bool hr]) Q E s := by
  refine wpAny_call ?_
  k_dflt (k_extra "MINE enter")
  k_steps
  all_goals first | refine hret _ _ _ _ ?_ (by assumption) (cb_drop (by assumption) (by k_extra "MINE sub")) | skip
  all_goals unfold mappedV
  all_goals first | (rw [if_pos ⟨by assumption, by assumption⟩]; rfl) | (rw [if_neg (by omega), if_pos ⟨by assumption, by assumption, by assumption⟩]; assumption) | (rw [if_neg (by omega), if_neg (fun hh => by obtain ⟨e1, e2, e3⟩ := hh; first | omega | (rename hr = false => hq; rw [e1] at hq; cases hq))])
end
end Mine
namespace Mine
inductive ShIs : Value → Option Int → Prop
  | none : ShIs .none Option.none
  | int (i : Int) (t : Tok) (h0 : 0 ≤ i) (h1 : i < 4) : ShIs (.int i t) (some i)
noncomputable def codes24 : List Int := [95, 35, 91, 65, 126, 32, 127, 96, 64, 92, 93, 94, 123, 124, 125, 113, 168, 221, 255, 160, 225, 7, 133, 300]
theorem okF {c : Int} (hc : c ∈ codes24) (h0 : 32 ≤ c) (h1 : c < 128) : ∀ r ∈ rowsL, rowOk c r = true := by
  have : ∀ c ∈ codes24, 32 ≤ c → c < 128 → ∀ r ∈ rowsL, rowOk c r = true := by decide +kernel
  exact this c hc h0 h1
theorem okT {c : Int} (hc : c ∈ codes24) (h0 : 160 ≤ c) (h1 : c < 256) : ∀ r ∈ rowsL, rowOk (c - 128) r = true := by
  have : ∀ c ∈ codes24, 160 ≤ c → c < 256 → ∀ r ∈ rowsL, rowOk (c - 128) r = true := by decide +kernel
  exact this c hc h0 h1
section
variable {w : World} {mg mb : Str → Option Value} {mean : ExcName → Option Value} {dp un : Nat} {gd : Option (List Code)} {cn : Str} {cs : Scope} {a : Addr} {ccd : Value} {cl : List (Str × Addr)} {outer : List Env} {A₀ : Around} {base h₀ : Heap} {L : Addr} {m : Str → Option Value} {s : Shared} {Q E : Value → Shared → Prop}
theorem mapped_spec {ldg IM : List (Addr × Obj)} {g : Obj → List (Addr × Obj)} {ow od md on n : Nat} {mo : Obj} {kvs : List (Array UInt8 × Value)} {vs : List Value} {ns : List (Array UInt8)} {lf rg : Int} {tl tr : Tok} {k1 k2 k3 k4 k5 : Tok} {sv : Value} {sh : Option Int} {code : Int} {tc : Tok} {hr : Bool} (B : Below A₀ base outer h₀) (F : Fr h₀ L s.heap m) (X : (hd.heap_39 w.params).In h₀) (T : Top hd.view_39 (looseW hd.view_39 [Str.ofString "CHARSET_NAMES"]) mean mg mb h₀) (hk : cs.kind = .function)
  (N : News h₀ L s.heap ldg) (U : UpdF od (ownD w md on lf tl rg tr (sv) k1 k2 k3 k4 k5) ldg g) (m1 : (ow, instObj 146 od) ∈ ldg) (m3 : (md, mo) ∈ ldg) (m4 : (on, listOf vs.toArray n) ∈ ldg) (h1 : ow ≠ od) (h2 : md ≠ od) (h3 : on ≠ od) (hs1 : ∀ p ∈ IM, p ∈ ldg) (hs2 : ∀ p ∈ IM, p.1 ≠ od)
  (hd : dp + 2 < recursionLimit) (hu : un + 40 < cLine) (lo : (md == sysModules) = false) (ho : mo.IsDictOf (bkind PG w) kvs) (hT : TabsOk PG w names22 kvs IM) (hb : BytesAre vs ns) (hn : NamesOk ns)
  (hl0 : 0 ≤ lf) (hl1 : lf < 4) (hr0 : 0 ≤ rg) (hr1 : rg < 4) (hsh : ShIs sv sh)
  (hret : ∀ v t h' tk, v = mappedV ns lf rg sh code hr → Fr h₀ L h' m → News h₀ L h' (g (ownD w md on lf tl rg tr (.none) k1 k2 k3 k4 k5)) → Q (.int v t) { s with heap := h', toks := tk }) :
  wpAny (model PG w) (ktrTop dp un gd cn cs L a ccd cl outer) (call (.ref 136) [.ref ow, .int code tc, .bool hr]) Q E s := by
  obtain ⟨pre, post, rfl, hg, hp1, hp2⟩ := U.split
  have mem : ∀ (x : Addr) (o : Obj), (x, o) ∈ pre ++ (od, ownD w md on lf tl rg tr (sv) k1 k2 k3 k4 k5) :: post → x ≠ od → (x, o) ∈ pre ++ post := fun x o hm hx => by
    rcases List.mem_append.mp hm with hm | hm
    · exact List.mem_append.mpr (.inl hm)
    · rcases List.mem_cons.mp hm with e | hm
      · exact absurd (congrArg Prod.fst e) hx
      · exact List.mem_append.mpr (.inr hm)
  have hoff : ∀ p ∈ pre ++ post, p.1 ≠ od := fun p hp => (List.mem_append.mp hp).elim (hp1 p) (hp2 p)
  have hT' : TabsOk PG w names22 kvs (pre ++ post) := hT.mono fun p hp => mem p.1 p.2 (hs1 p hp) (hs2 p hp)
  have mid : ∀ p ∈ pre ++ post, p ∈ pre ++ (od, ownD w md on lf tl rg tr (sv) k1 k2 k3 k4 k5) :: post := fun p hp => by
    rcases List.mem_append.mp hp with hp | hp
    · exact List.mem_append.mpr (.inl hp)
    · exact List.mem_append.mpr (.inr (.tail _ hp))
  have N2 : News h₀ L s.heap ((od, ownD w md on lf tl rg tr (sv) k1 k2 k3 k4 k5) :: (ow, instObj 146 od) :: (md, mo) :: (on, listOf vs.toArray n) :: (pre ++ post)) :=
    cb_drop N (List.forall_mem_cons.mpr ⟨List.mem_append.mpr (.inr (.head _)), List.forall_mem_cons.mpr ⟨m1, List.forall_mem_cons.mpr ⟨m3, List.forall_mem_cons.mpr ⟨m4, mid⟩⟩⟩⟩)
  have fin : ∀ h', News h₀ L h' ((od, ownD w md on lf tl rg tr (.none) k1 k2 k3 k4 k5) :: (ow, instObj 146 od) :: (md, mo) :: (on, listOf vs.toArray n) :: (pre ++ post)) → News h₀ L h' (g (ownD w md on lf tl rg tr (.none) k1 k2 k3 k4 k5)) := fun h' N' => by
    rw [hg]
    intro p hp
    rcases List.mem_append.mp hp with hp | hp
    · exact N' p (.tail _ (.tail _ (.tail _ (.tail _ (List.mem_append.mpr (.inl hp))))))
    · rcases List.mem_cons.mp hp with rfl | hp
      · exact N' _ (.head _)
      · exact N' p (.tail _ (.tail _ (.tail _ (.tail _ (List.mem_append.mpr (.inr hp))))))
  cases hsh with
  | none => exact mappedN_spec B F X T hk N2 h1 h2 h3 hoff hd hu lo ho hT' hb hn hl0 hl1 hr0 hr1 fun v t h' tk hv F' N' => hret v t h' tk hv F' (fin h' N')
  | int i t s0 s1 => exact mappedI_spec B F X T hk N2 h1 h2 h3 hoff hd hu lo ho hT' hb hn s0 s1 hl0 hl1 hr0 hr1 fun v t h' tk hv F' N' => hret v t h' tk hv F' (fin h' N')
end
noncomputable def lawV (ns : List (Array UInt8)) (lf rg : Int) (sh : Option Int) (code : Int) (hr : Bool) : Int :=
  if 32 ≤ code ∧ code < 128 then shownF (ns.getD (sh.getD lf).toNat #[]) code
  else if hr = true ∧ 160 ≤ code ∧ code < 256 then shownT (ns.getD (sh.getD rg).toNat #[]) code else code
section
variable {prog : Program} {w : World} {A : Around} {E : Value → Shared → Prop} {s : Shared} {h₀ : Heap} {L : Addr} {m : Str → Option Value} {news : List (Addr × Obj)}
theorem st_names {va vb vc vd v : Value} : stored (K := Str) [(PySem.Str.ofString "names", va), (PySem.Str.ofString "left", vb), (PySem.Str.ofString "right", vc), (PySem.Str.ofString "shift", vd)] (Str.ofString "names") v = [(PySem.Str.ofString "names", v), (PySem.Str.ofString "left", vb), (PySem.Str.ofString "right", vc), (PySem.Str.ofString "shift", vd)] := rfl
theorem wset_names {d : Addr} {o : Obj} {g : Obj → List (Addr × Obj)} {va vb vc vd v : Value} {tk : Tok} {Q : Unit → Shared → Prop} (F : Fr h₀ L s.heap m) (N : News h₀ L s.heap news) (U : UpdF d o news g) (hd : o.IsDictOf (PySem.strKind prog w) [(PySem.Str.ofString "names", va), (PySem.Str.ofString "left", vb), (PySem.Str.ofString "right", vc), (PySem.Str.ofString "shift", vd)])
    (h : ∀ h' o', Fr h₀ L h' m → News h₀ L h' (g o') → o'.IsDictOf (PySem.strKind prog w) [(PySem.Str.ofString "names", v), (PySem.Str.ofString "left", vb), (PySem.Str.ofString "right", vc), (PySem.Str.ofString "shift", vd)] → Q () { s with heap := h', toks := s.toks + 1 }) : wpAny (model prog w) A (setItem (.ref d) (.str (Str.ofString "names") tk) v) Q E s :=
  kda_set (knd := PySem.strKind prog w) F N U hd (strKind_is _ _ _ _) (by rw [sizeLine_eq]; exact Nat.le_of_ble_eq_true (by with_unfolding_all rfl)) fun h' o' F' N' hd' => h h' o' F' N' (st_names ▸ hd')
theorem st_left {va vb vc vd v : Value} : stored (K := Str) [(PySem.Str.ofString "names", va), (PySem.Str.ofString "left", vb), (PySem.Str.ofString "right", vc), (PySem.Str.ofString "shift", vd)] (Str.ofString "left") v = [(PySem.Str.ofString "names", va), (PySem.Str.ofString "left", v), (PySem.Str.ofString "right", vc), (PySem.Str.ofString "shift", vd)] := rfl
theorem wset_left {d : Addr} {o : Obj} {g : Obj → List (Addr × Obj)} {va vb vc vd v : Value} {tk : Tok} {Q : Unit → Shared → Prop} (F : Fr h₀ L s.heap m) (N : News h₀ L s.heap news) (U : UpdF d o news g) (hd : o.IsDictOf (PySem.strKind prog w) [(PySem.Str.ofString "names", va), (PySem.Str.ofString "left", vb), (PySem.Str.ofString "right", vc), (PySem.Str.ofString "shift", vd)])
    (h : ∀ h' o', Fr h₀ L h' m → News h₀ L h' (g o') → o'.IsDictOf (PySem.strKind prog w) [(PySem.Str.ofString "names", va), (PySem.Str.ofString "left", v), (PySem.Str.ofString "right", vc), (PySem.Str.ofString "shift", vd)] → Q () { s with heap := h', toks := s.toks + 1 }) : wpAny (model prog w) A (setItem (.ref d) (.str (Str.ofString "left") tk) v) Q E s :=
  kda_set (knd := PySem.strKind prog w) F N U hd (strKind_is _ _ _ _) (by rw [sizeLine_eq]; exact Nat.le_of_ble_eq_true (by with_unfolding_all rfl)) fun h' o' F' N' hd' => h h' o' F' N' (st_left ▸ hd')
theorem st_right {va vb vc vd v : Value} : stored (K := Str) [(PySem.Str.ofString "names", va), (PySem.Str.ofString "left", vb), (PySem.Str.ofString "right", vc), (PySem.Str.ofString "shift", vd)] (Str.ofString "right") v = [(PySem.Str.ofString "names", va), (PySem.Str.ofString "left", vb), (PySem.Str.ofString "right", v), (PySem.Str.ofString "shift", vd)] := rfl
theorem wset_right {d : Addr} {o : Obj} {g : Obj → List (Addr × Obj)} {va vb vc vd v : Value} {tk : Tok} {Q : Unit → Shared → Prop} (F : Fr h₀ L s.heap m) (N : News h₀ L s.heap news) (U : UpdF d o news g) (hd : o.IsDictOf (PySem.strKind prog w) [(PySem.Str.ofString "names", va), (PySem.Str.ofString "left", vb), (PySem.Str.ofString "right", vc), (PySem.Str.ofString "shift", vd)])
    (h : ∀ h' o', Fr h₀ L h' m → News h₀ L h' (g o') → o'.IsDictOf (PySem.strKind prog w) [(PySem.Str.ofString "names", va), (PySem.Str.ofString "left", vb), (PySem.Str.ofString "right", v), (PySem.Str.ofString "shift", vd)] → Q () { s with heap := h', toks := s.toks + 1 }) : wpAny (model prog w) A (setItem (.ref d) (.str (Str.ofString "right") tk) v) Q E s :=
  kda_set (knd := PySem.strKind prog w) F N U hd (strKind_is _ _ _ _) (by rw [sizeLine_eq]; exact Nat.le_of_ble_eq_true (by with_unfolding_all rfl)) fun h' o' F' N' hd' => h h' o' F' N' (st_right ▸ hd')
theorem st_shift {va vb vc vd v : Value} : stored (K := Str) [(PySem.Str.ofString "names", va), (PySem.Str.ofString "left", vb), (PySem.Str.ofString "right", vc), (PySem.Str.ofString "shift", vd)] (Str.ofString "shift") v = [(PySem.Str.ofString "names", va), (PySem.Str.ofString "left", vb), (PySem.Str.ofString "right", vc), (PySem.Str.ofString "shift", v)] := rfl
theorem wset_shift {d : Addr} {o : Obj} {g : Obj → List (Addr × Obj)} {va vb vc vd v : Value} {tk : Tok} {Q : Unit → Shared → Prop} (F : Fr h₀ L s.heap m) (N : News h₀ L s.heap news) (U : UpdF d o news g) (hd : o.IsDictOf (PySem.strKind prog w) [(PySem.Str.ofString "names", va), (PySem.Str.ofString "left", vb), (PySem.Str.ofString "right", vc), (PySem.Str.ofString "shift", vd)])
    (h : ∀ h' o', Fr h₀ L h' m → News h₀ L h' (g o') → o'.IsDictOf (PySem.strKind prog w) [(PySem.Str.ofString "names", va), (PySem.Str.ofString "left", vb), (PySem.Str.ofString "right", vc), (PySem.Str.ofString "shift", v)] → Q () { s with heap := h', toks := s.toks + 1 }) : wpAny (model prog w) A (setItem (.ref d) (.str (Str.ofString "shift") tk) v) Q E s :=
  kda_set (knd := PySem.strKind prog w) F N U hd (strKind_is _ _ _ _) (by rw [sizeLine_eq]; exact Nat.le_of_ble_eq_true (by with_unfolding_all rfl)) fun h' o' F' N' hd' => h h' o' F' N' (st_shift ▸ hd')
end
end Mine
theorem Mine.kw22 : True := by
  w_top off
  k_with "subscriptTail" => (k_here; (with_reducible show wpAny _ _ (subscriptTail _ _ (Value.ref _) (Value.str _ _)) _ _ _); k_dflt (refine' kda_item (knd := PySem.strKind _ _) ?q9N ?q9m ?q9d (strKind_is _ _ _ _) ?q9v ?_ ?q9hs ?q9hg; (case q9N => k_asm); (case q9m => k_mem); (case q9d => with_reducible assumption); (case q9v => rfl); (case q9hs => with_unfolding_all rfl); (case q9hg => (intro _; with_unfolding_all rfl))))
  k_with "setItem ref str" => (k_here; (with_reducible show wpAny _ _ (setItem (Value.ref _) (Value.str (PySem.Str.ofString "names") _) _) _ _ _); k_dflt (refine' wset_names ?q9F ?q9N ?q9U ?q9d ?_; (case q9F => k_asm); (case q9N => k_asm); (case q9U => k_updF); (case q9d => with_reducible assumption)); intro h' o' F' N' hd'; (try dsimp only at N'))
  k_with "setItem ref str" => (k_here; (with_reducible show wpAny _ _ (setItem (Value.ref _) (Value.str (PySem.Str.ofString "left") _) _) _ _ _); k_dflt (refine' wset_left ?q9F ?q9N ?q9U ?q9d ?_; (case q9F => k_asm); (case q9N => k_asm); (case q9U => k_updF); (case q9d => with_reducible assumption)); intro h' o' F' N' hd'; (try dsimp only at N'))
  k_with "setItem ref str" => (k_here; (with_reducible show wpAny _ _ (setItem (Value.ref _) (Value.str (PySem.Str.ofString "right") _) _) _ _ _); k_dflt (refine' wset_right ?q9F ?q9N ?q9U ?q9d ?_; (case q9F => k_asm); (case q9N => k_asm); (case q9U => k_updF); (case q9d => with_reducible assumption)); intro h' o' F' N' hd'; (try dsimp only at N'))
  k_with "setItem ref str" => (k_here; (with_reducible show wpAny _ _ (setItem (Value.ref _) (Value.str (PySem.Str.ofString "shift") _) _) _ _ _); k_dflt (refine' wset_shift ?q9F ?q9N ?q9U ?q9d ?_; (case q9F => k_asm); (case q9N => k_asm); (case q9U => k_updF); (case q9d => with_reducible assumption)); intro h' o' F' N' hd'; (try dsimp only at N'))
  k_with "call ref" => (k_here; (with_reducible show wpAny _ _ (call (Value.ref 185) [Value.ref _, Value.bytes _ _, Value.int _ _, Value.bool false]) _ _ _); k_dflt (refine' shownF_spec ?q9B ?q9F ?q9X ?q9N ?q9T ?q9hk ?q9hd ?q9hu ?q9hrow ?q9hR ?q9hok trivial ?q9h0 ?q9h1 ?_; (case q9B => k_asm); (case q9F => k_asm); (case q9X => k_asm); (case q9N => k_asm); (case q9T => k_asm); (case q9hk => first | exact rfl | assumption); (case q9hd => ktr_room); (case q9hu => ktr_units); (case q9hrow => k_extra "MINE mm"); (case q9hR => (refine RowsAre.mono ?_ (by with_reducible assumption); k_extra "MINE sub2")); (case q9hok => exact okF (by with_reducible assumption) (by omega) (by omega)); (case q9h0 => omega); (case q9h1 => omega)); intro v' t' h' tk' hv' F' N')
  k_with "call ref" => (k_here; (with_reducible show wpAny _ _ (call (Value.ref 185) [Value.ref _, Value.bytes _ _, Value.int _ _, Value.bool true]) _ _ _); k_dflt (refine' shownT_spec ?q9B ?q9F ?q9X ?q9N ?q9T ?q9hk ?q9hd ?q9hu ?q9hrow ?q9hR ?q9hok trivial ?q9h0 ?q9h1 ?_; (case q9B => k_asm); (case q9F => k_asm); (case q9X => k_asm); (case q9N => k_asm); (case q9T => k_asm); (case q9hk => first | exact rfl | assumption); (case q9hd => ktr_room); (case q9hu => ktr_units); (case q9hrow => k_extra "MINE mm"); (case q9hR => (refine RowsAre.mono ?_ (by with_reducible assumption); k_extra "MINE sub2")); (case q9hok => exact okT (by with_reducible assumption) (by omega) (by omega)); (case q9h0 => omega); (case q9h1 => omega)); intro v' t' h' tk' hv' F' N')
  trivial
namespace Mine
section
variable {w : World} {mg mb : Str → Option Value} {mean : ExcName → Option Value} {dp un : Nat} {gd : Option (List Code)} {cn : Str} {cs : Scope} {a : Addr} {ccd : Value} {cl : List (Str × Addr)} {outer : List Env} {A₀ : Around} {base h₀ : Heap} {L : Addr} {m : Str → Option Value} {s : Shared} {Q E : Value → Shared → Prop}
theorem lawMapped_spec {news : List (Addr × Obj)} {d nr wd wn n : Nat} {rs : List Value} {wo : Obj} {vs : List Value} {ns : List (Array UInt8)} {lf rg : Int} {tl tr : Tok} {sv : Value} {sh : Option Int} {code : Int} {tc : Tok} {hr : Bool} (B : Below A₀ base outer h₀) (F : Fr h₀ L s.heap m) (X : (hd.heap_39 w.params).In h₀) (T : Top hd.view_39 (looseW hd.view_39 [Str.ofString "CHARSET_NAMES"]) mean mg mb h₀) (hk : cs.kind = .function)
  (N : News h₀ L s.heap ((wd, wo) :: (wn, listOf vs.toArray n) :: news)) (h1 : wn ≠ wd) (h4 : ∀ p ∈ news, p.1 ≠ wd)
  (hd : dp + 3 < recursionLimit) (hu : un + 60 < cLine) (ho : wo.IsDictOf (PySem.strKind PG w) [(PySem.Str.ofString "names", .ref wn), (PySem.Str.ofString "left", .int lf tl), (PySem.Str.ofString "right", .int rg tr), (PySem.Str.ofString "shift", sv)]) (hb : BytesAre vs ns) (hn : NamesOk ns)
  (hl0 : 0 ≤ lf) (hl1 : lf < 4) (hr0 : 0 ≤ rg) (hr1 : rg < 4) (hsh : ShIs sv sh) (hrow : (d, listOf rs.toArray nr) ∈ news) (hR : RowsAre news rs rowsL) (hc : code ∈ codes24)
  (hret : ∀ v t wo' h' tk, v = lawV ns lf rg sh code hr → wo'.IsDictOf (PySem.strKind PG w) [(PySem.Str.ofString "names", .ref wn), (PySem.Str.ofString "left", .int lf tl), (PySem.Str.ofString "right", .int rg tr), (PySem.Str.ofString "shift", .none)] → Fr h₀ L h' m → News h₀ L h' ((wd, wo') :: (wn, listOf vs.toArray n) :: news) → Q (.int v t) { s with heap := h', toks := tk }) :
  wpAny (model PG w) (ktrTop dp un gd cn cs L a ccd cl outer) (call (.ref 192) [.ref d, .ref wd, .int code tc, .bool hr]) Q E s := by
  cases hsh
  all_goals refine wpAny_call ?_
  all_goals k_dflt cell_enter
  all_goals k_steps
  all_goals first | refine hret _ _ _ _ _ ?_ (by with_reducible assumption) (by assumption) (cb_drop (by assumption) (by k_extra "MINE sub")) | skip
  all_goals first | unfold lawV | fail
  all_goals first | (rw [if_pos ⟨by assumption, by assumption⟩]; assumption) | (rw [if_neg (by omega), if_pos ⟨by assumption, by assumption, by assumption⟩]; assumption) | (rw [if_neg (by omega), if_neg (fun hh => by obtain ⟨e1, e2, e3⟩ := hh; first | omega | (rename hr = false => hq; rw [e1] at hq; cases hq))])
end
end Mine
namespace Mine
section
variable {prog : Program} {w : World} {A : Around} {E : Value → Shared → Prop} {s : Shared} {h₀ : Heap} {L : Addr} {m : Str → Option Value} {news : List (Addr × Obj)}
theorem eq_empty_K {l e : Nat} {o oe : Obj} {ks : List (Int × Value)} {c : List (Int × Int)} {Q : Value → Shared → Prop} (N : News h₀ L s.heap news) (hm : (l, o) ∈ news) (lo : (l == sysModules) = false) (hd : o.IsDictOf (intKind prog w) ks) (hf : FlatPairs PyData.int ks (kdfD c))
    (hm2 : (e, oe) ∈ news) (lo2 : (e == sysModules) = false) (hd2 : oe.IsDictOf (PySem.strKind prog w) []) (hu : A.units < cLine) (h : Q (.bool c.isEmpty) s) :
    wpAny (model prog w) A (compareOp .Eq (.ref l) (.ref e)) Q E s := by
  have T1 := tab_K N hm lo hd hf
  have T2 : IntTab prog w s.heap e [] := ⟨lo2, [], kda_dict N hm2 (empty_kind hd2), .nil⟩
  cases c with
  | nil => exact keq_tabs (knd := intKind prog w) (enc := PyData.int) PyProof.V.same_int T1 T2 rfl hu KeqRows.nil h
  | cons p r => exact keq_tabs_len (knd := intKind prog w) (enc := PyData.int) T1 T2 rfl hu h
end
noncomputable def plainB (ns : List (Array UInt8)) (lf : Int) : Bool := (tableL (ns.getD lf.toNat #[])).isEmpty
end Mine
theorem Mine.kw23 : True := by
  w_top off
  k_with "compareOp Eq ref ref" => (k_here; (with_reducible show wpAny _ _ (compareOp CmpOp.Eq (Value.ref _) (Value.ref _)) _ _ _); k_dflt (refine' eq_empty_K ?q9N ?q9m ?q9lo ?q9d ?q9f ?q9m2 ?q9lo2 ?q9d2 ?q9u ?_; (case q9N => k_asm); (case q9m => k_extra "MINE mm"); (case q9lo => with_reducible assumption); (case q9d => with_reducible assumption); (case q9f => with_reducible assumption); (case q9m2 => k_mem); (case q9lo2 => with_reducible assumption); (case q9d2 => with_reducible assumption); (case q9u => first | k_units | ktr_units)))
  trivial
namespace Mine
section
variable {w : World} {mg mb : Str → Option Value} {mean : ExcName → Option Value} {dp un : Nat} {gd : Option (List Code)} {cn : Str} {cs : Scope} {a : Addr} {ccd : Value} {cl : List (Str × Addr)} {outer : List Env} {A₀ : Around} {base h₀ : Heap} {L : Addr} {m : Str → Option Value} {s : Shared} {Q E : Value → Shared → Prop}
theorem plainN_spec {news : List (Addr × Obj)} {ow od md on n : Nat} {mo : Obj} {kvs : List (Array UInt8 × Value)} {vs : List Value} {ns : List (Array UInt8)} {lf rg : Int} {tl tr : Tok} {k1 k2 k3 k4 k5 : Tok} (B : Below A₀ base outer h₀) (F : Fr h₀ L s.heap m) (X : (hd.heap_39 w.params).In h₀) (T : Top hd.view_39 (looseW hd.view_39 [Str.ofString "CHARSET_NAMES"]) mean mg mb h₀) (hk : cs.kind = .function)
  (N0 : News h₀ L s.heap news) (m1 : (ow, instObj 146 od) ∈ news) (m2 : (od, ownD w md on lf tl rg tr (.none) k1 k2 k3 k4 k5) ∈ news) (m3 : (md, mo) ∈ news) (m4 : (on, listOf vs.toArray n) ∈ news)
  (hd : dp + 2 < recursionLimit) (hu : un + 40 < cLine) (lo : (md == sysModules) = false) (ho : mo.IsDictOf (bkind PG w) kvs) (hT : TabsOk PG w names22 kvs news) (hb : BytesAre vs ns) (hn : NamesOk ns)
  (hl0 : 0 ≤ lf) (hl1 : lf < 4)
  (hret : ∀ v h' tk, v = plainB ns lf → Fr h₀ L h' m → News h₀ L h' news → Q (.bool v) { s with heap := h', toks := tk }) :
  wpAny (model PG w) (ktrTop dp un gd cn cs L a ccd cl outer) (call (.ref 143) [.ref ow]) Q E s := by
  have N : News h₀ L s.heap ((ow, instObj 146 od) :: (od, ownD w md on lf tl rg tr (.none) k1 k2 k3 k4 k5) :: (md, mo) :: (on, listOf vs.toArray n) :: news) := cb_drop N0 (List.forall_mem_cons.mpr ⟨m1, List.forall_mem_cons.mpr ⟨m2, List.forall_mem_cons.mpr ⟨m3, List.forall_mem_cons.mpr ⟨m4, fun _ h => h⟩⟩⟩⟩)
  clear N0 m1 m2 m3 m4
  refine wpAny_call ?_
  k_dflt cell_enter
  k_steps
  all_goals first | exact hret _ _ _ rfl (by assumption) (cb_drop (by assumption) (by k_extra "MINE sub")) | fail
theorem plainI_spec {news : List (Addr × Obj)} {ow od md on : Nat} {lf rg sh : Int} {tl tr tsh : Tok} {k1 k2 k3 k4 k5 : Tok} (B : Below A₀ base outer h₀) (F : Fr h₀ L s.heap m) (X : (hd.heap_39 w.params).In h₀) (T : Top hd.view_39 (looseW hd.view_39 [Str.ofString "CHARSET_NAMES"]) mean mg mb h₀) (hk : cs.kind = .function)
  (N0 : News h₀ L s.heap news) (m1 : (ow, instObj 146 od) ∈ news) (m2 : (od, ownD w md on lf tl rg tr (.int sh tsh) k1 k2 k3 k4 k5) ∈ news)
  (hd : dp + 2 < recursionLimit) (hu : un + 40 < cLine)
  (hret : ∀ h' tk, Fr h₀ L h' m → News h₀ L h' news → Q (.bool false) { s with heap := h', toks := tk }) :
  wpAny (model PG w) (ktrTop dp un gd cn cs L a ccd cl outer) (call (.ref 143) [.ref ow]) Q E s := by
  have N : News h₀ L s.heap ((ow, instObj 146 od) :: (od, ownD w md on lf tl rg tr (.int sh tsh) k1 k2 k3 k4 k5) :: news) := cb_drop N0 (List.forall_mem_cons.mpr ⟨m1, List.forall_mem_cons.mpr ⟨m2, fun _ h => h⟩⟩)
  clear N0 m1 m2
  refine wpAny_call ?_
  k_dflt cell_enter
  k_steps
  all_goals first | exact hret _ _ (by assumption) (cb_drop (by assumption) (by k_extra "MINE sub")) | fail
end
end Mine
namespace Mine
open PySem.MeetsSeq PySem.SeqAt
inductive SameSh : Value → Value → Prop
  | none : SameSh .none .none
  | int (i : Int) (t u : Tok) : SameSh (.int i t) (.int i u)
theorem BytesAre.item : ∀ {vs : List Value} {bs : List (Array UInt8)}, BytesAre vs bs → ∀ (i : Nat) (h : i < vs.length), ∃ b t, bs[i]? = some b ∧ vs[i] = .bytes b t
  | _, _, .nil, _, h => by simp at h
  | _, _, .cons b t h, 0, _ => ⟨b, t, rfl, rfl⟩
  | _, _, .cons b t h, i + 1, hi => by
    obtain ⟨b', t', e1, e2⟩ := h.item i (by simpa using hi)
    exact ⟨b', t', by simpa using e1, by simpa using e2⟩
theorem all_true (n : Nat) : ((List.range n).all fun _ => true) = true := by simp
section
variable {prog : Program} {w : World} {A : Around} {E : Value → Shared → Prop} {s : Shared} {h₀ : Heap} {L : Addr} {m : Str → Option Value} {news : List (Addr × Obj)}
theorem eqAt_names {x y n n' : Nat} {vs vs' : List Value} {ns : List (Array UInt8)} (N : News h₀ L s.heap news) (hx : (x, listOf vs.toArray n) ∈ news) (hy : (y, listOf vs'.toArray n') ∈ news) (hne : x ≠ y) (b1 : BytesAre vs ns) (b2 : BytesAre vs' ns) (hu : A.units < cLine) :
    EqAt A s (.ref x) (.ref y) true := by
  have h := RcAt.lists (A := A) (e := fun _ => true) (PySem.IsL.isList (n := n) (N _ hx).1) (PySem.IsL.isList (n := n') (N _ hy).1) (by simp [b1.length, b2.length]) hu fun j h1 h2 => by
    obtain ⟨b, t, e1, e2⟩ := b1.item j (by simpa using h1)
    obtain ⟨b', t', e1', e2'⟩ := b2.item j (by simpa using h2)
    have eb : b = b' := by rw [e1] at e1'; exact Option.some.inj e1'
    subst eb
    have g := (EqGives.bytes b b t t').at A.in1 s
    simpa [e2, e2'] using g
  rw [all_true] at h
  exact EqAt.of_refs hne h
theorem ne_states_K {a b x y na nb n n' : Nat} {vs vs' : List Value} {ns : List (Array UInt8)} {p q : Int} {tp tq tp' tq' : Tok} {v v' : Value} {Q : Value → Shared → Prop} (N : News h₀ L s.heap news)
    (ha : (a, listOf #[.ref x, .int p tp, .int q tq, v] na) ∈ news) (hb : (b, listOf #[.ref y, .int p tp', .int q tq', v'] nb) ∈ news) (hx : (x, listOf vs.toArray n) ∈ news) (hy : (y, listOf vs'.toArray n') ∈ news) (hne : x ≠ y) (b1 : BytesAre vs ns) (b2 : BytesAre vs' ns) (hs : SameSh v v') (hu : A.units + 8 < cLine)
    (h : Q (.bool false) s) : wpAny (model prog w) A (compareOp .NotEq (.ref a) (.ref b)) Q E s := by
  have r := RcNeAt.lists (A := A) (e := fun _ => true) (PySem.IsL.isList (n := na) (N _ ha).1) (PySem.IsL.isList (n := nb) (N _ hb).1) rfl (by omega) fun j h1 h2 => ?_
  · rw [all_true] at r
    exact r prog w E Q h
  · match j, h1, h2 with
    | 0, _, _ => exact eqAt_names (A := A.in1) N hx hy hne b1 b2 (by rw [units_in1]; omega)
    | 1, _, _ => have g := (EqGives.int p p tp tp').at A.in1 s; simpa using g
    | 2, _, _ => have g := (EqGives.int q q tq tq').at A.in1 s; simpa using g
    | 3, _, _ =>
      cases hs with
      | none => exact EqAt.same _
      | int i t u => have g := (EqGives.int i i t u).at A.in1 s; simpa using g
    | k + 4, h1, _ => exact absurd h1 (by simp)
theorem names_copyK {l n : Nat} {vs : List Value} {ns : List (Array UInt8)} {Q : Value → Shared → Prop} (F : Fr h₀ L s.heap m) (N : News h₀ L s.heap news) (hm : (l, listOf vs.toArray n) ∈ news) (hb : BytesAre vs ns) (hn : NamesOk ns)
    (h : ∀ (D : Nat) c h', Fr h₀ L h' m → News h₀ L h' ((D, listOf vs.toArray c) :: news) → (∀ q ∈ news, q.1 < D) → Q (.ref D) { s with heap := h' }) : wpAny (model prog w) A (call (.type "list") [.ref l]) Q E s :=
  list_copyK F N (PySem.IsL.isList (n := n) (N _ hm).1) h (by rw [sizeLine_eq]; have := hb.length; have := hn.len; simp; omega)
theorem plain_law {x : Array UInt8} (h : x ∈ words18) : (tableL x).isEmpty = (x.toList == #[66].toList) := by
  have : ∀ x ∈ words18, (tableL x).isEmpty = (x.toList == #[66].toList) := by decide +kernel
  exact this x h
end
end Mine
theorem Mine.kw24 : True := by
  w_top off
  k_with "call ref" => (k_here; (with_reducible show wpAny _ _ (call (Value.ref 143) _) _ _ _); first | (k_dflt (refine' plainN_spec ?q9B ?q9F ?q9X ?q9T ?q9hk ?q9N ?q9m1 ?q9m2 ?q9m3 ?q9m4 ?q9hd ?q9hu ?q9lo ?q9ho ?q9hT ?q9hb ?q9hn ?q9l0 ?q9l1 ?_; (case q9B => k_asm); (case q9F => k_asm); (case q9X => k_asm); (case q9T => k_asm); (case q9hk => first | exact rfl | assumption); (case q9N => k_asm); (case q9m1 => k_extra "MINE mm"); (case q9m2 => k_mem); (case q9m3 => k_extra "MINE mm"); (case q9m4 => k_mem); (case q9hd => ktr_room); (case q9hu => ktr_units); (case q9lo => with_reducible assumption); (case q9ho => with_reducible assumption); (case q9hT => exact TabsOk.mono (by with_reducible assumption) (by k_extra "MINE sub2")); (case q9hb => with_reducible assumption); (case q9hn => with_reducible assumption); (case q9l0 => omega); (case q9l1 => omega)); intro v' h' tk' hv' F' N') | (k_dflt (refine' plainI_spec ?q9B ?q9F ?q9X ?q9T ?q9hk ?q9N ?q9m1 ?q9m2 ?q9hd ?q9hu ?_; (case q9B => k_asm); (case q9F => k_asm); (case q9X => k_asm); (case q9T => k_asm); (case q9hk => first | exact rfl | assumption); (case q9N => k_asm); (case q9m1 => k_extra "MINE mm"); (case q9m2 => k_mem); (case q9hd => ktr_room); (case q9hu => ktr_units)); intro h' tk' F' N'))
  k_with "compareOp NotEq ref ref" => (k_here; (with_reducible show wpAny _ _ (compareOp CmpOp.NotEq (Value.ref _) (Value.ref _)) _ _ _); k_dflt (refine' ne_states_K ?q9N ?q9m1 ?q9m2 ?q9m3 ?q9m4 ?q9ne ?q9b1 ?q9b2 ?q9s1 ?q9u ?_; (case q9N => k_asm); (case q9m1 => k_mem); (case q9m2 => k_mem); (case q9m3 => k_mem); (case q9m4 => k_mem); (case q9ne => k_ne); (case q9b1 => with_reducible assumption); (case q9b2 => with_reducible assumption); (case q9s1 => first | exact SameSh.none | exact SameSh.int _ _ _); (case q9u => first | k_units | ktr_units)))
  k_with "call type:list" => (k_here; (with_reducible show wpAny _ _ (call (Value.type "list") [Value.ref _]) _ _ _); k_dflt (refine' names_copyK ?q9F ?q9N ?q9m ?q9b ?q9n ?_; (case q9F => k_asm); (case q9N => k_asm); (case q9m => k_mem); (case q9b => with_reducible assumption); (case q9n => with_reducible assumption)); intro D' c' h' F' N' l1; (try k_lt l1))
  trivial
namespace Mine
section
variable {w : World} {mg mb : Str → Option Value} {mean : ExcName → Option Value} {dp un : Nat} {gd : Option (List Code)} {cn : Str} {cs : Scope} {a : Addr} {ccd : Value} {cl : List (Str × Addr)} {outer : List Env} {A₀ : Around} {base h₀ : Heap} {L : Addr} {m : Str → Option Value} {s : Shared} {Q E : Value → Shared → Prop}
theorem isSo_spec {news : List (Addr × Obj)} {ow od md on wd wn n n' : Nat} {mo wo : Obj} {kvs : List (Array UInt8 × Value)} {vs vs' : List Value} {ns : List (Array UInt8)} {lf rg : Int} {tl tr tl' tr' : Tok} {sv sv' : Value} {k1 k2 k3 k4 k5 : Tok} (B : Below A₀ base outer h₀) (F : Fr h₀ L s.heap m) (X : (hd.heap_39 w.params).In h₀) (T : Top hd.view_39 (looseW hd.view_39 [Str.ofString "CHARSET_NAMES"]) mean mg mb h₀) (hk : cs.kind = .function)
  (N0 : News h₀ L s.heap news) (m1 : (ow, instObj 146 od) ∈ news) (m2 : (od, ownD w md on lf tl rg tr (sv) k1 k2 k3 k4 k5) ∈ news) (m3 : (md, mo) ∈ news) (m4 : (on, listOf vs.toArray n) ∈ news) (m5 : (wd, wo) ∈ news) (m6 : (wn, listOf vs'.toArray n') ∈ news)
  (hd : dp + 4 < recursionLimit) (hu : un + 60 < cLine) (lo : (md == sysModules) = false) (ho : mo.IsDictOf (bkind PG w) kvs) (hw : wo.IsDictOf (PySem.strKind PG w) [(PySem.Str.ofString "names", .ref wn), (PySem.Str.ofString "left", .int lf tl'), (PySem.Str.ofString "right", .int rg tr'), (PySem.Str.ofString "shift", sv')]) (hT : TabsOk PG w names22 kvs news) (hb : BytesAre vs ns) (hb' : BytesAre vs' ns) (hn : NamesOk ns)
  (hl0 : 0 ≤ lf) (hl1 : lf < 4) (hs : SameSh sv sv')
  (hret : ∀ h' tk, Fr h₀ L h' m → News h₀ L h' news → Q (.bool true) { s with heap := h', toks := tk }) :
  wpAny (model PG w) (ktrTop dp un gd cn cs L a ccd cl outer) (call (.ref 206) [.ref wd, .ref ow]) Q E s := by
  have N : News h₀ L s.heap ((ow, instObj 146 od) :: (od, ownD w md on lf tl rg tr (sv) k1 k2 k3 k4 k5) :: (md, mo) :: (on, listOf vs.toArray n) :: (wd, wo) :: (wn, listOf vs'.toArray n') :: news) := cb_drop N0 (List.forall_mem_cons.mpr ⟨m1, List.forall_mem_cons.mpr ⟨m2, List.forall_mem_cons.mpr ⟨m3, List.forall_mem_cons.mpr ⟨m4, List.forall_mem_cons.mpr ⟨m5, List.forall_mem_cons.mpr ⟨m6, fun _ h => h⟩⟩⟩⟩⟩⟩)
  clear N0 m1 m2 m3 m4 m5 m6
  cases hs
  all_goals refine wpAny_call ?_
  all_goals k_dflt cell_enter
  all_goals k_steps
  all_goals (try (rename _ = plainB _ _ => hv; subst hv; unfold plainB; rw [plain_law (by assumption), beq_self_eq_true]))
  all_goals first | exact hret _ _ (by assumption) (cb_drop (by assumption) (by k_extra "MINE sub")) | fail
end
end Mine
namespace Mine
theorem law_left {x : Array UInt8} {c : Int} (hx : x ∈ words18) (hc : c ∈ codes24) (h0 : 32 ≤ c) (h1 : c < 128) : kdfLook (tableL x) c c = shownF x c := by
  have : ∀ x ∈ words18, ∀ c ∈ codes24, 32 ≤ c → c < 128 → kdfLook (tableL x) c c = shownF x c := by decide +kernel
  exact this x hx c hc h0 h1
theorem law_right {x : Array UInt8} {c : Int} (hx : x ∈ words18) (hc : c ∈ codes24) (h0 : 160 ≤ c) (h1 : c < 256) : rightV (tableL x) c = shownT x c := by
  have : ∀ x ∈ words18, ∀ c ∈ codes24, 160 ≤ c → c < 256 → rightV (tableL x) c = shownT x c := by unfold rightV; decide +kernel
  exact this x hx c hc h0 h1
inductive ShOk : Option Int → Prop
  | none : ShOk Option.none
  | some (i : Int) (h0 : 0 ≤ i) (h1 : i < 4) : ShOk (Option.some i)
theorem ShIs.ok {v : Value} {sh : Option Int} (h : ShIs v sh) : ShOk sh := by
  cases h with
  | none => exact .none
  | int i t h0 h1 => exact .some i h0 h1
theorem ShOk.get {sh : Option Int} (h : ShOk sh) {k : Int} (h0 : 0 ≤ k) (h1 : k < 4) : 0 ≤ sh.getD k ∧ sh.getD k < 4 := by
  cases h with
  | none => exact ⟨h0, h1⟩
  | some i a b => exact ⟨a, b⟩
theorem law_same {ns : List (Array UInt8)} {lf rg : Int} {sh : Option Int} {c : Int} {hr : Bool} (hn : NamesOk ns) (l0 : 0 ≤ lf) (l1 : lf < 4) (r0 : 0 ≤ rg) (r1 : rg < 4) (hs : ShOk sh) (hc : c ∈ codes24) : mappedV ns lf rg sh c hr = lawV ns lf rg sh c hr := by
  unfold mappedV lawV
  have a := hs.get l0 l1
  have b := hs.get r0 r1
  by_cases h : 32 ≤ c ∧ c ≤ 127
  · rw [if_pos h, if_pos ⟨h.1, by omega⟩]
    exact law_left (hn.get a.1 a.2) hc h.1 (by omega)
  · rw [if_neg h, if_neg (show ¬(32 ≤ c ∧ c < 128) by omega)]
    by_cases h2 : hr = true ∧ 160 ≤ c ∧ c ≤ 255
    · rw [if_pos h2, if_pos ⟨h2.1, h2.2.1, by omega⟩]
      exact law_right (hn.get b.1 b.2) hc h2.2.1 (by omega)
    · rw [if_neg h2, if_neg (fun hh => h2 ⟨hh.1, hh.2.1, by omega⟩)]
end Mine
namespace Mine
noncomputable def Df (a b : Nat) : Prop := a ≠ b
theorem Df.ne {a b : Nat} (h : Df a b) : a ≠ b := h
theorem Df.en {a b : Nat} (h : Df a b) : b ≠ a := Ne.symm h
theorem ShIs.same {v v' : Value} {sh : Option Int} (h : ShIs v sh) (h' : ShIs v' sh) : SameSh v v' := by
  cases h with
  | none => cases h'; exact .none
  | int i t a b => cases h'; exact .int _ _ _
section
variable {w : World} {mg mb : Str → Option Value} {mean : ExcName → Option Value} {dp un : Nat} {gd : Option (List Code)} {cn : Str} {cs : Scope} {a : Addr} {ccd : Value} {cl : List (Str × Addr)} {outer : List Env} {A₀ : Around} {base h₀ : Heap} {L : Addr} {m : Str → Option Value} {s : Shared} {Q E : Value → Shared → Prop}
theorem lawMapped_specU {ldg IM : List (Addr × Obj)} {g : Obj → List (Addr × Obj)} {d nr wd wn n : Nat} {rs : List Value} {wo : Obj} {vs : List Value} {ns : List (Array UInt8)} {lf rg : Int} {tl tr : Tok} {sv : Value} {sh : Option Int} {code : Int} {tc : Tok} {hr : Bool} (B : Below A₀ base outer h₀) (F : Fr h₀ L s.heap m) (X : (hd.heap_39 w.params).In h₀) (T : Top hd.view_39 (looseW hd.view_39 [Str.ofString "CHARSET_NAMES"]) mean mg mb h₀) (hk : cs.kind = .function)
  (N : News h₀ L s.heap ldg) (U : UpdF wd wo ldg g) (m4 : (wn, listOf vs.toArray n) ∈ ldg) (h1 : wn ≠ wd) (hs1 : ∀ p ∈ IM, p ∈ ldg) (hs2 : ∀ p ∈ IM, p.1 ≠ wd)
  (hd : dp + 3 < recursionLimit) (hu : un + 60 < cLine) (ho : wo.IsDictOf (PySem.strKind PG w) [(PySem.Str.ofString "names", .ref wn), (PySem.Str.ofString "left", .int lf tl), (PySem.Str.ofString "right", .int rg tr), (PySem.Str.ofString "shift", sv)]) (hb : BytesAre vs ns) (hn : NamesOk ns)
  (hl0 : 0 ≤ lf) (hl1 : lf < 4) (hr0 : 0 ≤ rg) (hr1 : rg < 4) (hsh : ShIs sv sh) (hrow : (d, listOf rs.toArray nr) ∈ IM) (hR : RowsAre IM rs rowsL) (hc : code ∈ codes24)
  (hret : ∀ v t wo' h' tk, v = lawV ns lf rg sh code hr → wo'.IsDictOf (PySem.strKind PG w) [(PySem.Str.ofString "names", .ref wn), (PySem.Str.ofString "left", .int lf tl), (PySem.Str.ofString "right", .int rg tr), (PySem.Str.ofString "shift", .none)] → Fr h₀ L h' m → News h₀ L h' (g wo') → Q (.int v t) { s with heap := h', toks := tk }) :
  wpAny (model PG w) (ktrTop dp un gd cn cs L a ccd cl outer) (call (.ref 192) [.ref d, .ref wd, .int code tc, .bool hr]) Q E s := by
  obtain ⟨pre, post, rfl, hg, hp1, hp2⟩ := U.split
  have mem : ∀ (x : Addr) (o : Obj), (x, o) ∈ pre ++ (wd, wo) :: post → x ≠ wd → (x, o) ∈ pre ++ post := fun x o hm hx => by
    rcases List.mem_append.mp hm with hm | hm
    · exact List.mem_append.mpr (.inl hm)
    · rcases List.mem_cons.mp hm with e | hm
      · exact absurd (congrArg Prod.fst e) hx
      · exact List.mem_append.mpr (.inr hm)
  have hoff : ∀ p ∈ pre ++ post, p.1 ≠ wd := fun p hp => (List.mem_append.mp hp).elim (hp1 p) (hp2 p)
  have sub : ∀ p ∈ IM, p ∈ pre ++ post := fun p hp => mem p.1 p.2 (hs1 p hp) (hs2 p hp)
  have mid : ∀ p ∈ pre ++ post, p ∈ pre ++ (wd, wo) :: post := fun p hp => by
    rcases List.mem_append.mp hp with hp | hp
    · exact List.mem_append.mpr (.inl hp)
    · exact List.mem_append.mpr (.inr (.tail _ hp))
  have N2 : News h₀ L s.heap ((wd, wo) :: (wn, listOf vs.toArray n) :: (pre ++ post)) :=
    cb_drop N (List.forall_mem_cons.mpr ⟨List.mem_append.mpr (.inr (.head _)), List.forall_mem_cons.mpr ⟨m4, mid⟩⟩)
  refine lawMapped_spec B F X T hk N2 h1 hoff hd hu ho hb hn hl0 hl1 hr0 hr1 hsh (sub _ hrow) (hR.mono sub) hc fun v t wo' h' tk hv ho' F' N' => hret v t wo' h' tk hv ho' F' ?_
  rw [hg]
  intro p hp
  rcases List.mem_append.mp hp with hp | hp
  · exact N' p (.tail _ (.tail _ (List.mem_append.mpr (.inl hp))))
  · rcases List.mem_cons.mp hp with rfl | hp
    · exact N' _ (.head _)
    · exact N' p (.tail _ (.tail _ (List.mem_append.mpr (.inr hp))))
end
section
variable {prog : Program} {w : World} {A : Around} {E : Value → Shared → Prop} {s : Shared} {h₀ : Heap} {L : Addr} {m : Str → Option Value} {news : List (Addr × Obj)}
theorem codes_item {value slice : PySem.Expr} {l n : Nat} {vs : List Value} {k : Int} {u : Tok} {Q : Value → Shared → Prop} (N : News h₀ L s.heap news) (hm : (l, listOf vs.toArray n) ∈ news) (hi : IntsAre vs codes24) (h0 : 0 ≤ k) (h1 : k < 24)
    (h : ∀ c t, c ∈ codes24 → Q (.int c t) s)
    (hs : subscripted slice false (.ref l) (.int k u) = operate [.ref l, .int k u] (getItem (.ref l) (.int k u)) := by with_unfolding_all rfl) :
    wpAny (model prog w) A (subscriptTail value slice (.ref l) (.int k u)) Q E s := by
  have hlt : k.toNat < codes24.length := by show k.toNat < 24; omega
  refine item_anyK (PySem.IsL.isList (n := n) (N _ hm).1) hi h0 (by show k < 24; exact h1) (by omega) (fun t => h _ t ?_) hs
  rw [List.getD_eq_getElem?_getD, List.getElem?_eq_getElem hlt]
  exact List.getElem_mem hlt
theorem ne_same {a b : Int} {t u : Tok} {Q : Value → Shared → Prop} (e : a = b) (h : Q (.bool false) s) : wpAny (model prog w) A (compareOp .NotEq (.int a t) (.int b u)) Q E s := by
  subst e
  exact ne_int (by simpa using h)
end
end Mine
theorem Mine.kw25 : True := by
  w_top off
  k_with "MINE ne" => first | exact Df.ne (by with_reducible assumption) | exact Df.en (by with_reducible assumption)
  k_with "execs cons" => (k_here; with_reducible k_gentoks)
  k_with "execs nil" => (k_here; with_reducible k_gentoks)
  k_with "execs cons" => (k_here; dsimp only)
  k_with "execs nil" => (k_here; dsimp only)
  trivial
theorem Mine.kw26 : True := by
  w_top off
  k_with "MINE deep" => first | (with_unfolding_all exact Nat.le_of_ble_eq_true rfl) | ktr_room | ktr_units
  k_with "call ref" => (k_here; (with_reducible show wpAny _ _ (call (Value.ref 206) [Value.ref _, Value.ref _]) _ _ _); k_dflt (refine' isSo_spec ?q9B ?q9F ?q9X ?q9T ?q9hk ?q9N ?q9m1 ?q9m2 ?q9m3 ?q9m4 ?q9m5 ?q9m6 ?q9hd ?q9hu ?q9lo ?q9ho ?q9hw ?q9hT ?q9hb ?q9hb2 ?q9hn ?q9l0 ?q9l1 ?q9hs ?_; (case q9B => k_asm); (case q9F => k_asm); (case q9X => k_asm); (case q9T => k_asm); (case q9hk => first | exact rfl | assumption); (case q9N => k_asm); (case q9m1 => k_mem); (case q9m2 => k_mem); (case q9m3 => k_extra "MINE mm"); (case q9m4 => k_mem); (case q9m5 => k_mem); (case q9hw => with_reducible assumption); (case q9m6 => k_mem); (case q9hd => k_extra "MINE deep"); (case q9hu => k_extra "MINE deep"); (case q9lo => with_reducible assumption); (case q9ho => with_reducible assumption); (case q9hT => exact TabsOk.mono (by with_reducible assumption) (by k_extra "MINE sub2")); (case q9hb => with_reducible assumption); (case q9hb2 => with_reducible assumption); (case q9hn => with_reducible assumption); (case q9l0 => omega); (case q9l1 => omega); (case q9hs => k_extra "MINE same")); intro h' tk' F' N')
  k_with "MINE same" => first | exact SameSh.none | exact ShIs.same (by with_reducible assumption) (by with_reducible assumption)
  k_with "call ref" => (k_here; (with_reducible show wpAny _ _ (call (Value.ref 136) [Value.ref _, Value.int _ _, Value.bool _]) _ _ _); k_dflt (refine' mapped_spec ?q9B ?q9F ?q9X ?q9T ?q9hk ?q9N ?q9U ?q9m1 ?q9m3 ?q9m4 ?q9h1 ?q9h2 ?q9h3 ?q9s1 ?q9s2 ?q9hd ?q9hu ?q9lo ?q9ho ?q9hT ?q9hb ?q9hn ?q9l0 ?q9l1 ?q9r0 ?q9r1 ?q9hs ?_; (case q9B => k_asm); (case q9F => k_asm); (case q9X => k_asm); (case q9T => k_asm); (case q9hk => first | exact rfl | assumption); (case q9N => k_asm); (case q9m1 => k_mem); (case q9U => k_updF); (case q9hT => with_reducible assumption); (case q9m3 => k_extra "MINE mm"); (case q9m4 => k_mem); (case q9h1 => k_ne); (case q9h2 => k_ne); (case q9h3 => k_ne); (case q9s1 => k_extra "MINE sub2"); (case q9s2 => k_all); (case q9hd => k_extra "MINE deep"); (case q9hu => k_extra "MINE deep"); (case q9lo => with_reducible assumption); (case q9ho => with_reducible assumption); (case q9hb => with_reducible assumption); (case q9hn => with_reducible assumption); (case q9l0 => omega); (case q9l1 => omega); (case q9r0 => omega); (case q9r1 => omega); (case q9hs => first | with_reducible assumption | exact ShIs.none)); intro v' t' h' tk' hv' F' N'; (try dsimp only at N'))
  k_with "call ref" => (k_here; (with_reducible show wpAny _ _ (call (Value.ref 192) [Value.ref _, Value.ref _, Value.int _ _, Value.bool _]) _ _ _); k_dflt (refine' lawMapped_specU ?q9B ?q9F ?q9X ?q9T ?q9hk ?q9N ?q9U ?q9m4 ?q9h1 ?q9s1 ?q9s2 ?q9hd ?q9hu ?q9ho ?q9hb ?q9hn ?q9l0 ?q9l1 ?q9r0 ?q9r1 ?q9hs ?q9hrow ?q9hR ?q9hc ?_; (case q9B => k_asm); (case q9F => k_asm); (case q9X => k_asm); (case q9T => k_asm); (case q9hk => first | exact rfl | assumption); (case q9N => k_asm); (case q9U => k_updF); (case q9ho => with_reducible assumption); (case q9hR => with_reducible assumption); (case q9m4 => k_mem); (case q9h1 => k_ne); (case q9s1 => k_extra "MINE sub2"); (case q9s2 => k_all); (case q9hd => k_extra "MINE deep"); (case q9hu => k_extra "MINE deep"); (case q9hb => with_reducible assumption); (case q9hn => with_reducible assumption); (case q9l0 => omega); (case q9l1 => omega); (case q9r0 => omega); (case q9r1 => omega); (case q9hs => with_reducible assumption); (case q9hrow => with_reducible assumption); (case q9hc => with_reducible assumption)); intro v' t' o' h' tk' hv' hd' F' N'; (try dsimp only at N'))
  k_with "subscriptTail" => (k_here; (with_reducible show wpAny _ _ (subscriptTail (Expr.List _ _) _ (Value.ref _) (Value.int _ _)) _ _ _); k_dflt (refine' codes_item ?q9N ?q9m ?q9i ?q9h0 ?q9h1 ?_ ?q9hs; (case q9N => k_asm); (case q9m => k_mem); (case q9i => k_extra "MINE codes"); (case q9h0 => omega); (case q9h1 => omega); (case q9hs => with_unfolding_all rfl)); intro _ _ hc')
  k_with "MINE codes" => first | assumption | (with_unfolding_all (show IntsAre _ (_ :: _)); (repeat (first | exact IntsAre.nil | apply IntsAre.cons)))
  k_with "compareOp NotEq int int" => (k_here; (with_reducible show wpAny _ _ (compareOp CmpOp.NotEq (Value.int _ _) (Value.int _ _)) _ _ _); (with_reducible rename _ = mappedV _ _ _ _ _ _ => e1); (with_reducible rename _ = lawV _ _ _ _ _ _ => e2); k_dflt (refine' ne_same ?q9e ?_; (case q9e => rw [e1, e2]; exact law_same (by with_reducible assumption) (by omega) (by omega) (by omega) (by omega) (ShIs.ok (by with_reducible assumption)) (by with_reducible assumption))))
  trivial
namespace Mine
noncomputable def forBody : List Stmt → List Stmt
  | _ :: _ :: .For _ _ b _ _ :: _ => b
  | _ => []
noncomputable def restOf : List Stmt → List Stmt
  | _ :: _ :: b => b
  | _ => []
noncomputable def wayOf : List Stmt → Stmt
  | _ :: b :: _ => b
  | _ => .Pass ⟨0, 0, 0, 0⟩
noncomputable def turnB (w : World) : List Stmt := forBody (fdBody ((hd.heap_39 w.params).lookup 213))
noncomputable def restB (w : World) : List Stmt := restOf (turnB w)
noncomputable def wayB (w : World) : Stmt := wayOf (turnB w)
noncomputable def lawScope (w : World) : Scope := fdScope ((hd.heap_39 w.params).lookup 213)
noncomputable def words20 : List (Array UInt8) := [#[48], #[66], #[65], #[37, 53], #[60], #[45, 65], #[75], #[82], #[102], #[89], #[90], #[72], #[55], #[67], #[53], #[61], #[81], #[57], #[63], #[37, 57]]
inductive LawSt (w : World) (deck cells ow od md rows wl : Nat) (IM : List (Addr × Obj)) (kmax : Int) (m' : Str → Option Value) (l : List (Addr × Obj)) : Prop
  | mk (k : Int) (tk : Tok) (nd on wd wn n n' : Nat) (vs vs' : List Value) (ns : List (Array UInt8)) (lf rg : Int) (tl tr tl' tr' : Tok) (sv sv' : Value) (sh : Option Int) (k1 k2 k3 k4 k5 : Tok) (wo : Obj)
    (e : l = ((deck, listOf #[.ref cells, .int k tk] nd) :: (ow, instObj 146 od) :: (od, ownD w md on lf tl rg tr (sv) k1 k2 k3 k4 k5) :: (on, listOf vs.toArray n) :: (wd, wo) :: (wn, listOf vs'.toArray n') :: IM)) (hk : 0 ≤ k ∧ k ≤ kmax)
    (nms : m' (Str.ofString "words") = some (.ref wl) ∧ m' (Str.ofString "w") = some (.ref wd) ∧ m' (Str.ofString "own") = some (.ref ow) ∧ m' (Str.ofString "rows") = some (.ref rows) ∧ m' (Str.ofString "deck") = some (.ref deck))
    (hw : wo.IsDictOf (PySem.strKind PG w) [(PySem.Str.ofString "names", .ref wn), (PySem.Str.ofString "left", .int lf tl'), (PySem.Str.ofString "right", .int rg tr'), (PySem.Str.ofString "shift", sv')]) (hb : BytesAre vs ns) (hb' : BytesAre vs' ns) (hn : NamesOk ns) (rng : 0 ≤ lf ∧ lf < 4 ∧ 0 ≤ rg ∧ rg < 4) (hsh : ShIs sv sh) (hsh' : ShIs sv' sh)
    (dd : Df deck on ∧ Df deck wd ∧ Df deck wn ∧ Df ow on ∧ Df ow wd ∧ Df ow wn ∧ Df od on ∧ Df od wd ∧ Df od wn ∧ Df on wd ∧ Df on wn ∧ Df wd wn)
    (o4 : ∀ p ∈ IM, p.1 ≠ on) (o5 : ∀ p ∈ IM, p.1 ≠ wd) (o6 : ∀ p ∈ IM, p.1 ≠ wn) : LawSt w deck cells ow od md rows wl IM kmax m' l
theorem LawSt.le {w : World} {deck cells ow od md rows wl : Nat} {IM : List (Addr × Obj)} {a b : Int} {m' : Str → Option Value} {l : List (Addr × Obj)} (h : LawSt w deck cells ow od md rows wl IM a m' l) (hab : a ≤ b) : LawSt w deck cells ow od md rows wl IM b m' l := by
  cases h with
  | mk k tk nd on wd wn n n' vs vs' ns lf rg tl tr tl' tr' sv sv' sh k1 k2 k3 k4 k5 wo e hk nms hw hb hb' hn rng hsh hsh' dd o4 o5 o6 => exact .mk k tk nd on wd wn n n' vs vs' ns lf rg tl tr tl' tr' sv sv' sh k1 k2 k3 k4 k5 wo e ⟨hk.1, Int.le_trans hk.2 hab⟩ nms hw hb hb' hn rng hsh hsh' dd o4 o5 o6
noncomputable def StPost (w : World) (h₀ : Heap) (L : Addr) (deck cells ow od md rows wl : Nat) (IM : List (Addr × Obj)) (kmax : Int) (s : Shared) (f : Flow) (s₂ : Shared) : Prop :=
  f = .next ∧ ∃ h' tk m' l, s₂ = { s with heap := h', toks := tk } ∧ Fr h₀ L h' m' ∧ News h₀ L h' l ∧ LawSt w deck cells ow od md rows wl IM kmax m' l
theorem StPost.back {w : World} {h₀ h₁ : Heap} {L : Addr} {deck cells ow od md rows wl : Nat} {IM : List (Addr × Obj)} {a : Int} {s : Shared} {t₁ : Nat} {f : Flow} {s₂ : Shared} (h : StPost w h₀ L deck cells ow od md rows wl IM a { s with heap := h₁, toks := t₁ } f s₂) : StPost w h₀ L deck cells ow od md rows wl IM a s f s₂ := by
  obtain ⟨rfl, h', tk, m', l, e, r⟩ := h
  exact ⟨rfl, h', tk, m', l, e, r⟩
theorem StPost.intro {w : World} {h₀ h' : Heap} {L : Addr} {kmax : Int} {s : Shared} {m' : Str → Option Value} {tk₂ : Nat} {ldg : List (Addr × Obj)} {IM : List (Addr × Obj)} {deck cells ow od md on wd wn wl rows nd n n' : Nat} {wo : Obj} {vs vs' : List Value} {ns : List (Array UInt8)} {k lf rg : Int} {tk tl tr tl' tr' : Tok} {sv sv' : Value} {sh : Option Int} {k1 k2 k3 k4 k5 : Tok}
    (F : Fr h₀ L h' m') (N : News h₀ L h' ldg)
    (n1 : m' (Str.ofString "words") = some (.ref wl)) (n2 : m' (Str.ofString "w") = some (.ref wd)) (n3 : m' (Str.ofString "own") = some (.ref ow)) (n4 : m' (Str.ofString "rows") = some (.ref rows)) (n5 : m' (Str.ofString "deck") = some (.ref deck))
    (m1 : (deck, listOf #[.ref cells, .int k tk] nd) ∈ ldg) (m2 : (ow, instObj 146 od) ∈ ldg) (m3 : (od, ownD w md on lf tl rg tr (sv) k1 k2 k3 k4 k5) ∈ ldg) (m4 : (on, listOf vs.toArray n) ∈ ldg) (m5 : (wd, wo) ∈ ldg)
    (hw : wo.IsDictOf (PySem.strKind PG w) [(PySem.Str.ofString "names", .ref wn), (PySem.Str.ofString "left", .int lf tl'), (PySem.Str.ofString "right", .int rg tr'), (PySem.Str.ofString "shift", sv')]) (m6 : (wn, listOf vs'.toArray n') ∈ ldg) (hs : ∀ p ∈ IM, p ∈ ldg)
    (hb : BytesAre vs ns) (hb' : BytesAre vs' ns) (hk : 0 ≤ k ∧ k ≤ kmax) (hn : NamesOk ns) (hl : 0 ≤ lf ∧ lf < 4 ∧ 0 ≤ rg ∧ rg < 4) (hsh : ShIs sv sh) (hsh' : ShIs sv' sh)
    (d3 : Df deck on) (d4 : Df deck wd) (d5 : Df deck wn) (d7 : Df ow on) (d8 : Df ow wd) (d9 : Df ow wn) (d10 : Df od on) (d11 : Df od wd) (d12 : Df od wn) (d13 : Df on wd) (d14 : Df on wn) (d15 : Df wd wn)
    (o4 : ∀ p ∈ IM, p.1 ≠ on) (o5 : ∀ p ∈ IM, p.1 ≠ wd) (o6 : ∀ p ∈ IM, p.1 ≠ wn) :
    StPost w h₀ L deck cells ow od md rows wl IM kmax s .next { s with heap := h', toks := tk₂ } :=
  ⟨rfl, h', tk₂, m', _, rfl, F, cb_drop N (List.forall_mem_cons.mpr ⟨m1, List.forall_mem_cons.mpr ⟨m2, List.forall_mem_cons.mpr ⟨m3, List.forall_mem_cons.mpr ⟨m4, List.forall_mem_cons.mpr ⟨m5, List.forall_mem_cons.mpr ⟨m6, hs⟩⟩⟩⟩⟩⟩),
    k, tk, nd, on, wd, wn, n, n', vs, vs', ns, lf, rg, tl, tr, tl', tr', sv, sv', sh, k1, k2, k3, k4, k5, wo, rfl, hk, ⟨n1, n2, n3, n4, n5⟩, hw, hb, hb', hn, hl, hsh, hsh', ⟨d3, d4, d5, d7, d8, d9, d10, d11, d12, d13, d14, d15⟩, o4, o5, o6⟩
end Mine
theorem Mine.kw27 : True := by
  w_top off
  k_with "MINE df" => first | with_reducible assumption | exact Df.en (by with_reducible assumption) | (show _ ≠ _; omega)
  k_with "MINE off" => first | with_reducible assumption | k_all
  k_with "StPost" => (k_dflt (refine' StPost.intro ?q9F ?q9N ?q9n1 ?q9n2 ?q9n3 ?q9n4 ?q9n5 ?q9m1 ?q9m2 ?q9m3 ?q9m4 ?q9m5 ?q9hw ?q9m6 ?q9hs ?q9hb ?q9hb2 ?q9hk ?q9hn ?q9hl ?q9hsh ?q9hsh2 ?q9d3 ?q9d4 ?q9d5 ?q9d7 ?q9d8 ?q9d9 ?q9d10 ?q9d11 ?q9d12 ?q9d13 ?q9d14 ?q9d15 ?q9o4 ?q9o5 ?q9o6; (case q9F => k_asm); (case q9N => k_asm); (case q9n1 => exact rfl); (case q9n2 => exact rfl); (case q9n3 => exact rfl); (case q9n4 => exact rfl); (case q9n5 => exact rfl); (case q9m1 => k_mem); (case q9m2 => k_mem); (case q9m3 => k_mem); (case q9m4 => k_mem); (case q9m5 => k_mem); (case q9hw => with_reducible assumption); (case q9m6 => k_mem); (case q9hs => k_extra "MINE sub2"); (case q9hb => k_extra "MINE bytes"); (case q9hb2 => k_extra "MINE bytes"); (case q9hn => k_extra "MINE names"); (case q9hsh => k_extra "MINE sh"); (case q9hsh2 => k_extra "MINE sh"); (case q9hk => omega); (case q9hl => omega); (case q9d3 => k_extra "MINE df"); (case q9d4 => k_extra "MINE df"); (case q9d5 => k_extra "MINE df"); (case q9d7 => k_extra "MINE df"); (case q9d8 => k_extra "MINE df"); (case q9d9 => k_extra "MINE df"); (case q9d10 => k_extra "MINE df"); (case q9d11 => k_extra "MINE df"); (case q9d12 => k_extra "MINE df"); (case q9d13 => k_extra "MINE df"); (case q9d14 => k_extra "MINE df"); (case q9d15 => k_extra "MINE df"); (case q9o4 => k_extra "MINE off"); (case q9o5 => k_extra "MINE off"); (case q9o6 => k_extra "MINE off")))
  k_with "MINE bytes" => first | with_reducible assumption | (repeat (first | exact BytesAre.nil | apply BytesAre.cons))
  k_with "MINE names" => first | with_reducible assumption | exact ⟨rfl, by decide +kernel⟩
  k_with "MINE sh" => first | with_reducible assumption | exact ShIs.none | exact ShIs.int _ _ (by omega) (by omega)
  trivial
namespace Mine
section
variable {w : World} {mg mb : Str → Option Value} {mean : ExcName → Option Value} {base h₀ : Heap} {L fa : Addr} {cd : Value} {u : Str → Option Value} {s : Shared} {E : Value → Shared → Prop}
theorem check_spec {IM : List (Addr × Obj)} {deck cells ow od md on wd wn wl rows nd nr nl nc n n' : Nat} {mo wo : Obj} {kvs : List (Array UInt8 × Value)} {cv rs wv vs vs' : List Value} {xs : List Int} {ns : List (Array UInt8)} {k lf rg : Int} {tk tl tr tl' tr' : Tok} {sv sv' : Value} {sh : Option Int} {k1 k2 k3 k4 k5 : Tok} (B : Below callerA base [] h₀) (X : (hd.heap_39 w.params).In h₀) (T : Top hd.view_39 (looseW hd.view_39 [Str.ofString "CHARSET_NAMES"]) mean mg mb h₀)
  (N : News h₀ L s.heap ((deck, listOf #[.ref cells, .int k tk] nd) :: (ow, instObj 146 od) :: (od, ownD w md on lf tl rg tr (sv) k1 k2 k3 k4 k5) :: (on, listOf vs.toArray n) :: (wd, wo) :: (wn, listOf vs'.toArray n') :: IM))
  (hcell : (cells, listOf cv.toArray nc) ∈ IM) (hi : IntsAre cv xs) (hlen : xs.length ≤ 48) (hk0 : 0 ≤ k) (hk1 : k < 100)
  (hmd : (md, mo) ∈ IM) (lo : (md == sysModules) = false) (ho : mo.IsDictOf (bkind PG w) kvs) (hT : TabsOk PG w names22 kvs IM)
  (hrow : (rows, listOf rs.toArray nr) ∈ IM) (hR : RowsAre IM rs rowsL) (hwl : (wl, listOf wv.toArray nl) ∈ IM) (hwv : BytesAre wv words20)
  (hw : wo.IsDictOf (PySem.strKind PG w) [(PySem.Str.ofString "names", .ref wn), (PySem.Str.ofString "left", .int lf tl'), (PySem.Str.ofString "right", .int rg tr'), (PySem.Str.ofString "shift", sv')]) (hb : BytesAre vs ns) (hb' : BytesAre vs' ns) (hn : NamesOk ns) (hl0 : 0 ≤ lf) (hl1 : lf < 4) (hr0 : 0 ≤ rg) (hr1 : rg < 4) (hsh : ShIs sv sh) (hsh' : ShIs sv' sh)
  (d1 : Df deck ow) (d2 : Df deck od) (d3 : Df deck on) (d4 : Df deck wd) (d5 : Df deck wn) (d6 : Df ow od) (d7 : Df ow on) (d8 : Df ow wd) (d9 : Df ow wn) (d10 : Df od on) (d11 : Df od wd) (d12 : Df od wn) (d13 : Df on wd) (d14 : Df on wn) (d15 : Df wd wn) (d16 : Df cells deck) (d17 : Df md od)
  (o1 : ∀ p ∈ IM, p.1 ≠ deck) (o2 : ∀ p ∈ IM, p.1 ≠ ow) (o3 : ∀ p ∈ IM, p.1 ≠ od) (o4 : ∀ p ∈ IM, p.1 ≠ on) (o5 : ∀ p ∈ IM, p.1 ≠ wd) (o6 : ∀ p ∈ IM, p.1 ≠ wn)
  (F : Fr h₀ L s.heap (fun y => if y = Str.ofString "words" then some (.ref wl) else if y = Str.ofString "w" then some (.ref wd) else if y = Str.ofString "own" then some (.ref ow) else if y = Str.ofString "rows" then some (.ref rows) else if y = Str.ofString "deck" then some (.ref deck) else u y)) :
  wpAny (model PG w) (callerA.deeper (envOf (Str.ofString "law") (lawScope w) L fa cd)) (execs (restB w) (envOf (Str.ofString "law") (lawScope w) L fa cd)) (StPost w h₀ L deck cells ow od md rows wl IM (k + 2) s) E s := by
  conv in (occs := *) lawScope w => all_goals whnf
  with_unfolding_all show wpAny _ _ (execs [_, _, _] _) _ _ _
  k_steps
end
end Mine
namespace Mine
section
variable {w : World} {mg mb : Str → Option Value} {mean : ExcName → Option Value} {dp un : Nat} {gd : Option (List Code)} {cn : Str} {cs : Scope} {a : Addr} {ccd : Value} {cl : List (Str × Addr)} {outer : List Env} {A₀ : Around} {base h₀ : Heap} {L : Addr} {m : Str → Option Value} {s : Shared} {Q E : Value → Shared → Prop}
theorem mateN_spec {news : List (Addr × Obj)} {ow od md on n : Nat} {mo : Obj} {kvs : List (Array UInt8 × Value)} {vs : List Value} {ns : List (Array UInt8)} {lf rg : Int} {tl tr : Tok} {k1 k2 k3 k4 k5 : Tok} {tc : Tok} (B : Below A₀ base outer h₀) (F : Fr h₀ L s.heap m) (X : (hd.heap_39 w.params).In h₀) (T : Top hd.view_39 (looseW hd.view_39 [Str.ofString "CHARSET_NAMES"]) mean mg mb h₀) (hk : cs.kind = .function)
  (N : News h₀ L s.heap ((od, ownD w md on lf tl rg tr (.none) k1 k2 k3 k4 k5) :: (ow, instObj 146 od) :: (md, mo) :: (on, listOf vs.toArray n) :: news)) (h1 : ow ≠ od) (h2 : md ≠ od) (h3 : on ≠ od) (h4 : ∀ p ∈ news, p.1 ≠ od)
  (hd : dp + 2 < recursionLimit) (hu : un + 40 < cLine) (lo : (md == sysModules) = false) (ho : mo.IsDictOf (bkind PG w) kvs) (hT : TabsOk PG w names22 kvs news) (hb : BytesAre vs ns) (hn : NamesOk ns)
  (hl0 : 0 ≤ lf) (hl1 : lf < 4)
  (hret : ∀ v t h' tk, Fr h₀ L h' m → News h₀ L h' ((od, ownD w md on lf tl rg tr (.none) k1 k2 k3 k4 k5) :: (ow, instObj 146 od) :: (md, mo) :: (on, listOf vs.toArray n) :: news) → Q (.int v t) { s with heap := h', toks := tk }) :
  wpAny (model PG w) (ktrTop dp un gd cn cs L a ccd cl outer) (call (.ref 136) [.ref ow, .int 65 tc]) Q E s := by
  refine wpAny_call ?_
  k_dflt (k_extra "MINE enter")
  k_steps
  all_goals exact hret _ _ _ _ (by assumption) (cb_drop (by assumption) (by k_extra "MINE sub"))
theorem mateI_spec {news : List (Addr × Obj)} {ow od md on n : Nat} {mo : Obj} {kvs : List (Array UInt8 × Value)} {vs : List Value} {ns : List (Array UInt8)} {lf rg sh : Int} {tl tr tsh : Tok} {k1 k2 k3 k4 k5 : Tok} {tc : Tok} (B : Below A₀ base outer h₀) (F : Fr h₀ L s.heap m) (X : (hd.heap_39 w.params).In h₀) (T : Top hd.view_39 (looseW hd.view_39 [Str.ofString "CHARSET_NAMES"]) mean mg mb h₀) (hk : cs.kind = .function)
  (N : News h₀ L s.heap ((od, ownD w md on lf tl rg tr (.int sh tsh) k1 k2 k3 k4 k5) :: (ow, instObj 146 od) :: (md, mo) :: (on, listOf vs.toArray n) :: news)) (h1 : ow ≠ od) (h2 : md ≠ od) (h3 : on ≠ od) (h4 : ∀ p ∈ news, p.1 ≠ od)
  (hd : dp + 2 < recursionLimit) (hu : un + 40 < cLine) (lo : (md == sysModules) = false) (ho : mo.IsDictOf (bkind PG w) kvs) (hT : TabsOk PG w names22 kvs news) (hb : BytesAre vs ns) (hn : NamesOk ns)
  (hs0 : 0 ≤ sh) (hs1 : sh < 4)
  (hret : ∀ v t h' tk, Fr h₀ L h' m → News h₀ L h' ((od, ownD w md on lf tl rg tr (.none) k1 k2 k3 k4 k5) :: (ow, instObj 146 od) :: (md, mo) :: (on, listOf vs.toArray n) :: news) → Q (.int v t) { s with heap := h', toks := tk }) :
  wpAny (model PG w) (ktrTop dp un gd cn cs L a ccd cl outer) (call (.ref 136) [.ref ow, .int 65 tc]) Q E s := by
  refine wpAny_call ?_
  k_dflt (k_extra "MINE enter")
  k_steps
  all_goals exact hret _ _ _ _ (by assumption) (cb_drop (by assumption) (by k_extra "MINE sub"))
theorem mate_spec {ldg IM : List (Addr × Obj)} {g : Obj → List (Addr × Obj)} {ow od md on n : Nat} {mo : Obj} {kvs : List (Array UInt8 × Value)} {vs : List Value} {ns : List (Array UInt8)} {lf rg : Int} {tl tr : Tok} {k1 k2 k3 k4 k5 : Tok} {sv : Value} {sh : Option Int} {tc : Tok} (B : Below A₀ base outer h₀) (F : Fr h₀ L s.heap m) (X : (hd.heap_39 w.params).In h₀) (T : Top hd.view_39 (looseW hd.view_39 [Str.ofString "CHARSET_NAMES"]) mean mg mb h₀) (hk : cs.kind = .function)
  (N : News h₀ L s.heap ldg) (U : UpdF od (ownD w md on lf tl rg tr (sv) k1 k2 k3 k4 k5) ldg g) (m1 : (ow, instObj 146 od) ∈ ldg) (m3 : (md, mo) ∈ IM) (m4 : (on, listOf vs.toArray n) ∈ ldg) (h1 : ow ≠ od) (h3 : on ≠ od) (hs1 : ∀ p ∈ IM, p ∈ ldg) (hs2 : ∀ p ∈ IM, p.1 ≠ od)
  (hd : dp + 2 < recursionLimit) (hu : un + 40 < cLine) (lo : (md == sysModules) = false) (ho : mo.IsDictOf (bkind PG w) kvs) (hT : TabsOk PG w names22 kvs IM) (hb : BytesAre vs ns) (hn : NamesOk ns)
  (hl0 : 0 ≤ lf) (hl1 : lf < 4) (hsh : ShIs sv sh)
  (hret : ∀ v t h' tk, Fr h₀ L h' m → News h₀ L h' (g (ownD w md on lf tl rg tr (.none) k1 k2 k3 k4 k5)) → Q (.int v t) { s with heap := h', toks := tk }) :
  wpAny (model PG w) (ktrTop dp un gd cn cs L a ccd cl outer) (call (.ref 136) [.ref ow, .int 65 tc]) Q E s := by
  have h2 : md ≠ od := hs2 _ m3
  obtain ⟨pre, post, rfl, hg, hp1, hp2⟩ := U.split
  have mem : ∀ (x : Addr) (o : Obj), (x, o) ∈ pre ++ (od, ownD w md on lf tl rg tr (sv) k1 k2 k3 k4 k5) :: post → x ≠ od → (x, o) ∈ pre ++ post := fun x o hm hx => by
    rcases List.mem_append.mp hm with hm | hm
    · exact List.mem_append.mpr (.inl hm)
    · rcases List.mem_cons.mp hm with e | hm
      · exact absurd (congrArg Prod.fst e) hx
      · exact List.mem_append.mpr (.inr hm)
  have hoff : ∀ p ∈ pre ++ post, p.1 ≠ od := fun p hp => (List.mem_append.mp hp).elim (hp1 p) (hp2 p)
  have hT' : TabsOk PG w names22 kvs (pre ++ post) := hT.mono fun p hp => mem p.1 p.2 (hs1 p hp) (hs2 p hp)
  have mid : ∀ p ∈ pre ++ post, p ∈ pre ++ (od, ownD w md on lf tl rg tr (sv) k1 k2 k3 k4 k5) :: post := fun p hp => by
    rcases List.mem_append.mp hp with hp | hp
    · exact List.mem_append.mpr (.inl hp)
    · exact List.mem_append.mpr (.inr (.tail _ hp))
  have N2 : News h₀ L s.heap ((od, ownD w md on lf tl rg tr (sv) k1 k2 k3 k4 k5) :: (ow, instObj 146 od) :: (md, mo) :: (on, listOf vs.toArray n) :: (pre ++ post)) :=
    cb_drop N (List.forall_mem_cons.mpr ⟨List.mem_append.mpr (.inr (.head _)), List.forall_mem_cons.mpr ⟨m1, List.forall_mem_cons.mpr ⟨hs1 _ m3, List.forall_mem_cons.mpr ⟨m4, mid⟩⟩⟩⟩)
  have fin : ∀ h', News h₀ L h' ((od, ownD w md on lf tl rg tr (.none) k1 k2 k3 k4 k5) :: (ow, instObj 146 od) :: (md, mo) :: (on, listOf vs.toArray n) :: (pre ++ post)) → News h₀ L h' (g (ownD w md on lf tl rg tr (.none) k1 k2 k3 k4 k5)) := fun h' N' => by
    rw [hg]
    intro p hp
    rcases List.mem_append.mp hp with hp | hp
    · exact N' p (.tail _ (.tail _ (.tail _ (.tail _ (List.mem_append.mpr (.inl hp))))))
    · rcases List.mem_cons.mp hp with rfl | hp
      · exact N' _ (.head _)
      · exact N' p (.tail _ (.tail _ (.tail _ (.tail _ (List.mem_append.mpr (.inr hp))))))
  cases hsh with
  | none => exact mateN_spec B F X T hk N2 h1 h2 h3 hoff hd hu lo ho hT' hb hn hl0 hl1 fun v t h' tk F' N' => hret v t h' tk F' (fin h' N')
  | int i t s0 s1 => exact mateI_spec B F X T hk N2 h1 h2 h3 hoff hd hu lo ho hT' hb hn s0 s1 fun v t h' tk F' N' => hret v t h' tk F' (fin h' N')
end
end Mine
theorem Mine.kw28 : True := by
  w_top off
  k_with "call ref" => (k_here; (with_reducible show wpAny _ _ (call (Value.ref 146) [Value.ref _]) _ _ _); k_dflt (refine' call_cls ?q9k1 ?q9k2 ?q9k3 ?q9k4 ?q9k5 ?q9k6 ?_; (case q9k1 => k_asm); (case q9k2 => k_asm); (case q9k3 => k_asm); (case q9k4 => k_is); (case q9k5 => k_is); (case q9k6 => k_is); k_whole; intro x' d' h' F' N' l1 l2; (try k_lt l1); (try k_lt2 l2); (try k_sweep); k_extra "MINE enter"))
  k_with "call ref" => (k_here; (with_reducible show wpAny _ _ (call (Value.ref 86) _) _ _ _); k_dflt (refine wpAny_call ?_; k_extra "MINE enter"))
  trivial
namespace Mine
section
variable {w : World} {mg mb : Str → Option Value} {mean : ExcName → Option Value} {dp un : Nat} {gd : Option (List Code)} {cn : Str} {cs : Scope} {a : Addr} {ccd : Value} {cl : List (Str × Addr)} {outer : List Env} {A₀ : Around} {base h₀ : Heap} {L : Addr} {m : Str → Option Value} {s : Shared} {Q E : Value → Shared → Prop}
theorem init_spec {news : List (Addr × Obj)} {md : Nat} (B : Below A₀ base outer h₀) (F : Fr h₀ L s.heap m) (X : (hd.heap_39 w.params).In h₀) (T : Top hd.view_39 (looseW hd.view_39 [Str.ofString "CHARSET_NAMES"]) mean mg mb h₀) (hk : cs.kind = .function)
  (N : News h₀ L s.heap news) (hd : dp + 3 < recursionLimit) (hu : un + 40 < cLine)
  (hret : ∀ (x d D c : Nat) (e1 e2 e3 e4 e5 tl' tr' : Tok) vs h' tk, (∀ p ∈ news, p.1 < d) → (∀ p ∈ news, p.1 < x) → (∀ p ∈ news, p.1 < D) → d < x → x < D → BytesAre vs [#[66], #[66], #[37, 53], #[37, 53]] → Fr h₀ L h' m →
    News h₀ L h' ((D, listOf vs.toArray c) :: (x, instObj 146 d) :: (d, ownD w md D 0 tl' 2 tr' (.none) e1 e2 e3 e4 e5) :: news) → Q (.ref x) { s with heap := h', toks := tk }) :
  wpAny (model PG w) (ktrTop dp un gd cn cs L a ccd cl outer) (call (.ref 146) [.ref md]) Q E s := by
  k_steps
  refine' hret _ _ _ _ _ _ _ _ _ _ _ _ _ _ ?l ?l2 ?l3 ?lx ?lD ?fb ?F ?N
  case F => assumption
  case N => exact cb_drop (by assumption) (by k_extra "MINE sub")
  case fb => repeat (first | exact BytesAre.nil | apply BytesAre.cons)
  case l => assumption
  case l2 => exact fun p hp => Nat.lt_trans ((by assumption : ∀ p ∈ news, p.1 < _) p hp) (by assumption)
  case l3 => exact ktn_ltOf (by k_extra "MINE lt")
  case lx => omega
  case lD => omega
end
end Mine
theorem Mine.kw29 : True := by
  w_top off
  k_with "call ref" => (k_here; (with_reducible show wpAny _ _ (call (Value.ref 146) [Value.ref _]) _ _ _); k_dflt (refine' init_spec ?q9B ?q9F ?q9X ?q9T ?q9hk ?q9N ?q9hd ?q9hu ?_; (case q9B => k_asm); (case q9F => k_asm); (case q9X => k_asm); (case q9T => k_asm); (case q9hk => first | exact rfl | assumption); (case q9N => k_asm); (case q9hd => ktr_room); (case q9hu => ktr_units)); intro x' d' D' c' e1 e2 e3 e4 e5 tl' tr' vs' h' tk' l1 l2 l3 lx lD hb' F' N'; (try k_lt l1); (try k_lt l2); (try k_lt l3))
  trivial
namespace Mine
theorem ShIs.handed {v : Value} {sh : Option Int} (h : ShIs v sh) : handedIn v = true := by cases h <;> rfl
end Mine
local macro_rules | `(tactic| k_handed) => `(tactic| exact Mine.ShIs.handed (by with_reducible assumption))
namespace Mine
section
variable {w : World} {mg mb : Str → Option Value} {mean : ExcName → Option Value} {dp un : Nat} {gd : Option (List Code)} {cn : Str} {cs : Scope} {a : Addr} {ccd : Value} {cl : List (Str × Addr)} {outer : List Env} {A₀ : Around} {base h₀ : Heap} {L : Addr} {m : Str → Option Value} {s : Shared} {Q E : Value → Shared → Prop}
theorem copy_spec {news : List (Addr × Obj)} {ow od md on n : Nat} {vs : List Value} {ns : List (Array UInt8)} {lf rg : Int} {tl tr : Tok} {k1 k2 k3 k4 k5 : Tok} {sv : Value} {sh : Option Int} (B : Below A₀ base outer h₀) (F : Fr h₀ L s.heap m) (X : (hd.heap_39 w.params).In h₀) (T : Top hd.view_39 (looseW hd.view_39 [Str.ofString "CHARSET_NAMES"]) mean mg mb h₀) (hk : cs.kind = .function)
  (N0 : News h₀ L s.heap news) (m1 : (ow, instObj 146 od) ∈ news) (m2 : (od, ownD w md on lf tl rg tr (sv) k1 k2 k3 k4 k5) ∈ news) (m4 : (on, listOf vs.toArray n) ∈ news)
  (hd : dp + 4 < recursionLimit) (hu : un + 60 < cLine) (hb : BytesAre vs ns) (hn : NamesOk ns) (hs : ShIs sv sh)
  (hret : ∀ (x d D c : Nat) (e1 e2 e3 e4 e5 tl' tr' : Tok) h' tk, (∀ p ∈ news, p.1 < d) → (∀ p ∈ news, p.1 < x) → (∀ p ∈ news, p.1 < D) → d < x → x < D → Fr h₀ L h' m → News h₀ L h' ((D, listOf vs.toArray c) :: (x, instObj 146 d) :: (d, ownD w md D lf tl' rg tr' (sv) e1 e2 e3 e4 e5) :: news) → Q (.ref x) { s with heap := h', toks := tk }) :
  wpAny (model PG w) (ktrTop dp un gd cn cs L a ccd cl outer) (call (.ref 93) [.ref ow]) Q E s := by
  have N : News h₀ L s.heap ((ow, instObj 146 od) :: (od, ownD w md on lf tl rg tr (sv) k1 k2 k3 k4 k5) :: (on, listOf vs.toArray n) :: news) := cb_drop N0 (List.forall_mem_cons.mpr ⟨m1, List.forall_mem_cons.mpr ⟨m2, List.forall_mem_cons.mpr ⟨m4, fun _ h => h⟩⟩⟩)
  clear N0 m1 m2 m4
  refine wpAny_call ?_
  k_dflt cell_enter
  k_steps
  refine' hret _ _ _ _ _ _ _ _ _ _ _ _ _ ?l ?l2 ?l3 ?lx ?lD ?F ?N
  case F => assumption
  case N => exact cb_drop (by assumption) (by k_extra "MINE sub")
  case l => exact ktn_ltOf (by k_extra "MINE lt")
  case l2 => exact ktn_ltOf (by k_extra "MINE lt")
  case l3 => exact ktn_ltOf (by k_extra "MINE lt")
  case lx => omega
  case lD => omega
end
end Mine
namespace Mine
open PySem.MeetsSeq PySem.SeqRoads2 PySem.SeqAt
theorem bytes_four {vs : List Value} {ns : List (Array UInt8)} (h : BytesAre vs ns) (hl : ns.length = 4) : ∃ b1 b2 b3 b4 t1 t2 t3 t4, vs = [.bytes b1 t1, .bytes b2 t2, .bytes b3 t3, .bytes b4 t4] ∧ ns = [b1, b2, b3, b4] := by
  cases h with
  | nil => simp at hl
  | cons b1 t1 h =>
  cases h with
  | nil => simp at hl
  | cons b2 t2 h =>
  cases h with
  | nil => simp at hl
  | cons b3 t3 h =>
  cases h with
  | nil => simp at hl
  | cons b4 t4 h =>
  cases h with
  | nil => exact ⟨b1, b2, b3, b4, t1, t2, t3, t4, rfl, rfl⟩
  | cons b5 t5 h => simp at hl
theorem mod2_two (p : Int) : p.fmod 2 = 0 ∨ p.fmod 2 = 1 := by
  have h0 : 0 ≤ p.fmod 2 := Int.fmod_nonneg_of_pos p (by decide)
  have h1 : p.fmod 2 < 2 := Int.fmod_lt_of_pos p (by decide)
  omega
theorem NamesOk.four {a b c d : Array UInt8} (ha : a ∈ words18) (hb : b ∈ words18) (hc : c ∈ words18) (hd : d ∈ words18) : NamesOk [a, b, c, d] :=
  ⟨rfl, by intro x hx; simp only [List.mem_cons, List.not_mem_nil, or_false] at hx; rcases hx with rfl | rfl | rfl | rfl <;> assumption⟩
theorem w20_18 {x : Array UInt8} (h : x ∈ words20) (hq : inB [#[63], #[37, 57]] x = false) : x ∈ words18 := by
  have : ∀ x ∈ words20, inB [#[63], #[37, 57]] x = false → x ∈ words18 := by decide +kernel
  exact this x h hq
section
variable {prog : Program} {w : World} {A : Around} {E : Value → Shared → Prop} {s : Shared} {h₀ : Heap} {L : Addr} {m : Str → Option Value} {news : List (Addr × Obj)}
theorem words_item {value slice : PySem.Expr} {l n : Nat} {vs : List Value} {k : Int} {u : Tok} {Q : Value → Shared → Prop} (N : News h₀ L s.heap news) (hm : (l, listOf vs.toArray n) ∈ news) (hb : BytesAre vs words20) (h0 : 0 ≤ k) (h1 : k < 20)
    (h : ∀ x t, x ∈ words20 → Q (.bytes x t) s)
    (hs : subscripted slice false (.ref l) (.int k u) = operate [.ref l, .int k u] (getItem (.ref l) (.int k u)) := by with_unfolding_all rfl) :
    wpAny (model prog w) A (subscriptTail value slice (.ref l) (.int k u)) Q E s := by
  have hl : s.heap.IsList l vs.toArray := PySem.IsL.isList (n := n) (N _ hm).1
  have hlt : k.toNat < words20.length := by show k.toNat < 20; omega
  obtain ⟨t, ht⟩ := hb.get k.toNat (words20[k.toNat]) (List.getElem?_eq_getElem hlt)
  exact tail_any hl.typeIs slot_list_getitem.lookup (wpAny_getItem_list hl h0 (by omega) (by simpa using ht) (h _ t (List.getElem_mem hlt))) hs
theorem notin_charset {t : Nat} {vs : List Value} {x : Array UInt8} {u : Tok} {Q : Value → Shared → Prop} (F : Fr h₀ L s.heap m) (ht : IsTup h₀ t vs.toArray) (hv : BytesAre vs names22) (hx : x ∈ words20) (h : Q (.bool (inB [#[63], #[37, 57]] x)) s) :
    wpAny (model prog w) A (compareOp .NotIn (.bytes x u) (.ref t)) Q E s := by
  have e : ∀ x ∈ words20, (!inB names22 x) = inB [#[63], #[37, 57]] x := by decide +kernel
  have hl : s.heap.IsTuple t vs.toArray := tup_keep F ht
  refine notIn_tupleAt (eqOf x) hl (fun y hy => (bytes_gives hv y (by simpa using hy)).at _ _) ?_
  rw [List.any_toArray, bytes_any hv, e x hx]
  exact h
theorem notin_charset_lit {t : Nat} {vs : List Value} {x : Array UInt8} {u : Tok} {Q : Value → Shared → Prop} (F : Fr h₀ L s.heap m) (ht : IsTup h₀ t vs.toArray) (hv : BytesAre vs names22) (hx : inB names22 x = true) (h : Q (.bool false) s) :
    wpAny (model prog w) A (compareOp .NotIn (.bytes x u) (.ref t)) Q E s := by
  have hl : s.heap.IsTuple t vs.toArray := tup_keep F ht
  refine notIn_tupleAt (eqOf x) hl (fun y hy => (bytes_gives hv y (by simpa using hy)).at _ _) ?_
  rw [List.any_toArray, bytes_any hv, hx]
  exact h
theorem two_item {value slice : PySem.Expr} {l n : Nat} {a b : Value} {k : Int} {u : Tok} {Q : Value → Shared → Prop} (N : News h₀ L s.heap news) (hm : (l, listOf #[a, b] n) ∈ news) (h0 : 0 ≤ k) (h1 : k < 2)
    (ha : Q a s) (hb : Q b s)
    (hs : subscripted slice false (.ref l) (.int k u) = operate [.ref l, .int k u] (getItem (.ref l) (.int k u)) := by with_unfolding_all rfl) :
    wpAny (model prog w) A (subscriptTail value slice (.ref l) (.int k u)) Q E s := by
  have hl : s.heap.IsList l #[a, b] := PySem.IsL.isList (n := n) (N _ hm).1
  have hk : k = 0 ∨ k = 1 := by omega
  rcases hk with rfl | rfl
  · exact tail_any hl.typeIs slot_list_getitem.lookup (wpAny_getItem_list hl h0 (by omega) rfl ha) hs
  · exact tail_any hl.typeIs slot_list_getitem.lookup (wpAny_getItem_list hl h0 (by omega) rfl hb) hs
theorem mod2_e {p r : Int} {t u : Tok} {Q : Value → Shared → Prop} (e : p.fmod 2 = r) (h : Q (.int r s.toks) { s with toks := s.toks + 1 }) : wpAny (model prog w) A (binaryOp .Mod (.int p t) (.int 2 u)) Q E s := mod_int' (by decide) (e.symm ▸ h)
theorem kdn_w {d : Nat} {o : Obj} {g : Obj → List (Addr × Obj)} {va vb vc vd : Value} {e1 e2 e3 e4 : Tok} {Q : Value → Shared → Prop} (F : Fr h₀ L s.heap m) (N : News h₀ L s.heap news) (U : UpdF d o news g) (hd : o.IsDictOf (PySem.strKind prog w) [])
    (h : ∀ h' o', Fr h₀ L h' m → News h₀ L h' (g o') → o'.IsDictOf (PySem.strKind prog w) [(PySem.Str.ofString "names", va), (PySem.Str.ofString "left", vb), (PySem.Str.ofString "right", vc), (PySem.Str.ofString "shift", vd)] → Q (.ref d) { s with heap := h', toks := s.toks + 4 }) :
    KdnMade prog w (PySem.strKind prog w) d Q [(.str (Str.ofString "names") e1, va), (.str (Str.ofString "left") e2, vb), (.str (Str.ofString "right") e3, vc), (.str (Str.ofString "shift") e4, vd)] s :=
  kdn_made_str F N U hd rfl (show ([Str.ofString "names", Str.ofString "left", Str.ofString "right", Str.ofString "shift"] : List Str).Nodup by decide +kernel) h
theorem notin_T {l n : Nat} {vs : List Value} {bs : List (Array UInt8)} {x : Array UInt8} {u : Tok} {Q : Value → Shared → Prop} (N : News h₀ L s.heap news) (hm : (l, ({ cls := .type "tuple", data := .seq vs.toArray n } : Obj)) ∈ news) (hb : BytesAre vs bs) (hq : inB bs x = true) (h : Q (.bool false) s) : wpAny (model prog w) A (compareOp .NotIn (.bytes x u) (.ref l)) Q E s :=
  notin_tup_bytes (N _ hm).1 hb (by rw [hq]; exact h)
theorem notin_F {l n : Nat} {vs : List Value} {bs : List (Array UInt8)} {x : Array UInt8} {u : Tok} {Q : Value → Shared → Prop} (N : News h₀ L s.heap news) (hm : (l, ({ cls := .type "tuple", data := .seq vs.toArray n } : Obj)) ∈ news) (hb : BytesAre vs bs) (hq : inB bs x = false) (h : Q (.bool true) s) : wpAny (model prog w) A (compareOp .NotIn (.bytes x u) (.ref l)) Q E s :=
  notin_tup_bytes (N _ hm).1 hb (by rw [hq]; exact h)
end
end Mine
theorem Mine.kw30 : True := by
  w_top off
  k_with "subscriptTail" => (k_here; (with_reducible show wpAny _ _ (subscriptTail (Expr.Name _ _) _ (Value.ref _) (Value.int _ _)) _ _ _); k_dflt (refine' words_item ?q9N ?q9m ?q9b ?q9h0 ?q9h1 ?_ ?q9hs; (case q9N => k_asm); (case q9m => (k_extra "MINE asm mem"; done)); (case q9b => with_reducible assumption); (case q9h0 => omega); (case q9h1 => omega); (case q9hs => with_unfolding_all rfl)); intro _ _ hx')
  k_with "subscriptTail" => (k_here; (with_reducible show wpAny _ _ (subscriptTail (Expr.List _ _) _ (Value.ref _) (Value.int _ _)) _ _ _); k_dflt (refine' two_item ?q9N ?q9m ?q9h0 ?q9h1 ?_ ?_ ?q9hs; (case q9N => k_asm); (case q9m => k_mem); (case q9h0 => omega); (case q9h1 => omega); (case q9hs => with_unfolding_all rfl)))
  k_with "compareOp NotIn" => (k_here; (with_reducible show wpAny _ _ (compareOp CmpOp.NotIn (Value.bytes _ _) (Value.ref 15)) _ _ _); k_dflt (refine' notin_charset ?q9F ?q9ht ?q9hv ?q9hx ?_; (case q9F => k_asm); (case q9ht => exact tupK (by k_asm) (by k_is)); (case q9hv => repeat (first | exact BytesAre.nil | apply BytesAre.cons)); (case q9hx => with_reducible assumption)))
  k_with "compareOp NotIn" => (k_here; (with_reducible show wpAny _ _ (compareOp CmpOp.NotIn (Value.bytes (List.toArray _) _) (Value.ref 15)) _ _ _); k_dflt (refine' notin_charset_lit ?q9F ?q9ht ?q9hv ?q9hx ?_; (case q9F => k_asm); (case q9ht => exact tupK (by k_asm) (by k_is)); (case q9hv => repeat (first | exact BytesAre.nil | apply BytesAre.cons)); (case q9hx => decide +kernel)))
  k_with "compareOp NotIn" => (k_here; (with_reducible show wpAny _ _ (compareOp CmpOp.NotIn (Value.bytes _ _) (Value.ref _)) _ _ _); first | (k_dflt (refine' notin_T ?q9N ?q9m ?q9b ?q9q ?_; (case q9N => k_asm); (case q9m => k_mem); (case q9b => first | with_reducible assumption | (repeat (first | exact BytesAre.nil | apply BytesAre.cons))); (case q9q => with_reducible assumption))) | (k_dflt (refine' notin_F ?q9N ?q9m ?q9b ?q9q ?_; (case q9N => k_asm); (case q9m => k_mem); (case q9b => first | with_reducible assumption | (repeat (first | exact BytesAre.nil | apply BytesAre.cons))); (case q9q => with_reducible assumption))))
  k_with "MINE names" => first | with_reducible assumption | exact NamesOk.four (by k_extra "MINE w18") (by k_extra "MINE w18") (by k_extra "MINE w18") (by k_extra "MINE w18")
  k_with "MINE w18" => first | with_reducible assumption | exact w20_18 (by with_reducible assumption) (by with_reducible assumption) | decide +kernel
  k_with "call ref" => (k_here; (with_reducible show wpAny _ _ (call (Value.ref 136) [Value.ref _, Value.int 65 _]) _ _ _); k_dflt (refine' mate_spec ?q9B ?q9F ?q9X ?q9T ?q9hk ?q9N ?q9U ?q9m1 ?q9m3 ?q9m4 ?q9h1 ?q9h3 ?q9s1 ?q9s2 ?q9hd ?q9hu ?q9lo ?q9ho ?q9hT ?q9hb ?q9hn ?q9l0 ?q9l1 ?q9hs ?_; (case q9B => k_asm); (case q9F => k_asm); (case q9X => k_asm); (case q9T => k_asm); (case q9hk => first | exact rfl | assumption); (case q9N => k_asm); (case q9m1 => k_mem); (case q9U => k_updF); (case q9hT => with_reducible assumption); (case q9m3 => with_reducible assumption); (case q9m4 => k_mem); (case q9h1 => k_ne); (case q9h3 => k_ne); (case q9s1 => k_extra "MINE sub2"); (case q9s2 => k_all); (case q9hd => k_extra "MINE deep"); (case q9hu => k_extra "MINE deep"); (case q9lo => with_reducible assumption); (case q9ho => with_reducible assumption); (case q9hb => k_extra "MINE bytes"); (case q9hn => k_extra "MINE names"); (case q9l0 => omega); (case q9l1 => omega); (case q9hs => with_reducible assumption)); intro v' t' h' tk' F' N'; (try dsimp only at N'))
  k_with "binaryOp Mod int int" => (k_here; (with_reducible show wpAny _ _ (binaryOp Operator.Mod (Value.int _ _) (Value.int 2 _)) _ _ _); k_dflt (refine' mod2_e ?q9e ?_; (case q9e => with_reducible assumption)))
  k_with "KdnMade" => (k_here; k_dflt (refine' kdn_w ?q9F ?q9N ?q9U ?q9d ?_; (case q9F => k_asm); (case q9N => k_asm); (case q9U => k_updF); (case q9d => k_asm)); intro h' o' F' N' hd'; (try dsimp only at N'))
  k_with "call ref" => (k_here; (with_reducible show wpAny _ _ (call (Value.ref 93) _) _ _ _); k_dflt (refine' copy_spec ?q9B ?q9F ?q9X ?q9T ?q9hk ?q9N ?q9m1 ?q9m2 ?q9m4 ?q9hd ?q9hu ?q9hb ?q9hn ?q9hs ?_; (case q9B => k_asm); (case q9F => k_asm); (case q9X => k_asm); (case q9T => k_asm); (case q9hk => first | exact rfl | assumption); (case q9N => k_asm); (case q9m1 => k_mem); (case q9m2 => k_mem); (case q9m4 => k_mem); (case q9hd => k_extra "MINE deep"); (case q9hu => k_extra "MINE deep"); (case q9hb => k_extra "MINE bytes"); (case q9hn => k_extra "MINE names"); (case q9hs => with_reducible assumption)); intro x' d' D' c' e1 e2 e3 e4 e5 tl' tr' h' tk' l1 l2 l3 lx lD F' N'; (try k_lt l1); (try k_lt l2); (try k_lt l3))
  k_with "eval Tuple" => (k_here; (with_reducible show wpAny _ _ (eval (Expr.Tuple (Expr.Constant (Const.bytes _) _ _ :: Expr.Constant (Const.bytes _) _ _ :: _) _ _) _) (fun b s₂ => wpAny _ _ (compareOp CmpOp.NotIn (Value.bytes _ _) b) _ _ s₂) _ _); k_dflt (refine' tup_notinQ ?q9F ?q9N ?q9c ?q9n ?q9q ?_; (case q9F => k_asm); (case q9N => k_asm); (case q9c => repeat (first | exact ConstB.nil | apply ConstB.cons)); (case q9n => decide); (case q9q => with_reducible assumption)); intro h' tk' F' N'; dsimp only [Bool.not_true, Bool.not_false])
  trivial
theorem Mine.kw31 : True := by
  w_top off
  k_with "exec If" => (k_here; (with_reducible show wpAny _ _ (exec (Stmt.If (Expr.Compare (Expr.Name _ _) [CmpOp.Lt] [Expr.Constant (Const.int _) _ _] _) _ _ _) _) _ _ _); k_dflt (first | (refine' if_ltF ?q9F ?q9v ?q9e ?q9k ?q9l ?q9d ?q9m ?_; (case q9F => k_asm); (case q9v => exact rfl); (case q9e => omega); (case q9k => exact rfl); (case q9l => exact rfl); (case q9d => decide); (case q9m => with_unfolding_all rfl)) | (refine' if_ltT ?q9F ?q9v ?q9e ?q9k ?q9l ?q9d ?q9m ?_; (case q9F => k_asm); (case q9v => exact rfl); (case q9e => omega); (case q9k => exact rfl); (case q9l => exact rfl); (case q9d => decide); (case q9m => with_unfolding_all rfl))))
  k_with "exec If" => (k_here; (with_reducible show wpAny _ _ (exec (Stmt.If (Expr.Compare (Expr.Name _ _) [CmpOp.Eq] [Expr.Constant (Const.int _) _ _] _) _ _ _) _) _ _ _); k_dflt (first | (refine' if_eqF ?q9F ?q9v ?q9e ?q9k ?q9l ?q9d ?q9m ?_; (case q9F => k_asm); (case q9v => exact rfl); (case q9e => omega); (case q9k => exact rfl); (case q9l => exact rfl); (case q9d => decide); (case q9m => with_unfolding_all rfl)) | (refine' if_eqT ?q9F ?q9v ?q9e ?q9k ?q9l ?q9d ?q9m ?_; (case q9F => k_asm); (case q9v => exact rfl); (case q9e => omega); (case q9k => exact rfl); (case q9l => exact rfl); (case q9d => decide); (case q9m => with_unfolding_all rfl))))
  k_with "exec If" => (k_here; (with_reducible show wpAny _ _ (exec (Stmt.If (Expr.BoolOp BoolOp.And [Expr.Compare (Expr.Name _ _) [CmpOp.Eq] [Expr.Constant (Const.int _) _ _] _, Expr.Compare (Expr.Name _ _) [CmpOp.Eq] [Expr.Constant (Const.int _) _ _] _] _) _ _ _) _) _ _ _); k_dflt (refine' if_andF ?q9F ?q9v ?q9y ?q9e ?q9k ?q9l ?q9l2 ?q9d ?q9d2 ?q9m ?q9m2 ?_; (case q9F => k_asm); (case q9v => exact rfl); (case q9y => exact rfl); (case q9e => omega); (case q9k => exact rfl); (case q9l => exact rfl); (case q9l2 => exact rfl); (case q9d => decide); (case q9d2 => decide); (case q9m => with_unfolding_all rfl); (case q9m2 => with_unfolding_all rfl)); intro tk')
  trivial
theorem Mine.kw32 : True := by
  w_top off
  k_with "setItem ref int" => (k_here; (with_reducible show wpAny _ _ (setItem (Value.ref _) (Value.int _ _) (Value.bytes _ _)) _ _ _); k_dflt (refine' bytes_setK ?q9F ?q9N ?q9U ?q9b ?q9h0 ?q9h1 ?q9hf ?_; (case q9F => k_asm); (case q9N => k_asm); (case q9U => k_updF); (case q9b => with_reducible assumption); (case q9h0 => omega); (case q9h1 => omega); (case q9hf => omega)); intro h' F' N' hb'; (try dsimp only at N'))
  k_with "binaryOp Add ref ref" => (k_here; (with_reducible show wpAny _ _ (binaryOp _ (Value.ref _) (Value.ref _)) _ _ _); k_dflt (refine' lists_addK ?q9F ?q9N ?q9a ?q9b ?_ ?q9z; (case q9F => k_asm); (case q9N => k_asm); (case q9a => k_mem); (case q9b => k_mem); (case q9z => first | exact splice_room1 (by with_reducible assumption) _ _ | exact splice_room2 (by with_reducible assumption) _ _ _ | (simp only [List.length_append, List.length_take, List.length_drop, List.length_cons, List.length_nil]; omega))); intro D' h' F' N' l1; (try k_lt l1))
  k_with "subscriptTail Name Slice ref ref" => (k_here; (with_reducible show wpAny _ _ (subscriptTail _ (PySem.Expr.Slice _ _ none _) (Value.ref _) (Value.ref _)) _ _ _); k_dflt (refine' kmk_slice_lit ?q9F ?q9N ?q9l ?q9p ?q9q ?q9e ?_ ?q9s ?q9t ?q9z; (case q9F => k_asm); (case q9N => k_asm); (case q9l => kmk_list); (case q9p => kmk_part); (case q9q => kmk_part); (case q9e => first | exact pick_upto (by omega) | exact pick_from1 (by omega)); (case q9s => with_unfolding_all rfl); (case q9t => kmk_pure); (case q9z => (rw [List.size_toArray, sizeLine_eq]; omega))); intro D' h' F' N' l1; (try k_lt l1))
  k_with "MINE bytes" => first | with_reducible assumption | exact BytesAre.splice (by with_reducible assumption) _ (by omega)
  k_with "MINE names" => first | with_reducible assumption | exact NamesOk.set (by with_reducible assumption) (by k_extra "MINE w18")
  trivial
namespace Mine
theorem NamesOk.set {ns : List (Array UInt8)} {x : Array UInt8} {j : Nat} (h : NamesOk ns) (hx : x ∈ words18) : NamesOk (ns.set j x) :=
  ⟨by rw [List.length_set]; exact h.len, fun y hy => (List.mem_or_eq_of_mem_set hy).elim (h.mem y) (fun e => e ▸ hx)⟩
section
variable {w : World} {mg mb : Str → Option Value} {mean : ExcName → Option Value} {base h₀ : Heap} {L fa : Addr} {cd : Value} {u : Str → Option Value} {s : Shared} {E : Value → Shared → Prop}
theorem wayA {IM : List (Addr × Obj)} {deck cells ow od md on wd wn wl rows nd nr nl nc n n' : Nat} {mo wo : Obj} {kvs : List (Array UInt8 × Value)} {cv rs wv vs vs' : List Value} {xs : List Int} {ns : List (Array UInt8)} {k lf rg : Int} {tk tl tr tl' tr' : Tok} {sv sv' : Value} {sh : Option Int} {k1 k2 k3 k4 k5 : Tok} (B : Below callerA base [] h₀) (X : (hd.heap_39 w.params).In h₀) (T : Top hd.view_39 (looseW hd.view_39 [Str.ofString "CHARSET_NAMES"]) mean mg mb h₀)
  (N : News h₀ L s.heap ((deck, listOf #[.ref cells, .int k tk] nd) :: (ow, instObj 146 od) :: (od, ownD w md on lf tl rg tr (sv) k1 k2 k3 k4 k5) :: (on, listOf vs.toArray n) :: (wd, wo) :: (wn, listOf vs'.toArray n') :: IM))
  (hcell : (cells, listOf cv.toArray nc) ∈ IM) (hi : IntsAre cv xs) (hlen : xs.length ≤ 48) (hk0 : 0 ≤ k) (hk1 : k < 100)
  (hmd : (md, mo) ∈ IM) (lo : (md == sysModules) = false) (ho : mo.IsDictOf (bkind PG w) kvs) (hT : TabsOk PG w names22 kvs IM)
  (hrow : (rows, listOf rs.toArray nr) ∈ IM) (hR : RowsAre IM rs rowsL) (hwl : (wl, listOf wv.toArray nl) ∈ IM) (hwv : BytesAre wv words20)
  (hw : wo.IsDictOf (PySem.strKind PG w) [(PySem.Str.ofString "names", .ref wn), (PySem.Str.ofString "left", .int lf tl'), (PySem.Str.ofString "right", .int rg tr'), (PySem.Str.ofString "shift", sv')]) (hb : BytesAre vs ns) (hb' : BytesAre vs' ns) (hn : NamesOk ns) (hl0 : 0 ≤ lf) (hl1 : lf < 4) (hr0 : 0 ≤ rg) (hr1 : rg < 4) (hsh : ShIs sv sh) (hsh' : ShIs sv' sh)
  (d1 : Df deck ow) (d2 : Df deck od) (d3 : Df deck on) (d4 : Df deck wd) (d5 : Df deck wn) (d6 : Df ow od) (d7 : Df ow on) (d8 : Df ow wd) (d9 : Df ow wn) (d10 : Df od on) (d11 : Df od wd) (d12 : Df od wn) (d13 : Df on wd) (d14 : Df on wn) (d15 : Df wd wn) (d16 : Df cells deck) (d17 : Df md od)
  (o1 : ∀ p ∈ IM, p.1 ≠ deck) (o2 : ∀ p ∈ IM, p.1 ≠ ow) (o3 : ∀ p ∈ IM, p.1 ≠ od) (o4 : ∀ p ∈ IM, p.1 ≠ on) (o5 : ∀ p ∈ IM, p.1 ≠ wd) (o6 : ∀ p ∈ IM, p.1 ≠ wn) {v p : Int} {tv tp : Tok}
  (F : Fr h₀ L s.heap (fun y => if y = Str.ofString "place" then some (.int p tp) else if y = Str.ofString "way" then some (.int v tv) else if y = Str.ofString "words" then some (.ref wl) else if y = Str.ofString "w" then some (.ref wd) else if y = Str.ofString "own" then some (.ref ow) else if y = Str.ofString "rows" then some (.ref rows) else if y = Str.ofString "deck" then some (.ref deck) else u y)) (v0 : 0 ≤ v) (v1 : v < 2) (p0 : 0 ≤ p) (p1 : p < 4) :
  wpAny (model PG w) (callerA.deeper (envOf (Str.ofString "law") (lawScope w) L fa cd)) (exec (wayB w) (envOf (Str.ofString "law") (lawScope w) L fa cd)) (StPost w h₀ L deck cells ow od md rows wl IM (k + 1) s) E s := by
  conv in (occs := *) lawScope w => all_goals whnf
  with_unfolding_all show wpAny _ _ (exec (Stmt.If _ _ _ _) _) _ _ _
  have hnl := hn.len
  have hvl : vs.length = 4 := hb.length.trans hnl
  have hvl' : vs'.length = 4 := hb'.length.trans hnl
  k_steps
end
end Mine
namespace Mine
section
variable {w : World} {mg mb : Str → Option Value} {mean : ExcName → Option Value} {base h₀ : Heap} {L fa : Addr} {cd : Value} {u : Str → Option Value} {s : Shared} {E : Value → Shared → Prop}
theorem way2 {IM : List (Addr × Obj)} {deck cells ow od md on wd wn wl rows nd nr nl nc n n' : Nat} {mo wo : Obj} {kvs : List (Array UInt8 × Value)} {cv rs wv vs vs' : List Value} {xs : List Int} {ns : List (Array UInt8)} {k lf rg : Int} {tk tl tr tl' tr' : Tok} {sv sv' : Value} {sh : Option Int} {k1 k2 k3 k4 k5 : Tok} (B : Below callerA base [] h₀) (X : (hd.heap_39 w.params).In h₀) (T : Top hd.view_39 (looseW hd.view_39 [Str.ofString "CHARSET_NAMES"]) mean mg mb h₀)
  (N : News h₀ L s.heap ((deck, listOf #[.ref cells, .int k tk] nd) :: (ow, instObj 146 od) :: (od, ownD w md on lf tl rg tr (sv) k1 k2 k3 k4 k5) :: (on, listOf vs.toArray n) :: (wd, wo) :: (wn, listOf vs'.toArray n') :: IM))
  (hcell : (cells, listOf cv.toArray nc) ∈ IM) (hi : IntsAre cv xs) (hlen : xs.length ≤ 48) (hk0 : 0 ≤ k) (hk1 : k < 100)
  (hmd : (md, mo) ∈ IM) (lo : (md == sysModules) = false) (ho : mo.IsDictOf (bkind PG w) kvs) (hT : TabsOk PG w names22 kvs IM)
  (hrow : (rows, listOf rs.toArray nr) ∈ IM) (hR : RowsAre IM rs rowsL) (hwl : (wl, listOf wv.toArray nl) ∈ IM) (hwv : BytesAre wv words20)
  (hw : wo.IsDictOf (PySem.strKind PG w) [(PySem.Str.ofString "names", .ref wn), (PySem.Str.ofString "left", .int lf tl'), (PySem.Str.ofString "right", .int rg tr'), (PySem.Str.ofString "shift", sv')]) (hb : BytesAre vs ns) (hb' : BytesAre vs' ns) (hn : NamesOk ns) (hl0 : 0 ≤ lf) (hl1 : lf < 4) (hr0 : 0 ≤ rg) (hr1 : rg < 4) (hsh : ShIs sv sh) (hsh' : ShIs sv' sh)
  (d1 : Df deck ow) (d2 : Df deck od) (d3 : Df deck on) (d4 : Df deck wd) (d5 : Df deck wn) (d6 : Df ow od) (d7 : Df ow on) (d8 : Df ow wd) (d9 : Df ow wn) (d10 : Df od on) (d11 : Df od wd) (d12 : Df od wn) (d13 : Df on wd) (d14 : Df on wn) (d15 : Df wd wn) (d16 : Df cells deck) (d17 : Df md od)
  (o1 : ∀ p ∈ IM, p.1 ≠ deck) (o2 : ∀ p ∈ IM, p.1 ≠ ow) (o3 : ∀ p ∈ IM, p.1 ≠ od) (o4 : ∀ p ∈ IM, p.1 ≠ on) (o5 : ∀ p ∈ IM, p.1 ≠ wd) (o6 : ∀ p ∈ IM, p.1 ≠ wn) {p : Int} {tv tp : Tok}
  (F : Fr h₀ L s.heap (fun y => if y = Str.ofString "place" then some (.int p tp) else if y = Str.ofString "way" then some (.int 2 tv) else if y = Str.ofString "words" then some (.ref wl) else if y = Str.ofString "w" then some (.ref wd) else if y = Str.ofString "own" then some (.ref ow) else if y = Str.ofString "rows" then some (.ref rows) else if y = Str.ofString "deck" then some (.ref deck) else u y)) (p0 : 0 ≤ p) (p1 : p < 4) :
  wpAny (model PG w) (callerA.deeper (envOf (Str.ofString "law") (lawScope w) L fa cd)) (exec (wayB w) (envOf (Str.ofString "law") (lawScope w) L fa cd)) (StPost w h₀ L deck cells ow od md rows wl IM (k + 1) s) E s := by
  conv in (occs := *) lawScope w => all_goals whnf
  with_unfolding_all show wpAny _ _ (exec (Stmt.If _ _ _ _) _) _ _ _
  rcases mod2_two p with hp | hp
  all_goals k_steps
end
end Mine
namespace Mine
section
variable {w : World} {mg mb : Str → Option Value} {mean : ExcName → Option Value} {base h₀ : Heap} {L fa : Addr} {cd : Value} {u : Str → Option Value} {s : Shared} {E : Value → Shared → Prop}
theorem wayC {IM : List (Addr × Obj)} {deck cells ow od md on wd wn wl rows nd nr nl nc n n' : Nat} {mo wo : Obj} {kvs : List (Array UInt8 × Value)} {cv rs wv vs vs' : List Value} {xs : List Int} {ns : List (Array UInt8)} {k lf rg : Int} {tk tl tr tl' tr' : Tok} {sv sv' : Value} {sh : Option Int} {k1 k2 k3 k4 k5 : Tok} (B : Below callerA base [] h₀) (X : (hd.heap_39 w.params).In h₀) (T : Top hd.view_39 (looseW hd.view_39 [Str.ofString "CHARSET_NAMES"]) mean mg mb h₀)
  (N : News h₀ L s.heap ((deck, listOf #[.ref cells, .int k tk] nd) :: (ow, instObj 146 od) :: (od, ownD w md on lf tl rg tr (sv) k1 k2 k3 k4 k5) :: (on, listOf vs.toArray n) :: (wd, wo) :: (wn, listOf vs'.toArray n') :: IM))
  (hcell : (cells, listOf cv.toArray nc) ∈ IM) (hi : IntsAre cv xs) (hlen : xs.length ≤ 48) (hk0 : 0 ≤ k) (hk1 : k < 100)
  (hmd : (md, mo) ∈ IM) (lo : (md == sysModules) = false) (ho : mo.IsDictOf (bkind PG w) kvs) (hT : TabsOk PG w names22 kvs IM)
  (hrow : (rows, listOf rs.toArray nr) ∈ IM) (hR : RowsAre IM rs rowsL) (hwl : (wl, listOf wv.toArray nl) ∈ IM) (hwv : BytesAre wv words20)
  (hw : wo.IsDictOf (PySem.strKind PG w) [(PySem.Str.ofString "names", .ref wn), (PySem.Str.ofString "left", .int lf tl'), (PySem.Str.ofString "right", .int rg tr'), (PySem.Str.ofString "shift", sv')]) (hb : BytesAre vs ns) (hb' : BytesAre vs' ns) (hn : NamesOk ns) (hl0 : 0 ≤ lf) (hl1 : lf < 4) (hr0 : 0 ≤ rg) (hr1 : rg < 4) (hsh : ShIs sv sh) (hsh' : ShIs sv' sh)
  (d1 : Df deck ow) (d2 : Df deck od) (d3 : Df deck on) (d4 : Df deck wd) (d5 : Df deck wn) (d6 : Df ow od) (d7 : Df ow on) (d8 : Df ow wd) (d9 : Df ow wn) (d10 : Df od on) (d11 : Df od wd) (d12 : Df od wn) (d13 : Df on wd) (d14 : Df on wn) (d15 : Df wd wn) (d16 : Df cells deck) (d17 : Df md od)
  (o1 : ∀ p ∈ IM, p.1 ≠ deck) (o2 : ∀ p ∈ IM, p.1 ≠ ow) (o3 : ∀ p ∈ IM, p.1 ≠ od) (o4 : ∀ p ∈ IM, p.1 ≠ on) (o5 : ∀ p ∈ IM, p.1 ≠ wd) (o6 : ∀ p ∈ IM, p.1 ≠ wn) {p : Int} {tv tp : Tok}
  (F : Fr h₀ L s.heap (fun y => if y = Str.ofString "place" then some (.int p tp) else if y = Str.ofString "way" then some (.int 3 tv) else if y = Str.ofString "words" then some (.ref wl) else if y = Str.ofString "w" then some (.ref wd) else if y = Str.ofString "own" then some (.ref ow) else if y = Str.ofString "rows" then some (.ref rows) else if y = Str.ofString "deck" then some (.ref deck) else u y)) (p0 : 0 ≤ p) (p1 : p < 4) :
  wpAny (model PG w) (callerA.deeper (envOf (Str.ofString "law") (lawScope w) L fa cd)) (exec (wayB w) (envOf (Str.ofString "law") (lawScope w) L fa cd)) (StPost w h₀ L deck cells ow od md rows wl IM (k + 1) s) E s := by
  conv in (occs := *) lawScope w => all_goals whnf
  with_unfolding_all show wpAny _ _ (exec (Stmt.If _ _ _ _) _) _ _ _
  k_steps
end
end Mine
namespace Mine
section
variable {w : World} {mg mb : Str → Option Value} {mean : ExcName → Option Value} {base h₀ : Heap} {L fa : Addr} {cd : Value} {u : Str → Option Value} {s : Shared} {E : Value → Shared → Prop}
theorem wayD {IM : List (Addr × Obj)} {deck cells ow od md on wd wn wl rows nd nr nl nc n n' : Nat} {mo wo : Obj} {kvs : List (Array UInt8 × Value)} {cv rs wv vs vs' : List Value} {xs : List Int} {ns : List (Array UInt8)} {k lf rg : Int} {tk tl tr tl' tr' : Tok} {sv sv' : Value} {sh : Option Int} {k1 k2 k3 k4 k5 : Tok} (B : Below callerA base [] h₀) (X : (hd.heap_39 w.params).In h₀) (T : Top hd.view_39 (looseW hd.view_39 [Str.ofString "CHARSET_NAMES"]) mean mg mb h₀)
  (N : News h₀ L s.heap ((deck, listOf #[.ref cells, .int k tk] nd) :: (ow, instObj 146 od) :: (od, ownD w md on lf tl rg tr (sv) k1 k2 k3 k4 k5) :: (on, listOf vs.toArray n) :: (wd, wo) :: (wn, listOf vs'.toArray n') :: IM))
  (hcell : (cells, listOf cv.toArray nc) ∈ IM) (hi : IntsAre cv xs) (hlen : xs.length ≤ 48) (hk0 : 0 ≤ k) (hk1 : k < 100)
  (hmd : (md, mo) ∈ IM) (lo : (md == sysModules) = false) (ho : mo.IsDictOf (bkind PG w) kvs) (hT : TabsOk PG w names22 kvs IM)
  (hrow : (rows, listOf rs.toArray nr) ∈ IM) (hR : RowsAre IM rs rowsL) (hwl : (wl, listOf wv.toArray nl) ∈ IM) (hwv : BytesAre wv words20)
  (hw : wo.IsDictOf (PySem.strKind PG w) [(PySem.Str.ofString "names", .ref wn), (PySem.Str.ofString "left", .int lf tl'), (PySem.Str.ofString "right", .int rg tr'), (PySem.Str.ofString "shift", sv')]) (hb : BytesAre vs ns) (hb' : BytesAre vs' ns) (hn : NamesOk ns) (hl0 : 0 ≤ lf) (hl1 : lf < 4) (hr0 : 0 ≤ rg) (hr1 : rg < 4) (hsh : ShIs sv sh) (hsh' : ShIs sv' sh)
  (d1 : Df deck ow) (d2 : Df deck od) (d3 : Df deck on) (d4 : Df deck wd) (d5 : Df deck wn) (d6 : Df ow od) (d7 : Df ow on) (d8 : Df ow wd) (d9 : Df ow wn) (d10 : Df od on) (d11 : Df od wd) (d12 : Df od wn) (d13 : Df on wd) (d14 : Df on wn) (d15 : Df wd wn) (d16 : Df cells deck) (d17 : Df md od)
  (o1 : ∀ p ∈ IM, p.1 ≠ deck) (o2 : ∀ p ∈ IM, p.1 ≠ ow) (o3 : ∀ p ∈ IM, p.1 ≠ od) (o4 : ∀ p ∈ IM, p.1 ≠ on) (o5 : ∀ p ∈ IM, p.1 ≠ wd) (o6 : ∀ p ∈ IM, p.1 ≠ wn) {p : Int} {tv tp : Tok}
  (F : Fr h₀ L s.heap (fun y => if y = Str.ofString "place" then some (.int p tp) else if y = Str.ofString "way" then some (.int 4 tv) else if y = Str.ofString "words" then some (.ref wl) else if y = Str.ofString "w" then some (.ref wd) else if y = Str.ofString "own" then some (.ref ow) else if y = Str.ofString "rows" then some (.ref rows) else if y = Str.ofString "deck" then some (.ref deck) else u y)) (p0 : 0 ≤ p) (p1 : p < 4) :
  wpAny (model PG w) (callerA.deeper (envOf (Str.ofString "law") (lawScope w) L fa cd)) (exec (wayB w) (envOf (Str.ofString "law") (lawScope w) L fa cd)) (StPost w h₀ L deck cells ow od md rows wl IM (k + 1) s) E s := by
  conv in (occs := *) lawScope w => all_goals whnf
  with_unfolding_all show wpAny _ _ (exec (Stmt.If _ _ _ _) _) _ _ _
  have hp := mod2_two p
  generalize he : p.fmod 2 = r at hp
  all_goals k_steps
end
end Mine
namespace Mine
section
variable {w : World} {mg mb : Str → Option Value} {mean : ExcName → Option Value} {base h₀ : Heap} {L fa : Addr} {cd : Value} {u : Str → Option Value} {s : Shared} {E : Value → Shared → Prop}
theorem wayE {IM : List (Addr × Obj)} {deck cells ow od md on wd wn wl rows nd nr nl nc n n' : Nat} {mo wo : Obj} {kvs : List (Array UInt8 × Value)} {cv rs wv vs vs' : List Value} {xs : List Int} {ns : List (Array UInt8)} {k lf rg : Int} {tk tl tr tl' tr' : Tok} {sv sv' : Value} {sh : Option Int} {k1 k2 k3 k4 k5 : Tok} (B : Below callerA base [] h₀) (X : (hd.heap_39 w.params).In h₀) (T : Top hd.view_39 (looseW hd.view_39 [Str.ofString "CHARSET_NAMES"]) mean mg mb h₀)
  (N : News h₀ L s.heap ((deck, listOf #[.ref cells, .int k tk] nd) :: (ow, instObj 146 od) :: (od, ownD w md on lf tl rg tr (sv) k1 k2 k3 k4 k5) :: (on, listOf vs.toArray n) :: (wd, wo) :: (wn, listOf vs'.toArray n') :: IM))
  (hcell : (cells, listOf cv.toArray nc) ∈ IM) (hi : IntsAre cv xs) (hlen : xs.length ≤ 48) (hk0 : 0 ≤ k) (hk1 : k < 100)
  (hmd : (md, mo) ∈ IM) (lo : (md == sysModules) = false) (ho : mo.IsDictOf (bkind PG w) kvs) (hT : TabsOk PG w names22 kvs IM)
  (hrow : (rows, listOf rs.toArray nr) ∈ IM) (hR : RowsAre IM rs rowsL) (hwl : (wl, listOf wv.toArray nl) ∈ IM) (hwv : BytesAre wv words20)
  (hw : wo.IsDictOf (PySem.strKind PG w) [(PySem.Str.ofString "names", .ref wn), (PySem.Str.ofString "left", .int lf tl'), (PySem.Str.ofString "right", .int rg tr'), (PySem.Str.ofString "shift", sv')]) (hb : BytesAre vs ns) (hb' : BytesAre vs' ns) (hn : NamesOk ns) (hl0 : 0 ≤ lf) (hl1 : lf < 4) (hr0 : 0 ≤ rg) (hr1 : rg < 4) (hsh : ShIs sv sh) (hsh' : ShIs sv' sh)
  (d1 : Df deck ow) (d2 : Df deck od) (d3 : Df deck on) (d4 : Df deck wd) (d5 : Df deck wn) (d6 : Df ow od) (d7 : Df ow on) (d8 : Df ow wd) (d9 : Df ow wn) (d10 : Df od on) (d11 : Df od wd) (d12 : Df od wn) (d13 : Df on wd) (d14 : Df on wn) (d15 : Df wd wn) (d16 : Df cells deck) (d17 : Df md od)
  (o1 : ∀ p ∈ IM, p.1 ≠ deck) (o2 : ∀ p ∈ IM, p.1 ≠ ow) (o3 : ∀ p ∈ IM, p.1 ≠ od) (o4 : ∀ p ∈ IM, p.1 ≠ on) (o5 : ∀ p ∈ IM, p.1 ≠ wd) (o6 : ∀ p ∈ IM, p.1 ≠ wn) {tv tp : Tok}
  (F : Fr h₀ L s.heap (fun y => if y = Str.ofString "place" then some (.int 0 tp) else if y = Str.ofString "way" then some (.int 5 tv) else if y = Str.ofString "words" then some (.ref wl) else if y = Str.ofString "w" then some (.ref wd) else if y = Str.ofString "own" then some (.ref ow) else if y = Str.ofString "rows" then some (.ref rows) else if y = Str.ofString "deck" then some (.ref deck) else u y))  :
  wpAny (model PG w) (callerA.deeper (envOf (Str.ofString "law") (lawScope w) L fa cd)) (exec (wayB w) (envOf (Str.ofString "law") (lawScope w) L fa cd)) (StPost w h₀ L deck cells ow od md rows wl IM (k + 1) s) E s := by
  conv in (occs := *) lawScope w => all_goals whnf
  with_unfolding_all show wpAny _ _ (exec (Stmt.If _ _ _ _) _) _ _ _
  k_steps
end
end Mine
namespace Mine
noncomputable def orElse : Stmt → List Stmt
  | .If _ _ e _ => e
  | _ => []
noncomputable def onlyOf : List Stmt → Stmt
  | s :: _ => s
  | _ => .Pass ⟨0, 0, 0, 0⟩
noncomputable def mateB (w : World) : List Stmt := orElse (onlyOf (orElse (onlyOf (orElse (onlyOf (orElse (onlyOf (orElse (wayB w)))))))))
section
variable {w : World} {mg mb : Str → Option Value} {mean : ExcName → Option Value} {base h₀ : Heap} {L fa : Addr} {cd : Value} {u : Str → Option Value} {s : Shared} {E : Value → Shared → Prop}
theorem mate_body {IM : List (Addr × Obj)} {deck cells ow od md on wd wn wl rows nd nr nl nc n n' : Nat} {mo wo : Obj} {kvs : List (Array UInt8 × Value)} {cv rs wv vs vs' : List Value} {xs : List Int} {ns : List (Array UInt8)} {k lf rg : Int} {tk tl tr tl' tr' : Tok} {sv sv' : Value} {sh : Option Int} {k1 k2 k3 k4 k5 : Tok} (B : Below callerA base [] h₀) (X : (hd.heap_39 w.params).In h₀) (T : Top hd.view_39 (looseW hd.view_39 [Str.ofString "CHARSET_NAMES"]) mean mg mb h₀)
  (N : News h₀ L s.heap ((deck, listOf #[.ref cells, .int k tk] nd) :: (ow, instObj 146 od) :: (od, ownD w md on lf tl rg tr (sv) k1 k2 k3 k4 k5) :: (on, listOf vs.toArray n) :: (wd, wo) :: (wn, listOf vs'.toArray n') :: IM))
  (hcell : (cells, listOf cv.toArray nc) ∈ IM) (hi : IntsAre cv xs) (hlen : xs.length ≤ 48) (hk0 : 0 ≤ k) (hk1 : k < 100)
  (hmd : (md, mo) ∈ IM) (lo : (md == sysModules) = false) (ho : mo.IsDictOf (bkind PG w) kvs) (hT : TabsOk PG w names22 kvs IM)
  (hrow : (rows, listOf rs.toArray nr) ∈ IM) (hR : RowsAre IM rs rowsL) (hwl : (wl, listOf wv.toArray nl) ∈ IM) (hwv : BytesAre wv words20)
  (hw : wo.IsDictOf (PySem.strKind PG w) [(PySem.Str.ofString "names", .ref wn), (PySem.Str.ofString "left", .int lf tl'), (PySem.Str.ofString "right", .int rg tr'), (PySem.Str.ofString "shift", sv')]) (hb : BytesAre vs ns) (hb' : BytesAre vs' ns) (hn : NamesOk ns) (hl0 : 0 ≤ lf) (hl1 : lf < 4) (hr0 : 0 ≤ rg) (hr1 : rg < 4) (hsh : ShIs sv sh) (hsh' : ShIs sv' sh)
  (d1 : Df deck ow) (d2 : Df deck od) (d3 : Df deck on) (d4 : Df deck wd) (d5 : Df deck wn) (d6 : Df ow od) (d7 : Df ow on) (d8 : Df ow wd) (d9 : Df ow wn) (d10 : Df od on) (d11 : Df od wd) (d12 : Df od wn) (d13 : Df on wd) (d14 : Df on wn) (d15 : Df wd wn) (d16 : Df cells deck) (d17 : Df md od)
  (o1 : ∀ p ∈ IM, p.1 ≠ deck) (o2 : ∀ p ∈ IM, p.1 ≠ ow) (o3 : ∀ p ∈ IM, p.1 ≠ od) (o4 : ∀ p ∈ IM, p.1 ≠ on) (o5 : ∀ p ∈ IM, p.1 ≠ wd) (o6 : ∀ p ∈ IM, p.1 ≠ wn) {v p : Int} {tv tp : Tok} {Q : Flow → Shared → Prop}
  (F : Fr h₀ L s.heap (fun y => if y = Str.ofString "place" then some (.int p tp) else if y = Str.ofString "way" then some (.int v tv) else if y = Str.ofString "words" then some (.ref wl) else if y = Str.ofString "w" then some (.ref wd) else if y = Str.ofString "own" then some (.ref ow) else if y = Str.ofString "rows" then some (.ref rows) else if y = Str.ofString "deck" then some (.ref deck) else u y))
  (hret : ∀ f s₂, StPost w h₀ L deck cells ow od md rows wl IM (k + 1) s f s₂ → Q f s₂) :
  wpAny (model PG w) (callerA.deeper (envOf (Str.ofString "law") (lawScope w) L fa cd)) (execs (mateB w) (envOf (Str.ofString "law") (lawScope w) L fa cd)) Q E s := by
  refine wpAny_mono (Q := StPost w h₀ L deck cells ow od md rows wl IM (k + 1) s) ?_ hret fun _ _ e => e
  conv in (occs := *) lawScope w => all_goals whnf
  with_unfolding_all show wpAny _ _ (execs (_ :: _) _) _ _ _
  obtain ⟨b1, b2, b3, b4, t1, t2, t3, t4, rfl, rfl⟩ := bytes_four hb hn.len
  obtain ⟨c1, c2, c3, c4, u1, u2, u3, u4, rfl, hcc⟩ := bytes_four hb' hn.len
  injection hcc with e1 hcc; injection hcc with e2 hcc; injection hcc with e3 hcc; injection hcc with e4 _
  subst e1; subst e2; subst e3; subst e4
  have hb1 : b1 ∈ words18 := hn.mem _ (by simp)
  have hb2 : b2 ∈ words18 := hn.mem _ (by simp)
  have hb3 : b3 ∈ words18 := hn.mem _ (by simp)
  have hb4 : b4 ∈ words18 := hn.mem _ (by simp)
  k_steps
end
end Mine
theorem Mine.kw33 : True := by
  w_top off
  k_with "execs cons Assign cons" => (k_here; (with_reducible show wpAny _ _ (execs (Stmt.Assign [Expr.Name (PySem.Str.ofString "mate") _] _ _ :: _) _) _ _ _); refine Mine.Halt.intro ?_)
  trivial
namespace Mine
section
variable {w : World} {mg mb : Str → Option Value} {mean : ExcName → Option Value} {base h₀ : Heap} {L fa : Addr} {cd : Value} {u : Str → Option Value} {s : Shared} {E : Value → Shared → Prop}
theorem wayF {IM : List (Addr × Obj)} {deck cells ow od md on wd wn wl rows nd nr nl nc n n' : Nat} {mo wo : Obj} {kvs : List (Array UInt8 × Value)} {cv rs wv vs vs' : List Value} {xs : List Int} {ns : List (Array UInt8)} {k lf rg : Int} {tk tl tr tl' tr' : Tok} {sv sv' : Value} {sh : Option Int} {k1 k2 k3 k4 k5 : Tok} (B : Below callerA base [] h₀) (X : (hd.heap_39 w.params).In h₀) (T : Top hd.view_39 (looseW hd.view_39 [Str.ofString "CHARSET_NAMES"]) mean mg mb h₀)
  (N : News h₀ L s.heap ((deck, listOf #[.ref cells, .int k tk] nd) :: (ow, instObj 146 od) :: (od, ownD w md on lf tl rg tr (sv) k1 k2 k3 k4 k5) :: (on, listOf vs.toArray n) :: (wd, wo) :: (wn, listOf vs'.toArray n') :: IM))
  (hcell : (cells, listOf cv.toArray nc) ∈ IM) (hi : IntsAre cv xs) (hlen : xs.length ≤ 48) (hk0 : 0 ≤ k) (hk1 : k < 100)
  (hmd : (md, mo) ∈ IM) (lo : (md == sysModules) = false) (ho : mo.IsDictOf (bkind PG w) kvs) (hT : TabsOk PG w names22 kvs IM)
  (hrow : (rows, listOf rs.toArray nr) ∈ IM) (hR : RowsAre IM rs rowsL) (hwl : (wl, listOf wv.toArray nl) ∈ IM) (hwv : BytesAre wv words20)
  (hw : wo.IsDictOf (PySem.strKind PG w) [(PySem.Str.ofString "names", .ref wn), (PySem.Str.ofString "left", .int lf tl'), (PySem.Str.ofString "right", .int rg tr'), (PySem.Str.ofString "shift", sv')]) (hb : BytesAre vs ns) (hb' : BytesAre vs' ns) (hn : NamesOk ns) (hl0 : 0 ≤ lf) (hl1 : lf < 4) (hr0 : 0 ≤ rg) (hr1 : rg < 4) (hsh : ShIs sv sh) (hsh' : ShIs sv' sh)
  (d1 : Df deck ow) (d2 : Df deck od) (d3 : Df deck on) (d4 : Df deck wd) (d5 : Df deck wn) (d6 : Df ow od) (d7 : Df ow on) (d8 : Df ow wd) (d9 : Df ow wn) (d10 : Df od on) (d11 : Df od wd) (d12 : Df od wn) (d13 : Df on wd) (d14 : Df on wn) (d15 : Df wd wn) (d16 : Df cells deck) (d17 : Df md od)
  (o1 : ∀ p ∈ IM, p.1 ≠ deck) (o2 : ∀ p ∈ IM, p.1 ≠ ow) (o3 : ∀ p ∈ IM, p.1 ≠ od) (o4 : ∀ p ∈ IM, p.1 ≠ on) (o5 : ∀ p ∈ IM, p.1 ≠ wd) (o6 : ∀ p ∈ IM, p.1 ≠ wn) {v p : Int} {tv tp : Tok}
  (F : Fr h₀ L s.heap (fun y => if y = Str.ofString "place" then some (.int p tp) else if y = Str.ofString "way" then some (.int v tv) else if y = Str.ofString "words" then some (.ref wl) else if y = Str.ofString "w" then some (.ref wd) else if y = Str.ofString "own" then some (.ref ow) else if y = Str.ofString "rows" then some (.ref rows) else if y = Str.ofString "deck" then some (.ref deck) else u y)) (v0 : v = 6 ∨ v = 5 ∧ p ≠ 0) :
  wpAny (model PG w) (callerA.deeper (envOf (Str.ofString "law") (lawScope w) L fa cd)) (exec (wayB w) (envOf (Str.ofString "law") (lawScope w) L fa cd)) (StPost w h₀ L deck cells ow od md rows wl IM (k + 1) s) E s := by
  have c := @mate_body w mg mb mean base h₀ L fa cd
  conv in (occs := *) wayB w => all_goals whnf
  conv in (occs := *) lawScope w => all_goals whnf
  all_goals k_steps
  all_goals unfold Halt
  all_goals (with_unfolding_all show wpAny _ _ (execs (mateB w) (envOf (Str.ofString "law") (lawScope w) L fa cd)) _ _ _)
  all_goals (generalize mateB w = S at c ⊢)
  all_goals (have c2 := fun (tk : Nat) (Q : Flow → Shared → Prop) (E : Value → Shared → Prop) => c (s := ⟨s.heap, s.gens, s.drawn, tk, s.os⟩) (Q := Q) (E := E) B X T N hcell hi hlen hk0 hk1 hmd lo ho hT hrow hR hwl hwv hw hb hb' hn hl0 hl1 hr0 hr1 hsh hsh' d1 d2 d3 d4 d5 d6 d7 d8 d9 d10 d11 d12 d13 d14 d15 d16 d17 o1 o2 o3 o4 o5 o6 F)
  all_goals refine c2 _ _ _ (fun f s₂ h => ?_)
  all_goals (have h' := StPost.back h; obtain ⟨hf, hx⟩ := id h; subst hf; clear c c2 hx h; dsimp only)
  all_goals k_steps
  all_goals exact h'
end
end Mine
namespace Mine
section
variable {w : World} {mg mb : Str → Option Value} {mean : ExcName → Option Value} {base h₀ : Heap} {L fa : Addr} {cd : Value} {u : Str → Option Value} {s : Shared} {E : Value → Shared → Prop}
theorem way_last {v p : Int} (a : ¬ v < 2) (b : ¬ v = 2) (c : ¬ v = 3) (d : ¬ v = 4) (e : ¬ (v = 5 ∧ p = 0)) (f : v < 7) : v = 6 ∨ v = 5 ∧ p ≠ 0 := by
  have h2 : 2 ≤ v := Int.not_lt.mp a
  have h3 : 3 ≤ v := Int.lt_iff_le_and_ne.mpr ⟨h2, fun q => b q.symm⟩
  have h4 : 4 ≤ v := Int.lt_iff_le_and_ne.mpr ⟨h3, fun q => c q.symm⟩
  have h5 : 5 ≤ v := Int.lt_iff_le_and_ne.mpr ⟨h4, fun q => d q.symm⟩
  by_cases h : v = 5
  · exact .inr ⟨h, fun hp => e ⟨h, hp⟩⟩
  · exact .inl (Int.le_antisymm (Int.le_of_lt_add_one f) (Int.lt_iff_le_and_ne.mpr ⟨h5, fun q => h q.symm⟩))
theorem way_any {v p : Int} {tv tp : Tok} {IM : List (Addr × Obj)} {deck cells ow od md on wd wn wl rows nd nr nl nc n n' : Nat} {mo wo : Obj} {kvs : List (Array UInt8 × Value)} {cv rs wv vs vs' : List Value} {xs : List Int} {ns : List (Array UInt8)} {k lf rg : Int} {tk tl tr tl' tr' : Tok} {sv sv' : Value} {sh : Option Int} {k1 k2 k3 k4 k5 : Tok} (B : Below callerA base [] h₀) (X : (hd.heap_39 w.params).In h₀) (T : Top hd.view_39 (looseW hd.view_39 [Str.ofString "CHARSET_NAMES"]) mean mg mb h₀)
  (N : News h₀ L s.heap ((deck, listOf #[.ref cells, .int k tk] nd) :: (ow, instObj 146 od) :: (od, ownD w md on lf tl rg tr (sv) k1 k2 k3 k4 k5) :: (on, listOf vs.toArray n) :: (wd, wo) :: (wn, listOf vs'.toArray n') :: IM))
  (hcell : (cells, listOf cv.toArray nc) ∈ IM) (hi : IntsAre cv xs) (hlen : xs.length ≤ 48) (hk0 : 0 ≤ k) (hk1 : k < 100)
  (hmd : (md, mo) ∈ IM) (lo : (md == sysModules) = false) (ho : mo.IsDictOf (bkind PG w) kvs) (hT : TabsOk PG w names22 kvs IM)
  (hrow : (rows, listOf rs.toArray nr) ∈ IM) (hR : RowsAre IM rs rowsL) (hwl : (wl, listOf wv.toArray nl) ∈ IM) (hwv : BytesAre wv words20)
  (hw : wo.IsDictOf (PySem.strKind PG w) [(PySem.Str.ofString "names", .ref wn), (PySem.Str.ofString "left", .int lf tl'), (PySem.Str.ofString "right", .int rg tr'), (PySem.Str.ofString "shift", sv')]) (hb : BytesAre vs ns) (hb' : BytesAre vs' ns) (hn : NamesOk ns) (hl0 : 0 ≤ lf) (hl1 : lf < 4) (hr0 : 0 ≤ rg) (hr1 : rg < 4) (hsh : ShIs sv sh) (hsh' : ShIs sv' sh)
  (d1 : Df deck ow) (d2 : Df deck od) (d3 : Df deck on) (d4 : Df deck wd) (d5 : Df deck wn) (d6 : Df ow od) (d7 : Df ow on) (d8 : Df ow wd) (d9 : Df ow wn) (d10 : Df od on) (d11 : Df od wd) (d12 : Df od wn) (d13 : Df on wd) (d14 : Df on wn) (d15 : Df wd wn) (d16 : Df cells deck) (d17 : Df md od)
  (o1 : ∀ p ∈ IM, p.1 ≠ deck) (o2 : ∀ p ∈ IM, p.1 ≠ ow) (o3 : ∀ p ∈ IM, p.1 ≠ od) (o4 : ∀ p ∈ IM, p.1 ≠ on) (o5 : ∀ p ∈ IM, p.1 ≠ wd) (o6 : ∀ p ∈ IM, p.1 ≠ wn)
  (F : Fr h₀ L s.heap (fun y => if y = Str.ofString "place" then some (.int p tp) else if y = Str.ofString "way" then some (.int v tv) else if y = Str.ofString "words" then some (.ref wl) else if y = Str.ofString "w" then some (.ref wd) else if y = Str.ofString "own" then some (.ref ow) else if y = Str.ofString "rows" then some (.ref rows) else if y = Str.ofString "deck" then some (.ref deck) else u y)) (v0 : 0 ≤ v) (v1 : v < 7) (p0 : 0 ≤ p) (p1 : p < 4) :
  wpAny (model PG w) (callerA.deeper (envOf (Str.ofString "law") (lawScope w) L fa cd)) (exec (wayB w) (envOf (Str.ofString "law") (lawScope w) L fa cd)) (StPost w h₀ L deck cells ow od md rows wl IM (k + 1) s) E s := by
  by_cases hA : v < 2
  · exact wayA B X T N hcell hi hlen hk0 hk1 hmd lo ho hT hrow hR hwl hwv hw hb hb' hn hl0 hl1 hr0 hr1 hsh hsh' d1 d2 d3 d4 d5 d6 d7 d8 d9 d10 d11 d12 d13 d14 d15 d16 d17 o1 o2 o3 o4 o5 o6 F v0 hA p0 p1
  by_cases hB : v = 2
  · subst hB
    exact way2 B X T N hcell hi hlen hk0 hk1 hmd lo ho hT hrow hR hwl hwv hw hb hb' hn hl0 hl1 hr0 hr1 hsh hsh' d1 d2 d3 d4 d5 d6 d7 d8 d9 d10 d11 d12 d13 d14 d15 d16 d17 o1 o2 o3 o4 o5 o6 F p0 p1
  by_cases hC : v = 3
  · subst hC
    exact wayC B X T N hcell hi hlen hk0 hk1 hmd lo ho hT hrow hR hwl hwv hw hb hb' hn hl0 hl1 hr0 hr1 hsh hsh' d1 d2 d3 d4 d5 d6 d7 d8 d9 d10 d11 d12 d13 d14 d15 d16 d17 o1 o2 o3 o4 o5 o6 F p0 p1
  by_cases hD : v = 4
  · subst hD
    exact wayD B X T N hcell hi hlen hk0 hk1 hmd lo ho hT hrow hR hwl hwv hw hb hb' hn hl0 hl1 hr0 hr1 hsh hsh' d1 d2 d3 d4 d5 d6 d7 d8 d9 d10 d11 d12 d13 d14 d15 d16 d17 o1 o2 o3 o4 o5 o6 F p0 p1
  by_cases hE : v = 5 ∧ p = 0
  · obtain ⟨rfl, rfl⟩ := hE
    exact wayE B X T N hcell hi hlen hk0 hk1 hmd lo ho hT hrow hR hwl hwv hw hb hb' hn hl0 hl1 hr0 hr1 hsh hsh' d1 d2 d3 d4 d5 d6 d7 d8 d9 d10 d11 d12 d13 d14 d15 d16 d17 o1 o2 o3 o4 o5 o6 F
  · exact wayF B X T N hcell hi hlen hk0 hk1 hmd lo ho hT hrow hR hwl hwv hw hb hb' hn hl0 hl1 hr0 hr1 hsh hsh' d1 d2 d3 d4 d5 d6 d7 d8 d9 d10 d11 d12 d13 d14 d15 d16 d17 o1 o2 o3 o4 o5 o6 F (way_last hA hB hC hD hE v1)
theorem swap2 {a b : Str} {x z : Option Value} {g : Str → Option Value} (hab : a ≠ b) : (fun y => if y = a then x else if y = b then z else g y) = (fun y => if y = b then z else if y = a then x else g y) := by
  funext y
  by_cases h1 : y = a
  · have h2 : ¬ y = b := fun e => hab (h1.symm.trans e)
    rw [if_pos h1, if_neg h2, if_pos h1]
  · rw [if_neg h1]
    by_cases h2 : y = b
    · rw [if_pos h2, if_pos h2]
    · rw [if_neg h2, if_neg h2, if_neg h1]
theorem fr_swap {h₀ h : Heap} {L : Addr} {a b : Str} {x z : Option Value} {g : Str → Option Value} (F : Fr h₀ L h (fun y => if y = a then x else if y = b then z else g y)) (hab : a ≠ b) : Fr h₀ L h (fun y => if y = b then z else if y = a then x else g y) := swap2 hab ▸ F
theorem StPost.mono {h₀ : Heap} {L : Addr} {deck cells ow od md rows wl : Nat} {IM : List (Addr × Obj)} {a b : Int} {s : Shared} {f : Flow} {s₂ : Shared} (h : StPost w h₀ L deck cells ow od md rows wl IM a s f s₂) (hab : a ≤ b) : StPost w h₀ L deck cells ow od md rows wl IM b s f s₂ := by
  obtain ⟨rfl, h', tk, m', l, rfl, F, N, st⟩ := h
  exact ⟨rfl, h', tk, m', l, rfl, F, N, st.le hab⟩
theorem frame_eq {m' : Str → Option Value} {wl wd ow rows deck : Nat} (n1 : m' (Str.ofString "words") = some (.ref wl)) (n2 : m' (Str.ofString "w") = some (.ref wd)) (n3 : m' (Str.ofString "own") = some (.ref ow)) (n4 : m' (Str.ofString "rows") = some (.ref rows)) (n5 : m' (Str.ofString "deck") = some (.ref deck)) :
    m' = (fun y => if y = Str.ofString "words" then some (.ref wl) else if y = Str.ofString "w" then some (.ref wd) else if y = Str.ofString "own" then some (.ref ow) else if y = Str.ofString "rows" then some (.ref rows) else if y = Str.ofString "deck" then some (.ref deck) else m' y) := by
  funext y
  by_cases h1 : y = Str.ofString "words"
  · rw [if_pos h1, h1, n1]
  by_cases h2 : y = Str.ofString "w"
  · rw [if_neg h1, if_pos h2, h2, n2]
  by_cases h3 : y = Str.ofString "own"
  · rw [if_neg h1, if_neg h2, if_pos h3, h3, n3]
  by_cases h4 : y = Str.ofString "rows"
  · rw [if_neg h1, if_neg h2, if_neg h3, if_pos h4, h4, n4]
  by_cases h5 : y = Str.ofString "deck"
  · rw [if_neg h1, if_neg h2, if_neg h3, if_neg h4, if_pos h5, h5, n5]
  rw [if_neg h1, if_neg h2, if_neg h3, if_neg h4, if_neg h5]
end
end Mine
namespace Mine
noncomputable def headOf : List Stmt → Stmt
  | b :: _ => b
  | _ => .Pass ⟨0, 0, 0, 0⟩
noncomputable def firstB (w : World) : Stmt := headOf (turnB w)
theorem turn_eq (w : World) : turnB w = firstB w :: wayB w :: restB w := by kernel_rfl
section
variable {w : World} {mg mb : Str → Option Value} {mean : ExcName → Option Value} {base h₀ : Heap} {L fa : Addr} {cd : Value} {u : Str → Option Value} {s : Shared} {E : Value → Shared → Prop}
noncomputable def FirstPost (w : World) (h₀ : Heap) (L : Addr) (s : Shared) (f : Flow) (s₂ : Shared) (fr : Int → Tok → Int → Tok → Str → Option Value) (ldg : Tok → List (Addr × Obj)) : Prop :=
  f = .next ∧ ∃ (v p : Int) (tv tp tt : Tok) (h' : Heap) (tk₂ : Nat), s₂ = { s with heap := h', toks := tk₂ } ∧ 0 ≤ v ∧ v < 7 ∧ 0 ≤ p ∧ p < 4 ∧ Fr h₀ L h' (fr p tp v tv) ∧ News h₀ L h' (ldg tt)
theorem first_spec {IM : List (Addr × Obj)} {deck cells ow od md on wd wn wl rows nd nr nl nc n n' : Nat} {mo wo : Obj} {kvs : List (Array UInt8 × Value)} {cv rs wv vs vs' : List Value} {xs : List Int} {ns : List (Array UInt8)} {k lf rg : Int} {tk tl tr tl' tr' : Tok} {sv sv' : Value} {sh : Option Int} {k1 k2 k3 k4 k5 : Tok} (B : Below callerA base [] h₀) (X : (hd.heap_39 w.params).In h₀) (T : Top hd.view_39 (looseW hd.view_39 [Str.ofString "CHARSET_NAMES"]) mean mg mb h₀)
  (N : News h₀ L s.heap ((deck, listOf #[.ref cells, .int k tk] nd) :: (ow, instObj 146 od) :: (od, ownD w md on lf tl rg tr (sv) k1 k2 k3 k4 k5) :: (on, listOf vs.toArray n) :: (wd, wo) :: (wn, listOf vs'.toArray n') :: IM))
  (hcell : (cells, listOf cv.toArray nc) ∈ IM) (hi : IntsAre cv xs) (hlen : xs.length ≤ 48) (hk0 : 0 ≤ k) (hk1 : k < 100)
  (hmd : (md, mo) ∈ IM) (lo : (md == sysModules) = false) (ho : mo.IsDictOf (bkind PG w) kvs) (hT : TabsOk PG w names22 kvs IM)
  (hrow : (rows, listOf rs.toArray nr) ∈ IM) (hR : RowsAre IM rs rowsL) (hwl : (wl, listOf wv.toArray nl) ∈ IM) (hwv : BytesAre wv words20)
  (hw : wo.IsDictOf (PySem.strKind PG w) [(PySem.Str.ofString "names", .ref wn), (PySem.Str.ofString "left", .int lf tl'), (PySem.Str.ofString "right", .int rg tr'), (PySem.Str.ofString "shift", sv')]) (hb : BytesAre vs ns) (hb' : BytesAre vs' ns) (hn : NamesOk ns) (hl0 : 0 ≤ lf) (hl1 : lf < 4) (hr0 : 0 ≤ rg) (hr1 : rg < 4) (hsh : ShIs sv sh) (hsh' : ShIs sv' sh)
  (d1 : Df deck ow) (d2 : Df deck od) (d3 : Df deck on) (d4 : Df deck wd) (d5 : Df deck wn) (d6 : Df ow od) (d7 : Df ow on) (d8 : Df ow wd) (d9 : Df ow wn) (d10 : Df od on) (d11 : Df od wd) (d12 : Df od wn) (d13 : Df on wd) (d14 : Df on wn) (d15 : Df wd wn) (d16 : Df cells deck) (d17 : Df md od)
  (o1 : ∀ p ∈ IM, p.1 ≠ deck) (o2 : ∀ p ∈ IM, p.1 ≠ ow) (o3 : ∀ p ∈ IM, p.1 ≠ od) (o4 : ∀ p ∈ IM, p.1 ≠ on) (o5 : ∀ p ∈ IM, p.1 ≠ wd) (o6 : ∀ p ∈ IM, p.1 ≠ wn)
  (F : Fr h₀ L s.heap (fun y => if y = Str.ofString "words" then some (.ref wl) else if y = Str.ofString "w" then some (.ref wd) else if y = Str.ofString "own" then some (.ref ow) else if y = Str.ofString "rows" then some (.ref rows) else if y = Str.ofString "deck" then some (.ref deck) else u y)) :
  wpAny (model PG w) (callerA.deeper (envOf (Str.ofString "law") (lawScope w) L fa cd)) (exec (firstB w) (envOf (Str.ofString "law") (lawScope w) L fa cd)) (fun f s₂ => FirstPost w h₀ L s f s₂ (fun p tp v tv y => if y = Str.ofString "place" then some (.int p tp) else if y = Str.ofString "way" then some (.int v tv) else if y = Str.ofString "words" then some (.ref wl) else if y = Str.ofString "w" then some (.ref wd) else if y = Str.ofString "own" then some (.ref ow) else if y = Str.ofString "rows" then some (.ref rows) else if y = Str.ofString "deck" then some (.ref deck) else u y)
    (fun tt => (deck, listOf #[.ref cells, .int (k + 1 + 1) tt] nd) :: (ow, instObj 146 od) :: (od, ownD w md on lf tl rg tr (sv) k1 k2 k3 k4 k5) :: (on, listOf vs.toArray n) :: (wd, wo) :: (wn, listOf vs'.toArray n') :: IM)) E s := by
  conv in (occs := *) lawScope w => all_goals whnf
  with_unfolding_all show wpAny _ _ (exec (Stmt.Assign _ _ _) _) _ _ _
  k_steps
  rename Fr _ _ _ _ => F9
  have F8 := fr_swap F9 (by decide +kernel)
  exact ⟨rfl, _, _, _, _, _, _, _, rfl, by omega, by omega, by omega, by omega, F8, cb_drop (by assumption) fun _ h => List.Mem.tail _ h⟩
end
end Mine
namespace Mine
section
variable {w : World} {mg mb : Str → Option Value} {mean : ExcName → Option Value} {base h₀ : Heap} {L fa : Addr} {cd : Value} {u : Str → Option Value} {s : Shared} {E : Value → Shared → Prop}
theorem check_st {IM : List (Addr × Obj)} {deck cells ow od md wl rows nr nl nc : Nat} {mo : Obj} {kvs : List (Array UInt8 × Value)} {cv rs wv : List Value} {xs : List Int} {kmax : Int} {m' : Str → Option Value} {l : List (Addr × Obj)}
  (B : Below callerA base [] h₀) (X : (hd.heap_39 w.params).In h₀) (T : Top hd.view_39 (looseW hd.view_39 [Str.ofString "CHARSET_NAMES"]) mean mg mb h₀)
  (hcell : (cells, listOf cv.toArray nc) ∈ IM) (hi : IntsAre cv xs) (hlen : xs.length ≤ 48) (hk1 : kmax < 100)
  (hmd : (md, mo) ∈ IM) (lo : (md == sysModules) = false) (ho : mo.IsDictOf (bkind PG w) kvs) (hT : TabsOk PG w names22 kvs IM)
  (hrow : (rows, listOf rs.toArray nr) ∈ IM) (hR : RowsAre IM rs rowsL) (hwl : (wl, listOf wv.toArray nl) ∈ IM) (hwv : BytesAre wv words20)
  (d1 : Df deck ow) (d2 : Df deck od) (d6 : Df ow od) (d16 : Df cells deck) (d17 : Df md od)
  (o1 : ∀ p ∈ IM, p.1 ≠ deck) (o2 : ∀ p ∈ IM, p.1 ≠ ow) (o3 : ∀ p ∈ IM, p.1 ≠ od)
  (F : Fr h₀ L s.heap m') (N : News h₀ L s.heap l) (st : LawSt w deck cells ow od md rows wl IM kmax m' l) :
  wpAny (model PG w) (callerA.deeper (envOf (Str.ofString "law") (lawScope w) L fa cd)) (execs (restB w) (envOf (Str.ofString "law") (lawScope w) L fa cd)) (StPost w h₀ L deck cells ow od md rows wl IM (kmax + 2) s) E s := by
  have c0 := @check_spec w mg mb mean base h₀ L fa cd
  generalize restB w = S at c0 ⊢
  obtain ⟨k, tk, nd, on, wd, wn, n, n', vs, vs', ns, lf, rg, tl, tr, tl', tr', sv, sv', sh, k1, k2, k3, k4, k5, wo, e, hk, ⟨n1, n2, n3, n4, n5⟩, hw, hb, hb', hn, ⟨l0, l1, r0, r1⟩, hsh, hsh', ⟨d3, d4, d5, d7, d8, d9, d10, d11, d12, d13, d14, d15⟩, o4, o5, o6⟩ := st
  subst e
  have hk1' : k < 100 := Int.lt_of_le_of_lt hk.2 hk1
  have hk2' : k + 2 ≤ kmax + 2 := Int.add_le_add_right hk.2 2
  have F2 := F
  rw [frame_eq n1 n2 n3 n4 n5] at F2
  clear F n1 n2 n3 n4 n5
  refine wpAny_mono (c0 B X T N hcell hi hlen hk.1 hk1' hmd lo ho hT hrow hR hwl hwv hw hb hb' hn l0 l1 r0 r1 hsh hsh' d1 d2 d3 d4 d5 d6 d7 d8 d9 d10 d11 d12 d13 d14 d15 d16 d17 o1 o2 o3 o4 o5 o6 F2) (fun f s₃ h₃ => StPost.mono h₃ hk2') fun _ _ e => e
theorem turn_spec {IM : List (Addr × Obj)} {deck cells ow od md on wd wn wl rows nd nr nl nc n n' : Nat} {mo wo : Obj} {kvs : List (Array UInt8 × Value)} {cv rs wv vs vs' : List Value} {xs : List Int} {ns : List (Array UInt8)} {k lf rg : Int} {tk tl tr tl' tr' : Tok} {sv sv' : Value} {sh : Option Int} {k1 k2 k3 k4 k5 : Tok} (B : Below callerA base [] h₀) (X : (hd.heap_39 w.params).In h₀) (T : Top hd.view_39 (looseW hd.view_39 [Str.ofString "CHARSET_NAMES"]) mean mg mb h₀)
  (N : News h₀ L s.heap ((deck, listOf #[.ref cells, .int k tk] nd) :: (ow, instObj 146 od) :: (od, ownD w md on lf tl rg tr (sv) k1 k2 k3 k4 k5) :: (on, listOf vs.toArray n) :: (wd, wo) :: (wn, listOf vs'.toArray n') :: IM))
  (hcell : (cells, listOf cv.toArray nc) ∈ IM) (hi : IntsAre cv xs) (hlen : xs.length ≤ 48) (hk0 : 0 ≤ k) (hk1 : k < 100)
  (hmd : (md, mo) ∈ IM) (lo : (md == sysModules) = false) (ho : mo.IsDictOf (bkind PG w) kvs) (hT : TabsOk PG w names22 kvs IM)
  (hrow : (rows, listOf rs.toArray nr) ∈ IM) (hR : RowsAre IM rs rowsL) (hwl : (wl, listOf wv.toArray nl) ∈ IM) (hwv : BytesAre wv words20)
  (hw : wo.IsDictOf (PySem.strKind PG w) [(PySem.Str.ofString "names", .ref wn), (PySem.Str.ofString "left", .int lf tl'), (PySem.Str.ofString "right", .int rg tr'), (PySem.Str.ofString "shift", sv')]) (hb : BytesAre vs ns) (hb' : BytesAre vs' ns) (hn : NamesOk ns) (hl0 : 0 ≤ lf) (hl1 : lf < 4) (hr0 : 0 ≤ rg) (hr1 : rg < 4) (hsh : ShIs sv sh) (hsh' : ShIs sv' sh)
  (d1 : Df deck ow) (d2 : Df deck od) (d3 : Df deck on) (d4 : Df deck wd) (d5 : Df deck wn) (d6 : Df ow od) (d7 : Df ow on) (d8 : Df ow wd) (d9 : Df ow wn) (d10 : Df od on) (d11 : Df od wd) (d12 : Df od wn) (d13 : Df on wd) (d14 : Df on wn) (d15 : Df wd wn) (d16 : Df cells deck) (d17 : Df md od)
  (o1 : ∀ p ∈ IM, p.1 ≠ deck) (o2 : ∀ p ∈ IM, p.1 ≠ ow) (o3 : ∀ p ∈ IM, p.1 ≠ od) (o4 : ∀ p ∈ IM, p.1 ≠ on) (o5 : ∀ p ∈ IM, p.1 ≠ wd) (o6 : ∀ p ∈ IM, p.1 ≠ wn)
  (F : Fr h₀ L s.heap (fun y => if y = Str.ofString "words" then some (.ref wl) else if y = Str.ofString "w" then some (.ref wd) else if y = Str.ofString "own" then some (.ref ow) else if y = Str.ofString "rows" then some (.ref rows) else if y = Str.ofString "deck" then some (.ref deck) else u y)) (hk2 : k < 90) :
  wpAny (model PG w) (callerA.deeper (envOf (Str.ofString "law") (lawScope w) L fa cd)) (execs (turnB w) (envOf (Str.ofString "law") (lawScope w) L fa cd)) (StPost w h₀ L deck cells ow od md rows wl IM (k + 5) s) E s := by
  have c1 := @first_spec w mg mb mean base h₀ L fa cd
  have c2 := @way_any w mg mb mean base h₀ L fa cd
  have c3 := @check_st w mg mb mean base h₀ L fa cd
  rw [turn_eq]
  generalize firstB w = S1 at c1 ⊢
  generalize wayB w = S2 at c2 ⊢
  generalize restB w = S3 at c3 ⊢
  refine wpAny_execs_cons (wpAny_mono (c1 B X T N hcell hi hlen hk0 hk1 hmd lo ho hT hrow hR hwl hwv hw hb hb' hn hl0 hl1 hr0 hr1 hsh hsh' d1 d2 d3 d4 d5 d6 d7 d8 d9 d10 d11 d12 d13 d14 d15 d16 d17 o1 o2 o3 o4 o5 o6 F) (fun f s₂ h₂ => ?_) fun _ _ e => e)
  obtain ⟨rfl, v, p, tv, tp, tt, h', tk₂, rfl, v0, v1, p0, p1, F1, N1⟩ := h₂
  refine wpAny_execs_cons (wpAny_mono (c2 (s := { s with heap := h', toks := tk₂ }) B X T N1 hcell hi hlen (by omega) (by omega) hmd lo ho hT hrow hR hwl hwv hw hb hb' hn hl0 hl1 hr0 hr1 hsh hsh' d1 d2 d3 d4 d5 d6 d7 d8 d9 d10 d11 d12 d13 d14 d15 d16 d17 o1 o2 o3 o4 o5 o6 F1 v0 v1 p0 p1) (fun f s₂ h₂ => ?_) fun _ _ e => e)
  obtain ⟨rfl, h', tk₂, m', l, rfl, F2, N2, st⟩ := h₂
  exact wpAny_mono (c3 (s := { s with heap := h', toks := tk₂ }) B X T hcell hi hlen (by omega) hmd lo ho hT hrow hR hwl hwv d1 d2 d6 d16 d17 o1 o2 o3 F2 N2 st) (fun f s₃ h₃ => StPost.mono (StPost.back h₃) (by omega)) fun _ _ e => e
end
end Mine
namespace Mine
section
variable {w : World} {mg mb : Str → Option Value} {mean : ExcName → Option Value} {base h₀ : Heap} {L fa : Addr} {cd : Value} {u : Str → Option Value} {s : Shared} {E : Value → Shared → Prop}
theorem fr_of {h₀ h : Heap} {L : Addr} {m m' : Str → Option Value} (e : m = m') (F : Fr h₀ L h m) : Fr h₀ L h m' := e ▸ F
theorem off_app {IM own : List (Addr × Obj)} {x I : Nat} (h : ∀ p ∈ IM, p.1 ≠ x) (ho : ∀ p ∈ own, p.1 = I) (hx : x ≠ I) : ∀ p ∈ IM ++ own, p.1 ≠ x := fun p hp => by
  rcases List.mem_append.mp hp with q | q
  · exact h p q
  · rw [ho p q]; exact Ne.symm hx
theorem law_loop {IM : List (Addr × Obj)} {deck cells ow od md wl rows nr nl nc : Nat} {mo : Obj} {kvs : List (Array UInt8 × Value)} {cv rs wv : List Value} {xs : List Int} {r num : Nat} {b₀ : Int} {t₀ u₀ v₀ : Tok} {m : Str → Option Value} {l : List (Addr × Obj)} {Q : Flow → Shared → Prop}
  (B : Below callerA base [] h₀) (X : (hd.heap_39 w.params).In h₀) (T : Top hd.view_39 (looseW hd.view_39 [Str.ofString "CHARSET_NAMES"]) mean mg mb h₀)
  (hcell : (cells, listOf cv.toArray nc) ∈ IM) (hi : IntsAre cv xs) (hlen : xs.length ≤ 48)
  (hmd : (md, mo) ∈ IM) (lo : (md == sysModules) = false) (ho : mo.IsDictOf (bkind PG w) kvs) (hT : TabsOk PG w names22 kvs IM)
  (hrow : (rows, listOf rs.toArray nr) ∈ IM) (hR : RowsAre IM rs rowsL) (hwl : (wl, listOf wv.toArray nl) ∈ IM) (hwv : BytesAre wv words20)
  (d1 : Df deck ow) (d2 : Df deck od) (d6 : Df ow od) (d16 : Df cells deck) (d17 : Df md od)
  (o1 : ∀ p ∈ IM, p.1 ≠ deck) (o2 : ∀ p ∈ IM, p.1 ≠ ow) (o3 : ∀ p ∈ IM, p.1 ≠ od)
  (hr : IsRange s.heap r 0 b₀ 1 t₀ u₀ v₀) (hsmall : Builtin.Range.small 0 b₀ 1 = true) (hnum : Builtin.Range.rangeSize 0 b₀ 1 = (num : Int)) (h12 : num ≤ 12)
  (F : Fr h₀ L s.heap m) (N : News h₀ L s.heap l) (st : LawSt w deck cells ow od md rows wl IM 1 m l)
  (done : ∀ m₁ l h tk, LawSt w deck cells ow od md rows wl IM 90 m₁ l → Fr h₀ L h m₁ → News h₀ L h l → Q .next { s with heap := h, toks := tk }) :
  wpAny (model PG w) (callerA.deeper (envOf (Str.ofString "law") (lawScope w) L fa cd)) (pyIter (.ref r)) (fun it s₂ => LoopAtV PG w (callerA.deeper (envOf (Str.ofString "law") (lawScope w) L fa cd)) h₀ (envOf (Str.ofString "law") (lawScope w) L fa cd) (Str.ofString "go") (turnB w) Q E it s₂) E s := by
  have c := @turn_spec w mg mb mean base h₀ L fa cd
  generalize turnB w = S at c ⊢
  refine loop_rng (n := num) (fun i m₁ l => LawSt w deck cells ow od md rows wl IM (1 + 5 * (i : Int)) m₁ l) rfl rfl hr hsmall hnum F N ?_ ?_ ?_
  · simpa using st
  · rintro i v m₁ news₁ h tk₁ own I hi' st hI ⟨oI, hown⟩ hown' F₁ N₁
    obtain ⟨k, tk, nd, on, wd, wn, n, n', vs, vs', ns, lf, rg, tl, tr, tl', tr', sv, sv', sh, k1, k2, k3, k4, k5, wo, rfl, hk, ⟨n1, n2, n3, n4, n5⟩, hw, hb, hb', hn, ⟨l0, l1, r0, r1⟩, hsh, hsh', ⟨d3, d4, d5, d7, d8, d9, d10, d11, d12, d13, d14, d15⟩, o4, o5, o6⟩ := st
    have hIM : ∀ p ∈ IM, p ∈ IM ++ own := fun p hp => List.mem_append.mpr (.inl hp)
    have hne : ∀ {x : Nat} {o : Obj}, (x, o) ∈ ((deck, listOf #[.ref cells, .int k tk] nd) :: (ow, instObj 146 od) :: (od, ownD w md on lf tl rg tr (sv) k1 k2 k3 k4 k5) :: (on, listOf vs.toArray n) :: (wd, wo) :: (wn, listOf vs'.toArray n') :: IM) → x ≠ I := fun hm => hI _ hm
    have i1 : deck ≠ I := hne (.head _)
    have i2 : ow ≠ I := hne (.tail _ (.head _))
    have i3 : od ≠ I := hne (.tail _ (.tail _ (.head _)))
    have i4 : on ≠ I := hne (.tail _ (.tail _ (.tail _ (.head _))))
    have i5 : wd ≠ I := hne (.tail _ (.tail _ (.tail _ (.tail _ (.head _)))))
    have i6 : wn ≠ I := hne (.tail _ (.tail _ (.tail _ (.tail _ (.tail _ (.head _))))))
    have hIMI : ∀ p ∈ IM, p.1 ≠ I := fun p hp => hI p (.tail _ (.tail _ (.tail _ (.tail _ (.tail _ (.tail _ hp))))))
    have e1 : ∀ {z : Str} {q : Option Value}, z ≠ Str.ofString "go" → m₁ z = q → (fun y => if y = Str.ofString "go" then some v else m₁ y) z = q := fun hz hq => by
      show (if _ = _ then _ else _) = _
      rw [if_neg hz]; exact hq
    have F₂ := fr_of (frame_eq (m' := fun y => if y = Str.ofString "go" then some v else m₁ y) (e1 (by decide +kernel) n1) (e1 (by decide +kernel) n2) (e1 (by decide +kernel) n3) (e1 (by decide +kernel) n4) (e1 (by decide +kernel) n5)) F₁
    have hkk : k ≤ 1 + 5 * (i : Int) := hk.2
    refine wpAny_mono (c (s := { s with heap := h, toks := tk₁ }) (IM := IM ++ own) B X T N₁ (hIM _ hcell) hi hlen hk.1 (by omega) (hIM _ hmd) lo ho (hT.mono hIM) (hIM _ hrow) (hR.mono hIM) (hIM _ hwl) hwv hw hb hb' hn l0 l1 r0 r1 hsh hsh'
      d1 d2 d3 d4 d5 d6 d7 d8 d9 d10 d11 d12 d13 d14 d15 d16 d17 (off_app o1 hown' i1) (off_app o2 hown' i2) (off_app o3 hown' i3) (off_app o4 hown' i4) (off_app o5 hown' i5) (off_app o6 hown' i6) F₂ (by omega)) (fun f s₃ h₃ => ?_) fun _ _ e => e
    clear F₂ F₁ N₁ n1 n2 n3 n4 n5 hw hb hb' hn hsh hsh' d3 d4 d5 d7 d8 d9 d10 d11 d12 d13 d14 d15 o4 o5 o6 i4 i5 i6 hI hne e1
    obtain ⟨rfl, h', tk', m', l', rfl, F3, N3, st'⟩ := h₃
    have hkm : k + 5 ≤ 1 + 5 * ((i + 1 : Nat) : Int) := by push_cast; omega
    obtain ⟨k', tk, nd, on, wd, wn, n, n', vs, vs', ns, lf, rg, tl, tr, tl', tr', sv, sv', sh, k1, k2, k3, k4, k5, wo, rfl, hk', nms, hw, hb, hb', hn, rngs, hsh, hsh', dd, o4, o5, o6⟩ := st'
    have hIa : ∀ x : Nat, (∀ p ∈ IM ++ own, p.1 ≠ x) → x ≠ I := fun x hx e => hx (I, oI) (List.mem_append.mpr (.inr hown)) e.symm
    refine TurnPost.next (news' := (deck, listOf #[.ref cells, .int k' tk] nd) :: (ow, instObj 146 od) :: (od, ownD w md on lf tl rg tr (sv) k1 k2 k3 k4 k5) :: (on, listOf vs.toArray n) :: (wd, wo) :: (wn, listOf vs'.toArray n') :: IM) F3 N3 ?_ ?_
    · intro p hp
      simp only [List.mem_cons] at hp
      rcases hp with rfl | rfl | rfl | rfl | rfl | rfl | hp
      · exact i1
      · exact i2
      · exact i3
      · exact hIa _ o4
      · exact hIa _ o5
      · exact hIa _ o6
      · exact hIMI p hp
    · exact ⟨k', tk, nd, on, wd, wn, n, n', vs, vs', ns, lf, rg, tl, tr, tl', tr', sv, sv', sh, k1, k2, k3, k4, k5, wo, rfl, ⟨hk'.1, Int.le_trans hk'.2 hkm⟩, nms, hw, hb, hb', hn, rngs, hsh, hsh', dd, fun p hp => o4 p (hIM p hp), fun p hp => o5 p (hIM p hp), fun p hp => o6 p (hIM p hp)⟩
  · rintro m₁ l h tk st F₁ N₁
    exact done m₁ l h tk (st.le (by omega)) F₁ N₁
end
end Mine
theorem Mine.kw34 : True := by
  w_top off
  k_with "MINE pyIter ref" => (k_here; (refine Mine.Halt.intro ?_))
  trivial
namespace Mine
noncomputable def thirdOf : List Stmt → Stmt
  | _ :: _ :: b :: _ => b
  | _ => .Pass ⟨0, 0, 0, 0⟩
noncomputable def forB (w : World) : Stmt := thirdOf (fdBody ((hd.heap_39 w.params).lookup 213))
theorem rng_small {r : Int} (h0 : 0 ≤ r) (h1 : r < 12) : Builtin.Range.small 0 (1 + r) 1 = true := by
  obtain ⟨n, rfl⟩ := Int.eq_ofNat_of_zero_le h0
  have h : ∀ n < 12, Builtin.Range.small 0 (1 + ((n : Nat) : Int)) 1 = true := by decide +kernel
  exact h n (by omega)
theorem rng_size {r : Int} (h0 : 0 ≤ r) (h1 : r < 12) : Builtin.Range.rangeSize 0 (1 + r) 1 = ((r.toNat + 1 : Nat) : Int) := by
  obtain ⟨n, rfl⟩ := Int.eq_ofNat_of_zero_le h0
  have h : ∀ n < 12, Builtin.Range.rangeSize 0 (1 + ((n : Nat) : Int)) 1 = (((n : Int).toNat + 1 : Nat) : Int) := by decide +kernel
  exact h n (by omega)
section
variable {w : World} {mg mb : Str → Option Value} {mean : ExcName → Option Value} {base h₀ : Heap} {L fa : Addr} {cd : Value} {u : Str → Option Value} {s : Shared} {E : Value → Shared → Prop}
theorem law_for {IM : List (Addr × Obj)} {deck cells ow od md on wd wn wl rows nd nr nl nc n n' : Nat} {mo wo : Obj} {kvs : List (Array UInt8 × Value)} {cv rs wv vs vs' : List Value} {xs : List Int} {ns : List (Array UInt8)} {k lf rg : Int} {tk tl tr tl' tr' : Tok} {sv sv' : Value} {sh : Option Int} {k1 k2 k3 k4 k5 : Tok} (B : Below callerA base [] h₀) (X : (hd.heap_39 w.params).In h₀) (T : Top hd.view_39 (looseW hd.view_39 [Str.ofString "CHARSET_NAMES"]) mean mg mb h₀)
  (N : News h₀ L s.heap ((deck, listOf #[.ref cells, .int k tk] nd) :: (ow, instObj 146 od) :: (od, ownD w md on lf tl rg tr (sv) k1 k2 k3 k4 k5) :: (on, listOf vs.toArray n) :: (wd, wo) :: (wn, listOf vs'.toArray n') :: IM))
  (hcell : (cells, listOf cv.toArray nc) ∈ IM) (hi : IntsAre cv xs) (hlen : xs.length ≤ 48) (hk0 : 0 ≤ k) (hk1 : k < 100)
  (hmd : (md, mo) ∈ IM) (lo : (md == sysModules) = false) (ho : mo.IsDictOf (bkind PG w) kvs) (hT : TabsOk PG w names22 kvs IM)
  (hrow : (rows, listOf rs.toArray nr) ∈ IM) (hR : RowsAre IM rs rowsL) (hwl : (wl, listOf wv.toArray nl) ∈ IM) (hwv : BytesAre wv words20)
  (hw : wo.IsDictOf (PySem.strKind PG w) [(PySem.Str.ofString "names", .ref wn), (PySem.Str.ofString "left", .int lf tl'), (PySem.Str.ofString "right", .int rg tr'), (PySem.Str.ofString "shift", sv')]) (hb : BytesAre vs ns) (hb' : BytesAre vs' ns) (hn : NamesOk ns) (hl0 : 0 ≤ lf) (hl1 : lf < 4) (hr0 : 0 ≤ rg) (hr1 : rg < 4) (hsh : ShIs sv sh) (hsh' : ShIs sv' sh)
  (d1 : Df deck ow) (d2 : Df deck od) (d3 : Df deck on) (d4 : Df deck wd) (d5 : Df deck wn) (d6 : Df ow od) (d7 : Df ow on) (d8 : Df ow wd) (d9 : Df ow wn) (d10 : Df od on) (d11 : Df od wd) (d12 : Df od wn) (d13 : Df on wd) (d14 : Df on wn) (d15 : Df wd wn) (d16 : Df cells deck) (d17 : Df md od)
  (o1 : ∀ p ∈ IM, p.1 ≠ deck) (o2 : ∀ p ∈ IM, p.1 ≠ ow) (o3 : ∀ p ∈ IM, p.1 ≠ od) (o4 : ∀ p ∈ IM, p.1 ≠ on) (o5 : ∀ p ∈ IM, p.1 ≠ wd) (o6 : ∀ p ∈ IM, p.1 ≠ wn)
  (F : Fr h₀ L s.heap (fun y => if y = Str.ofString "words" then some (.ref wl) else if y = Str.ofString "w" then some (.ref wd) else if y = Str.ofString "own" then some (.ref ow) else if y = Str.ofString "rows" then some (.ref rows) else if y = Str.ofString "deck" then some (.ref deck) else u y)) (hk2 : k = 0) {Q : Flow → Shared → Prop} (hE : PassesOwn (model PG w) (callerA.deeper (envOf (Str.ofString "law") (lawScope w) L fa cd)) (envOf (Str.ofString "law") (lawScope w) L fa cd) E)
  (done : ∀ m₁ l h tk, LawSt w deck cells ow od md rows wl IM 90 m₁ l → Fr h₀ L h m₁ → News h₀ L h l → Q .next { s with heap := h, toks := tk }) :
  wpAny (model PG w) (callerA.deeper (envOf (Str.ofString "law") (lawScope w) L fa cd)) (exec (forB w) (envOf (Str.ofString "law") (lawScope w) L fa cd)) Q E s := by
  have cl := @law_loop w mg mb mean base h₀ L fa cd
  conv at hE in (occs := *) lawScope w => all_goals whnf
  conv in (occs := *) lawScope w => all_goals whnf
  with_unfolding_all show wpAny _ _ (exec (Stmt.For _ _ (turnB w) [] _) _) _ _ _
  generalize turnB w = S at cl ⊢
  k_here
  k_dflt (refine' For_invVF ?F ?hx ?hp ?_ ?hs ?hE; (case F => k_asm); (case hx => exact rfl); (case hp => exact rfl); (case hs => (intro _; exact rfl)); (case hE => exact hE))
  k_steps
  all_goals unfold Halt
  rename IsRange _ _ _ _ _ _ _ _ => hrg
  rename 0 ≤ _ => h0
  rename _ < 12 => h12
  refine cl B X T hcell hi hlen hmd lo ho hT hrow hR hwl hwv d1 d2 d6 d16 d17 o1 o2 o3 hrg (rng_small (by omega) (by omega)) (rng_size (by omega) (by omega)) (by omega) (by assumption) (by assumption) ?_ done
  exact ⟨_, _, _, _, _, _, _, _, _, _, _, _, _, _, _, _, _, _, _, _, _, _, _, _, _, _, rfl, ⟨by omega, by omega⟩, ⟨rfl, rfl, rfl, rfl, rfl⟩, hw, hb, hb', hn, ⟨hl0, hl1, hr0, hr1⟩, hsh, hsh', ⟨d3, d4, d5, d7, d8, d9, d10, d11, d12, d13, d14, d15⟩, o4, o5, o6⟩
end
end Mine
namespace Mine
section
variable {w : World} {mg mb : Str → Option Value} {mean : ExcName → Option Value} {base h₀ : Heap} {L fa : Addr} {cd : Value} {u : Str → Option Value} {s : Shared} {E : Value → Shared → Prop}
theorem law_enter {TB RB : List (Addr × Obj)} {deck cells c2 ow od md on wd wn wl rows tp nd nr nl nc n n' : Nat} {mo wo o2 tobj : Obj} {kvs : List (Array UInt8 × Value)} {cv rs wv vs vs' : List Value} {xs : List Int} {ns : List (Array UInt8)} {lf rg : Int} {tk tl tr tl' tr' : Tok} {k1 k2 k3 k4 k5 : Tok} {Q : Flow → Shared → Prop}
  (B : Below callerA base [] h₀) (X : (hd.heap_39 w.params).In h₀) (T : Top hd.view_39 (looseW hd.view_39 [Str.ofString "CHARSET_NAMES"]) mean mg mb h₀)
  (N : News h₀ L s.heap ((wl, listOf wv.toArray nl) :: (tp, tobj) :: (wn, listOf vs'.toArray n') :: (wd, wo) :: (on, listOf vs.toArray n) :: (ow, instObj 146 od) :: (od, ownD w md on lf tl rg tr (.none) k1 k2 k3 k4 k5) :: (TB ++ (RB ++ [(deck, listOf #[.ref cells, .int 0 tk] nd), (cells, listOf cv.toArray nc), (c2, o2)]))))
  (hi : IntsAre cv xs) (hlen : xs.length ≤ 48)
  (hmd : (md, mo) ∈ TB) (lo : (md == sysModules) = false) (ho : mo.IsDictOf (bkind PG w) kvs) (hT : TabsOk PG w names22 kvs TB)
  (hrow : (rows, listOf rs.toArray nr) ∈ RB) (hR : RowsAre RB rs rowsL) (hwv : BytesAre wv words20)
  (hw : wo.IsDictOf (PySem.strKind PG w) [(PySem.Str.ofString "names", .ref wn), (PySem.Str.ofString "left", .int lf tl'), (PySem.Str.ofString "right", .int rg tr'), (PySem.Str.ofString "shift", .none)]) (hb : BytesAre vs ns) (hb' : BytesAre vs' ns) (hn : NamesOk ns) (hl0 : 0 ≤ lf) (hl1 : lf < 4) (hr0 : 0 ≤ rg) (hr1 : rg < 4)
  (offT : Off TB (RB ++ [(deck, listOf #[.ref cells, .int 0 tk] nd), (cells, listOf cv.toArray nc), (c2, o2)])) (offR : Off RB [(deck, listOf #[.ref cells, .int 0 tk] nd), (cells, listOf cv.toArray nc), (c2, o2)])
  (a1 : cells < deck) (z : ∀ p ∈ TB ++ (RB ++ [(deck, listOf #[.ref cells, .int 0 tk] nd), (cells, listOf cv.toArray nc), (c2, o2)]), p.1 < od) (q1 : od < ow) (q2 : ow < on) (q3 : on < wd) (q4 : wd < wn) (q5 : wn < wl)
  (F : Fr h₀ L s.heap (fun y => if y = Str.ofString "words" then some (.ref wl) else if y = Str.ofString "w" then some (.ref wd) else if y = Str.ofString "own" then some (.ref ow) else if y = Str.ofString "rows" then some (.ref rows) else if y = Str.ofString "deck" then some (.ref deck) else u y)) (hE : PassesOwn (model PG w) (callerA.deeper (envOf (Str.ofString "law") (lawScope w) L fa cd)) (envOf (Str.ofString "law") (lawScope w) L fa cd) E)
  (done : ∀ IM m₁ l h tk, TabsOk PG w names22 kvs IM → (md, mo) ∈ IM → LawSt w deck cells ow od md rows wl IM 90 m₁ l → Fr h₀ L h m₁ → News h₀ L h l → Q .next { s with heap := h, toks := tk }) :
  wpAny (model PG w) (callerA.deeper (envOf (Str.ofString "law") (lawScope w) L fa cd)) (exec (forB w) (envOf (Str.ofString "law") (lawScope w) L fa cd)) Q E s := by
  have c := @law_for w mg mb mean base h₀ L fa cd
  generalize forB w = S at c ⊢
  have sT : ∀ p ∈ TB, p ∈ (wl, listOf wv.toArray nl) :: (TB ++ (RB ++ [(cells, listOf cv.toArray nc)])) := fun p hp => .tail _ (List.mem_append.mpr (.inl hp))
  have sR : ∀ p ∈ RB, p ∈ (wl, listOf wv.toArray nl) :: (TB ++ (RB ++ [(cells, listOf cv.toArray nc)])) := fun p hp => .tail _ (List.mem_append.mpr (.inr (List.mem_append.mpr (.inl hp))))
  have sC : (cells, listOf cv.toArray nc) ∈ (wl, listOf wv.toArray nl) :: (TB ++ (RB ++ [(cells, listOf cv.toArray nc)])) := .tail _ (List.mem_append.mpr (.inr (List.mem_append.mpr (.inr (.head _)))))
  have back : ∀ p ∈ TB ++ (RB ++ [(cells, listOf cv.toArray nc)]), p ∈ TB ++ (RB ++ [(deck, listOf #[.ref cells, .int 0 tk] nd), (cells, listOf cv.toArray nc), (c2, o2)]) := fun p hp => by
    rcases List.mem_append.mp hp with hp | hp
    · exact List.mem_append.mpr (.inl hp)
    · rcases List.mem_append.mp hp with hp | hp
      · exact List.mem_append.mpr (.inr (List.mem_append.mpr (.inl hp)))
      · rw [List.mem_singleton.mp hp]
        exact List.mem_append.mpr (.inr (List.mem_append.mpr (.inr (.tail _ (.head _)))))
  have zd : deck < od := z (deck, listOf #[.ref cells, .int 0 tk] nd) (List.mem_append.mpr (.inr (List.mem_append.mpr (.inr (.head _)))))
  have zm : md < od := z _ (List.mem_append.mpr (.inl hmd))
  have off : ∀ x : Nat, od ≤ x → x < wl → ∀ p ∈ (wl, listOf wv.toArray nl) :: (TB ++ (RB ++ [(cells, listOf cv.toArray nc)])), p.1 ≠ x := fun x h1 h2 p hp => by
    rcases List.mem_cons.mp hp with rfl | hp
    · exact Nat.ne_of_gt h2
    · exact Nat.ne_of_lt (Nat.lt_of_lt_of_le (z p (back p hp)) h1)
  have offd : ∀ p ∈ (wl, listOf wv.toArray nl) :: (TB ++ (RB ++ [(cells, listOf cv.toArray nc)])), p.1 ≠ deck := fun p hp => by
    rcases List.mem_cons.mp hp with rfl | hp
    · show wl ≠ deck; omega
    · rcases List.mem_append.mp hp with hp | hp
      · exact Ne.symm (offT p hp (deck, listOf #[.ref cells, .int 0 tk] nd) (List.mem_append.mpr (.inr (.head _))))
      · rcases List.mem_append.mp hp with hp | hp
        · exact Ne.symm (offR p hp (deck, listOf #[.ref cells, .int 0 tk] nd) (.head _))
        · rw [List.mem_singleton.mp hp]; show cells ≠ deck; omega
  have s1 : od < on := Nat.lt_trans q1 q2
  have s2 : od < wd := Nat.lt_trans s1 q3
  have s3 : od < wn := Nat.lt_trans s2 q4
  have s4 : ow < wd := Nat.lt_trans q2 q3
  have s5 : ow < wn := Nat.lt_trans s4 q4
  have s6 : on < wn := Nat.lt_trans q3 q4
  have t1 : deck < ow := Nat.lt_trans zd q1
  have t2 : deck < on := Nat.lt_trans zd s1
  have t3 : deck < wd := Nat.lt_trans zd s2
  have t4 : deck < wn := Nat.lt_trans zd s3
  refine c (k := 0) (nd := nd) (n := n) (n' := n') (tk := tk) (tl := tl) (tr := tr) (k1 := k1) (k2 := k2) (k3 := k3) (k4 := k4) (k5 := k5) (sv := .none) (sv' := .none) (sh := Option.none) B X T (cb_drop N ?_) sC hi hlen (by omega) (by omega) (sT _ hmd) lo ho (hT.mono sT) (sR _ hrow) (hR.mono sR) (.head _) hwv hw hb hb' hn hl0 hl1 hr0 hr1 .none .none
    ?_ ?_ ?_ ?_ ?_ ?_ ?_ ?_ ?_ ?_ ?_ ?_ ?_ ?_ ?_ ?_ ?_ offd (off ow (Nat.le_of_lt q1) (Nat.lt_trans s5 q5)) (off od (Nat.le_refl _) (Nat.lt_trans s3 q5)) (off on (Nat.le_of_lt s1) (Nat.lt_trans s6 q5)) (off wd (Nat.le_of_lt s2) (Nat.lt_trans q4 q5)) (off wn (Nat.le_of_lt s3) q5) F rfl hE (fun m₁ l h tk st F' N' => done _ m₁ l h tk (hT.mono sT) (sT _ hmd) st F' N')
  · intro p hp
    simp only [List.mem_cons] at hp
    rcases hp with rfl | rfl | rfl | rfl | rfl | rfl | rfl | hp
    · exact .tail _ (.tail _ (.tail _ (.tail _ (.tail _ (.tail _ (.tail _ (List.mem_append.mpr (.inr (List.mem_append.mpr (.inr (.head _))))))))))) 
    · exact .tail _ (.tail _ (.tail _ (.tail _ (.tail _ (.head _)))))
    · exact .tail _ (.tail _ (.tail _ (.tail _ (.tail _ (.tail _ (.head _))))))
    · exact .tail _ (.tail _ (.tail _ (.tail _ (.head _))))
    · exact .tail _ (.tail _ (.tail _ (.head _)))
    · exact .tail _ (.tail _ (.head _))
    · exact .head _
    · exact .tail _ (.tail _ (.tail _ (.tail _ (.tail _ (.tail _ (.tail _ (back p hp)))))))
  all_goals first | exact Nat.ne_of_lt (by with_reducible assumption) | exact Nat.ne_of_gt (by with_reducible assumption) | (show _ ≠ _; omega)
end
end Mine
theorem Mine.kw35 : True := by
  w_top off
  k_with "exec For Name Call cons nil" => (k_here; (refine Mine.Halt.intro ?_))
  trivial
theorem PySem.Challenge.cw_on0326_01_holds : PySem.Challenge.rw_on0326_01.Holds := by
  refine hd ?_
  k_go0
  all_goals (try k_fold)
  k_steps
  unfold Mine.Halt
  rename World => ww
  have cf := @Mine.law_enter ww
  with_unfolding_all show wpAny _ (callerA.deeper (envOf (PySem.Str.ofString "law") (Mine.lawScope ww) _ _ _)) (exec (Mine.forB ww) (envOf (PySem.Str.ofString "law") (Mine.lawScope ww) _ _ _)) _ _ _
  generalize Mine.forB ww = S at cf ⊢
  refine' cf ?B ?X ?T ?N ?hi ?hlen ?hmd ?lo ?ho ?hT ?hrow ?hR ?hwv ?hw ?hb ?hb2 ?hn ?l0 ?l1 ?r0 ?r1 ?oT ?oR ?a1 ?z ?q1 ?q2 ?q3 ?q4 ?q5 ?F ?hE ?done
  case B => k_asm
  case X => k_asm
  case T => k_asm
  case N => k_asm
  case F => k_asm
  case hi => with_reducible assumption
  case hlen => exact List.length_take_le _ _
  case hmd => with_reducible assumption
  case lo => with_reducible assumption
  case ho => with_reducible assumption
  case hT => with_reducible assumption
  case hrow => with_reducible assumption
  case hR => with_reducible assumption
  case hwv => assumption
  case hw => with_reducible assumption
  case hb => k_extra "MINE bytes"
  case hb2 => k_extra "MINE bytes"
  case hn => exact NamesOk.four (by decide +kernel) (by decide +kernel) (by decide +kernel) (by decide +kernel)
  case l0 => omega
  case l1 => omega
  case r0 => omega
  case r1 => omega
  case oT => with_reducible assumption
  case oR => with_reducible assumption
  case a1 => omega
  case z => first | with_reducible assumption | exact ktn_ltOf (by k_extra "MINE lt")
  case q1 => omega
  case q2 => omega
  case q3 => omega
  case q4 => omega
  case q5 => omega
  case hE => passes_own
  case done =>
    intro IM m₁ l h tk hT9 hmd9 st F9 N9
    obtain ⟨k, tk, nd, on, wd, wn, n, n', vs, vs', ns, lf, rg, tl, tr, tl', tr', sv, sv', sh, k1, k2, k3, k4, k5, wo, rfl, hk, ⟨n1, n2, n3, n4, n5⟩, hw, hb, hb', hn, ⟨l0, l1, r0, r1⟩, hsh, hsh', ⟨d3, d4, d5, d7, d8, d9, d10, d11, d12, d13, d14, d15⟩, o4, o5, o6⟩ := st
    rw [Mine.frame_eq n1 n2 n3 n4 n5] at F9
    clear n1 n2 n3 n4 n5 cf
    dsimp only
    k_steps
